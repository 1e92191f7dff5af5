import PyProof.Rows.All
import Wide.All
import OpenK.AllK
import Wide.FinOn
import HandS.ForMost
import HandS.EndBits
import HandS.TupAny
import HandS.TupMul
import HandS.Wide
import HandS.WideBits
import HandS.Style
import HandS.Codes
import HandS.Flow
import HandS.Deep
import HandS.IsInst
import HandS.TupLe
import PyProof.ListStr
import PyProof.CollectStr
import PyProof.TupleOfStr
import HandS.Exc
import HandS.ExcOwn
import HandS.WordsExc
import HandS.StrMore
import HandS.Conv
import HandS.Iter
import PyProof.Draws
import PyProof.ListRange
import PyProof.Rows.StrRev
import HandS.Strs
import HandS.WideMore
import HandS.SortOrd
import HandS.SortInts
import PyProof.TupleOfSeq
import HandS.More
import KE.SortKeyHeap
import KE.SortData
import HandS.Replace
import HandS.TryOnly
import PySem.Challenge.RW_tworeadings_k33_whole_codes_for_lengths
set_option maxHeartbeats 4000000
set_option Elab.async false
set_option linter.all false
set_option maxRecDepth 100000
/-! W3, part a: plain data over the hand layer: values without a heap, mutable things owned by slots. -/
namespace L2.W3
open PySem PySem.Spec PyProof.Rows

/-- plain data -/
inductive D where
  | non | bl (b : Bool) | int (i : Int) | str (s : List Nat) | tup (l : List D) | lst (l : List D) | dik (l : List (Key × D)) | dit (l : List (List Key × D)) | ty (n : String) | box | obj (a : Addr)

/-- a text's signs are code points -/
def okS (s : List Nat) : Bool := s.all fun c => decide (c < 1114112)
/-- a key's text, too -/
def okK : Key → Bool
  | .inl _ => true
  | .inr s => okS s.cps.toList
mutual
inductive Rep (K : PySem.W.Frag) (B : Addr) (G : Hp) : V → D → Prop
  | non : Rep K B G .non .non
  | bl (b : Bool) : Rep K B G (.bl b) (.bl b)
  | int (i : Int) : Rep K B G (.int i) (.int i)
  | str {s : List Nat} (h : okS s = true) : Rep K B G (.str ⟨s.toArray⟩) (.str s)
  | ty (n : String) : Rep K B G (.ty n) (.ty n)
  | box : Rep K B G (.ref B) .box
  | obj (a : Addr) : Rep K B G (.ref a) (.obj a)
  | tup {a : Addr} {vs : List V} {ds : List D} : G a = some (.tup vs) → RepL K B G vs ds → Rep K B G (.ref a) (.tup ds)
  | lst {a : Addr} {vs : List V} {ds : List D} : G a = some (.lst vs) → RepL K B G vs ds → Rep K B G (.ref a) (.lst ds)
  | dik {a : Addr} {kvs : List (Key × V)} {es : List (Key × D)} : Rd G a (.dK kvs) → RepK K B G kvs es → Rep K B G (.ref a) (.dik es)
  | dit {a : Addr} {kvs : List (List Key × V)} {es : List (List Key × D)} : Rd G a (.dT kvs) → RepT K B G kvs es → Rep K B G (.ref a) (.dit es)
inductive RepL (K : PySem.W.Frag) (B : Addr) (G : Hp) : List V → List D → Prop
  | nil : RepL K B G [] []
  | cons {v : V} {vs : List V} {d : D} {ds : List D} : Rep K B G v d → RepL K B G vs ds → RepL K B G (v :: vs) (d :: ds)
inductive RepK (K : PySem.W.Frag) (B : Addr) (G : Hp) : List (Key × V) → List (Key × D) → Prop
  | nil : RepK K B G [] []
  | cons {k : Key} {v : V} {vs : List (Key × V)} {d : D} {ds : List (Key × D)} : okK k = true → Rep K B G v d → RepK K B G vs ds → RepK K B G ((k, v) :: vs) ((k, d) :: ds)
inductive RepT (K : PySem.W.Frag) (B : Addr) (G : Hp) : List (List Key × V) → List (List Key × D) → Prop
  | nil : RepT K B G [] []
  | cons {k : List Key} {v : V} {vs : List (List Key × V)} {d : D} {ds : List (List Key × D)} : k.all okK = true → Rep K B G v d → RepT K B G vs ds → RepT K B G ((k, v) :: vs) ((k, d) :: ds)
end
theorem rd_mono {G G' : Hp} (e : Same G G') {a : Addr} {u : HO} (h : Rd G a u) : Rd G' a u := by
  rcases h with h | ⟨o, h⟩
  · exact .inl (e _ _ h)
  · exact .inr ⟨o, e _ _ h⟩

section
variable {K : PySem.W.Frag} {B : Addr} {G G' : Hp}
theorem sqT_mono (e : Same G G') {a : Addr} {xs : List V} (h : SqT K G a xs) : SqT K G' a xs := by
  rcases h with (h | ⟨o, h⟩) | h
  · exact .inl (.inl (e _ _ h))
  · exact .inl (.inr ⟨o, e _ _ h⟩)
  · exact .inr h
mutual
theorem Rep.mono (e : Same G G') : ∀ {v : V} {d : D}, Rep K B G v d → Rep K B G' v d
  | _, _, .non => .non
  | _, _, .bl b => .bl b
  | _, _, .int i => .int i
  | _, _, .str h => .str h
  | _, _, .ty n => .ty n
  | _, _, .box => .box
  | _, _, .obj a => .obj a
  | _, _, .tup h r => .tup (e _ _ h) (RepL.mono e r)
  | _, _, .lst h r => .lst (e _ _ h) (RepL.mono e r)
  | _, _, .dik h r => .dik (rd_mono e h) (RepK.mono e r)
  | _, _, .dit h r => .dit (rd_mono e h) (RepT.mono e r)
theorem RepL.mono (e : Same G G') : ∀ {vs : List V} {ds : List D}, RepL K B G vs ds → RepL K B G' vs ds
  | _, _, .nil => .nil
  | _, _, .cons a r => .cons (Rep.mono e a) (RepL.mono e r)
theorem RepK.mono (e : Same G G') : ∀ {vs : List (Key × V)} {ds : List (Key × D)}, RepK K B G vs ds → RepK K B G' vs ds
  | _, _, .nil => .nil
  | _, _, .cons o a r => .cons o (Rep.mono e a) (RepK.mono e r)
theorem RepT.mono (e : Same G G') : ∀ {vs : List (List Key × V)} {ds : List (List Key × D)}, RepT K B G vs ds → RepT K B G' vs ds
  | _, _, .nil => .nil
  | _, _, .cons o a r => .cons o (Rep.mono e a) (RepT.mono e r)
end
theorem RepL.length : ∀ {vs : List V} {ds : List D}, RepL K B G vs ds → vs.length = ds.length
  | _, _, .nil => rfl
  | _, _, .cons _ r => by simp [RepL.length r]
theorem RepL.get : ∀ {vs : List V} {ds : List D} {i : Nat} {d : D}, RepL K B G vs ds → ds[i]? = some d → ∃ v, vs[i]? = some v ∧ Rep K B G v d
  | _, _, i, d, .nil, h => by simp at h
  | _, _, 0, d, .cons a r, h => by
    simp at h; subst h; exact ⟨_, rfl, a⟩
  | _, _, i + 1, d, .cons a r, h => by
    obtain ⟨v, e, q⟩ := RepL.get (i := i) r (by simpa using h)
    exact ⟨v, by simpa using e, q⟩
theorem RepL.getV : ∀ {vs : List V} {ds : List D} {i : Nat} {v : V}, RepL K B G vs ds → vs[i]? = some v → ∃ d, ds[i]? = some d ∧ Rep K B G v d
  | _, _, i, d, .nil, h => by simp at h
  | _, _, 0, d, .cons a r, h => by
    simp at h; subst h; exact ⟨_, rfl, a⟩
  | _, _, i + 1, d, .cons a r, h => by
    obtain ⟨v, e, q⟩ := RepL.getV (i := i) r (by simpa using h)
    exact ⟨v, by simpa using e, q⟩
theorem RepL.append : ∀ {vs ws : List V} {ds es : List D}, RepL K B G vs ds → RepL K B G ws es → RepL K B G (vs ++ ws) (ds ++ es)
  | _, _, _, _, .nil, h => h
  | _, _, _, _, .cons a r, h => .cons a (RepL.append r h)
theorem RepL.take : ∀ {vs : List V} {ds : List D} (n : Nat), RepL K B G vs ds → RepL K B G (vs.take n) (ds.take n)
  | _, _, 0, _ => .nil
  | _, _, _ + 1, .nil => .nil
  | _, _, n + 1, .cons a r => .cons a (RepL.take n r)
theorem RepL.drop : ∀ {vs : List V} {ds : List D} (n : Nat), RepL K B G vs ds → RepL K B G (vs.drop n) (ds.drop n)
  | _, _, 0, h => h
  | _, _, _ + 1, .nil => .nil
  | _, _, n + 1, .cons a r => RepL.drop n r
theorem RepL.set : ∀ {vs : List V} {ds : List D} {v : V} {d : D} (n : Nat), RepL K B G vs ds → Rep K B G v d → RepL K B G (vs.set n v) (ds.set n d)
  | _, _, _, _, _, .nil, _ => .nil
  | _, _, _, _, 0, .cons _ r, h => .cons h r
  | _, _, _, _, n + 1, .cons a r, h => .cons a (RepL.set n r h)
theorem RepL.reverse : ∀ {vs : List V} {ds : List D}, RepL K B G vs ds → RepL K B G vs.reverse ds.reverse
  | _, _, .nil => .nil
  | _, _, .cons a r => by
    rw [List.reverse_cons, List.reverse_cons]
    exact RepL.append (RepL.reverse r) (.cons a .nil)
theorem RepL.dropLast : ∀ {vs : List V} {ds : List D}, RepL K B G vs ds → RepL K B G vs.dropLast ds.dropLast
  | _, _, .nil => .nil
  | _, _, .cons a .nil => .nil
  | _, _, .cons a (.cons b r) => .cons a (RepL.dropLast (.cons b r))
end

/-- the law's drawer: one object, its footprint, what holds of it -/
structure Bx where
  adr : Addr
  fp : List Addr
  inv : Hp → Prop
  loc : ∀ H H' : Hp, (∀ a ∈ fp, H' a = H a) → inv H → inv H'
  has : ∀ H : Hp, inv H → ∀ a ∈ fp, ∃ o, H a = some o ∧ Mut (some o)

/-- F: what others own (kept, never frozen); G: what is frozen; H: all -/
structure Fr3 (bx : Bx) (F G H : Hp) : Prop where
  gs : Same G H
  fs : Same F H
  fg : ∀ a o, F a = some o → G a = none ∧ Mut (some o)
  bi : bx.inv H
  bg : ∀ a ∈ bx.fp, G a = none ∧ F a = none

inductive Sl where
  | un | val (d : D) | own (d : D)
abbrev Env3 := List Sl
inductive R where
  | val (d : D) | new (d : D) | slot (i : Nat)

def Own (ρ : Env3) (σ : St) (i : Nat) (p : Addr) : Prop := (∃ d, ρ[i]? = some (.own d)) ∧ σ[i]? = some (some (.ref p))
inductive Top (K : PySem.W.Frag) (B : Addr) (G H : Hp) (p : Addr) : D → Prop
  | lst {vs : List V} {ds : List D} : H p = some (.lst vs) → RepL K B G vs ds → Top K B G H p (.lst ds)
  | dik {kvs : List (Key × V)} {es : List (Key × D)} : H p = some (.dK kvs) → RepK K B G kvs es → Top K B G H p (.dik es)
  | dit {kvs : List (List Key × V)} {es : List (List Key × D)} : H p = some (.dT kvs) → RepT K B G kvs es → Top K B G H p (.dit es)

structure Stt (K : PySem.W.Frag) (bx : Bx) (F : Hp) (ρ : Env3) (σ : St) (G H : Hp) : Prop extends Fr3 bx F G H where
  len : ρ.length = σ.length
  vl : ∀ (i : Nat) (d : D), ρ[i]? = some (Sl.val d) → ∃ v, σ[i]? = some (some v) ∧ Rep K bx.adr G v d
  ow : ∀ (i : Nat) (d : D), ρ[i]? = some (Sl.own d) → ∃ p, σ[i]? = some (some (V.ref p)) ∧ Top K bx.adr G H p d ∧ G p = none ∧ F p = none ∧ p ∉ bx.fp
  dj : ∀ i j p, Own ρ σ i p → Own ρ σ j p → i = j

/-- a new thing at p that nobody else has -/
def Sole (K : PySem.W.Frag) (bx : Bx) (F G H : Hp) (p : Addr) (d : D) : Prop := Top K bx.adr G H p d ∧ G p = none ∧ F p = none ∧ p ∉ bx.fp
def RepR (K : PySem.W.Frag) (bx : Bx) (F : Hp) (ρ : Env3) (σ : St) (G H : Hp) (r : R) (v : V) : Prop :=
  match r with
  | .val d => Rep K bx.adr G v d
  | .new d => ∃ p, v = .ref p ∧ Sole K bx F G H p d ∧ ∀ i, ¬ Own ρ σ i p
  | .slot i => σ[i]? = some (some v)

section
variable {K : PySem.W.Frag} {B : Addr} {bx : Bx} {F G G' H H' : Hp} {ρ ρ' : Env3} {σ : St} {r : R} {v : V} {p : Addr} {d : D}

theorem Top.mono (e : Same G G') (h : Top K B G H p d) : Top K B G' H p d := by
  cases h with
  | lst h r => exact .lst h (r.mono e)
  | dik h r => exact .dik h (r.mono e)
  | dit h r => exact .dit h (r.mono e)
theorem Top.heap (e : H' p = H p) (h : Top K B G H p d) : Top K B G H' p d := by
  cases h with
  | lst h r => exact .lst (e.trans h) r
  | dik h r => exact .dik (e.trans h) r
  | dit h r => exact .dit (e.trans h) r
theorem Top.some (h : Top K B G H p d) : ∃ o, H p = some o := by
  cases h with
  | lst h r => exact ⟨_, h⟩
  | dik h r => exact ⟨_, h⟩
  | dit h r => exact ⟨_, h⟩

theorem top_mut {o : HO} (h : Top K B G H p d) (e : H p = some o) : Mut (some o) := by
  cases h with
  | lst h r => rw [h] at e; cases e; exact True.intro
  | dik h r => rw [h] at e; cases e; exact True.intro
  | dit h r => rw [h] at e; cases e; exact True.intro
/-- what is pending while other parts run -/
def pend (F H : Hp) (r : R) (v : V) : Hp :=
  match r, v with
  | .new _, .ref p => fun a => if a = p then H p else F a
  | _, _ => F

theorem pend_st (st : Stt K bx F ρ σ G H) (rr : RepR K bx F ρ σ G H r v) : Stt K bx (pend F H r v) ρ σ G H := by
  cases r with
  | val d => exact st
  | slot i => exact st
  | new d =>
    obtain ⟨p, rfl, ⟨tp, gp, fp, bp⟩, no⟩ := rr
    obtain ⟨o, ho⟩ := tp.some
    refine ⟨⟨st.gs, fun a u e => ?_, fun a u e => ?_, st.bi, fun a ha => ⟨(st.bg a ha).1, ?_⟩⟩, st.len, st.vl, fun i d' e => ?_, st.dj⟩
    · by_cases h : a = p
      · subst h; simp only [pend, if_pos] at e; exact e
      · simp only [pend, if_neg h] at e; exact st.fs a u e
    · by_cases h : a = p
      · subst h; simp only [pend, if_pos] at e; exact ⟨gp, top_mut tp e⟩
      · simp only [pend, if_neg h] at e; exact st.fg a u e
    · have h : a ≠ p := fun h => bp (h ▸ ha)
      simp only [pend, if_neg h]; exact (st.bg a ha).2
    · obtain ⟨q, e1, t, e2, e3, e4⟩ := st.ow i d' e
      have h : q ≠ p := fun h => no i ⟨⟨_, e⟩, h ▸ e1⟩
      exact ⟨q, e1, t, e2, by simp only [pend, if_neg h]; exact e3, e4⟩

theorem pend_back {F0 G0 H0 G1 H1 : Hp} {ρ0 ρ1 : Env3} (st0 : Stt K bx F0 ρ0 σ G0 H0) (rr : RepR K bx F0 ρ0 σ G0 H0 r v) (g : Same G0 G1) (st1 : Stt K bx (pend F0 H0 r v) ρ1 σ G1 H1) :
    Stt K bx F0 ρ1 σ G1 H1 ∧ RepR K bx F0 ρ1 σ G1 H1 r v := by
  cases r with
  | val d => exact ⟨st1, Rep.mono g rr⟩
  | slot i => exact ⟨st1, rr⟩
  | new d =>
    obtain ⟨p, rfl, ⟨tp, gp, fp, bp⟩, no⟩ := rr
    obtain ⟨o, ho⟩ := tp.some
    have pp : pend F0 H0 (.new d) (.ref p) p = some o := by simp only [pend, if_pos]; exact ho
    have pn : ∀ a, a ≠ p → pend F0 H0 (.new d) (.ref p) a = F0 a := fun a h => by simp only [pend, if_neg h]
    have ne : ∀ a o', F0 a = some o' → a ≠ p := fun a o' e h => by subst h; rw [fp] at e; cases e
    have hp1 : H1 p = H0 p := (st1.fs p o pp).trans ho.symm
    refine ⟨⟨⟨st1.gs, fun a u e => st1.fs a u (by rw [pn a (ne a u e)]; exact e), fun a u e => st1.fg a u (by rw [pn a (ne a u e)]; exact e), st1.bi, fun a ha => ⟨(st1.bg a ha).1, (st0.bg a ha).2⟩⟩, st1.len, st1.vl, fun i d' e => ?_, st1.dj⟩,
      p, rfl, ⟨(tp.mono g).heap hp1, (st1.fg p o pp).1, fp, bp⟩, fun i hi => ?_⟩
    · obtain ⟨q, e1, t, e2, e3, e4⟩ := st1.ow i d' e
      have h : q ≠ p := fun h => by subst h; rw [pp] at e3; cases e3
      exact ⟨q, e1, t, e2, by rw [pn q h] at e3; exact e3, e4⟩
    · obtain ⟨⟨d', e⟩, e1⟩ := hi
      obtain ⟨q, e1', t, e2, e3, e4⟩ := st1.ow i d' e
      rw [e1] at e1'; cases e1'
      rw [pp] at e3; cases e3
theorem rr_unpend {r2 : R} {v2 : V} {H0 : Hp} (rr : RepR K bx (pend F H0 r v) ρ σ G H r2 v2) (rr0 : RepR K bx F ρ' σ G' H0 r v) : RepR K bx F ρ σ G H r2 v2 := by
  cases r2 with
  | val d => exact rr
  | slot i => exact rr
  | new d2 =>
    obtain ⟨q, rfl, ⟨tq, gq, fq, bq⟩, no⟩ := rr
    refine ⟨q, rfl, ⟨tq, gq, ?_, bq⟩, no⟩
    cases r with
    | val d => exact fq
    | slot i => exact fq
    | new d =>
      obtain ⟨p, rfl, ⟨tp, gp, fp, bp⟩, _⟩ := rr0
      by_cases h : q = p
      · subst h; exact fp
      · simp only [pend, if_neg h] at fq; exact fq

/-- a value that may be read now -/
def View (K : PySem.W.Frag) (B : Addr) (G H : Hp) (v : V) (d : D) : Prop := Rep K B G v d ∨ ∃ p, v = .ref p ∧ Top K B G H p d
/-- the data of a result, where it stands -/
def pk (r : R) (ρ : Env3) (k : D → Prop) : Prop :=
  match r with
  | .val d => k d
  | .new d => k d
  | .slot i => match ρ[i]? with
    | some (.val d) => k d
    | some (.own d) => k d
    | _ => False
theorem pk_ok {k : D → Prop} (st : Stt K bx F ρ σ G H) (rr : RepR K bx F ρ σ G H r v) (h : pk r ρ k) : ∃ d, k d ∧ View K bx.adr G H v d := by
  cases r with
  | val d => exact ⟨d, h, .inl rr⟩
  | new d =>
    obtain ⟨p, rfl, ⟨tp, _⟩, _⟩ := rr
    exact ⟨d, h, .inr ⟨p, rfl, tp⟩⟩
  | slot i =>
    have rr : σ[i]? = some (some v) := rr
    have h : match ρ[i]? with
      | some (.val d) => k d
      | some (.own d) => k d
      | _ => False := h
    split at h
    · rename_i d e
      obtain ⟨w, e1, q⟩ := st.vl i d e
      rw [rr] at e1; cases e1
      exact ⟨d, h, .inl q⟩
    · rename_i d e
      obtain ⟨p, e1, t, _⟩ := st.ow i d e
      rw [rr] at e1; cases e1
      exact ⟨d, h, .inr ⟨p, rfl, t⟩⟩
    · exact h.elim

/-- a result handed on for good -/
def fz (r : R) (ρ : Env3) (k : D → Env3 → Prop) : Prop :=
  match r with
  | .val d => k d ρ
  | .new d => k d ρ
  | .slot i => match ρ[i]? with
    | some (.val d) => k d ρ
    | some (.own d) => k d (ρ.set i (.val d))
    | _ => False
theorem Top.rep (h : Top K B G H p d) (e : G' p = H p) (g : Same G G') : Rep K B G' (.ref p) d := by
  cases h with
  | lst h r => exact .lst (e.trans h) (r.mono g)
  | dik h r => exact .dik (.inl (e.trans h)) (r.mono g)
  | dit h r => exact .dit (.inl (e.trans h)) (r.mono g)
theorem freeze_at (st : Stt K bx F ρ σ G H) {o : HO} (ho : H p = some o) (gp : G p = none) (fp : F p = none) (bp : p ∉ bx.fp) (no : ∀ i, ¬ Own ρ σ i p) : Same G (upd G p o) ∧ Stt K bx F ρ σ (upd G p o) H := by
  have gg : Same G (upd G p o) := fun a u e => by rw [upd_ne (ne_of_none e gp)]; exact e
  refine ⟨gg, ⟨⟨fun a u e => ?_, st.fs, fun a u e => ?_, st.bi, fun a ha => ⟨?_, (st.bg a ha).2⟩⟩, st.len, fun i d e => ?_, fun i d e => ?_, st.dj⟩⟩
  · by_cases h : a = p
    · subst h; rw [upd_same] at e; cases e; exact ho
    · rw [upd_ne h] at e; exact st.gs a u e
  · rw [upd_ne (ne_of_none e fp)]; exact st.fg a u e
  · have hne : a ≠ p := fun h => bp (h ▸ ha)
    rw [upd_ne hne]; exact (st.bg a ha).1
  · obtain ⟨w, e1, q⟩ := st.vl i d e
    exact ⟨w, e1, q.mono gg⟩
  · obtain ⟨q, e1, t, e2, e3⟩ := st.ow i d e
    have h : q ≠ p := fun h => no i ⟨⟨_, e⟩, h ▸ e1⟩
    exact ⟨q, e1, t.mono gg, by rw [upd_ne h]; exact e2, e3⟩
theorem own_forget {i : Nat} {d : D} (st : Stt K bx F ρ σ G H) : Stt K bx F (ρ.set i .un) σ G H ∧ (∀ p, Own ρ σ i p → ∀ j, ¬ Own (ρ.set i .un) σ j p) := by
  have get : ∀ j s, (ρ.set i .un)[j]? = some s → s ≠ .un → ρ[j]? = some s ∧ j ≠ i := fun j s e hs => by
    by_cases h : j = i
    · subst h
      rw [List.getElem?_set] at e
      simp only [if_pos] at e
      split at e
      · cases e; exact absurd rfl hs
      · cases e
    · rw [List.getElem?_set_ne (Ne.symm h)] at e
      exact ⟨e, h⟩
  refine ⟨⟨st.toFr3, by simp [st.len], fun j d e => st.vl j d (get j _ e (by simp)).1, fun j d e => st.ow j d (get j _ e (by simp)).1, fun j k p ⟨⟨d1, h1⟩, e1⟩ ⟨⟨d2, h2⟩, e2⟩ => st.dj j k p ⟨⟨d1, (get j _ h1 (by simp)).1⟩, e1⟩ ⟨⟨d2, (get k _ h2 (by simp)).1⟩, e2⟩⟩, fun p hi j hj => ?_⟩
  obtain ⟨⟨d', e⟩, e1⟩ := hj
  obtain ⟨e2, ne⟩ := get j _ e (by simp)
  exact ne (st.dj j i p ⟨⟨d', e2⟩, e1⟩ hi)
theorem set_val {i : Nat} (st : Stt K bx F (ρ.set i .un) σ G H) (hv : σ[i]? = some (some v)) (r : Rep K bx.adr G v d) : Stt K bx F (ρ.set i (.val d)) σ G H := by
  have get : ∀ j s, (ρ.set i (.val d))[j]? = some s → s = .val d ∧ j = i ∨ (ρ.set i .un)[j]? = some s := fun j s e => by
    by_cases h : j = i
    · subst h
      rw [List.getElem?_set] at e
      simp only [if_pos] at e
      split at e
      · cases e; exact .inl ⟨rfl, rfl⟩
      · cases e
    · rw [List.getElem?_set_ne (Ne.symm h)] at e
      exact .inr (by rw [List.getElem?_set_ne (Ne.symm h)]; exact e)
  have gown : ∀ (j : Nat) (d' : D), (ρ.set i (Sl.val d))[j]? = some (Sl.own d') → (ρ.set i Sl.un)[j]? = some (Sl.own d') := fun j d' e => by
    rcases get j _ e with ⟨h, _⟩ | h
    · cases h
    · exact h
  refine ⟨st.toFr3, by simpa using st.len, fun j d' e => ?_, fun j d' e => st.ow j d' (gown j d' e), fun j k p ⟨⟨d1, h1⟩, e1⟩ ⟨⟨d2, h2⟩, e2⟩ => st.dj j k p ⟨⟨d1, gown _ _ h1⟩, e1⟩ ⟨⟨d2, gown _ _ h2⟩, e2⟩⟩
  rcases get j _ e with ⟨h, rfl⟩ | h
  · cases h; exact ⟨v, hv, r⟩
  · exact st.vl j d' h
theorem fz_ok {k : D → Env3 → Prop} (st : Stt K bx F ρ σ G H) (rr : RepR K bx F ρ σ G H r v) (h : fz r ρ k) : ∃ d ρ' G', k d ρ' ∧ Same G G' ∧ Stt K bx F ρ' σ G' H ∧ Rep K bx.adr G' v d := by
  cases r with
  | val d => exact ⟨d, ρ, G, h, Same.refl G, st, rr⟩
  | new d =>
    obtain ⟨p, rfl, ⟨tp, gp, fp, bp⟩, no⟩ := rr
    obtain ⟨o, ho⟩ := tp.some
    obtain ⟨g, st'⟩ := freeze_at st ho gp fp bp no
    exact ⟨d, ρ, _, h, g, st', tp.rep (by rw [upd_same, ho]) g⟩
  | slot i =>
    have rr : σ[i]? = some (some v) := rr
    have h : match ρ[i]? with
      | some (.val d) => k d ρ
      | some (.own d) => k d (ρ.set i (.val d))
      | _ => False := h
    split at h
    · rename_i d e
      obtain ⟨w, e1, q⟩ := st.vl i d e
      rw [rr] at e1; cases e1
      exact ⟨d, ρ, G, h, Same.refl G, st, q⟩
    · rename_i d e
      obtain ⟨p, e1, t, e2, e3, e4⟩ := st.ow i d e
      rw [rr] at e1; cases e1
      obtain ⟨o, ho⟩ := t.some
      obtain ⟨st1, no⟩ := own_forget (i := i) (d := d) st
      obtain ⟨g, st2⟩ := freeze_at st1 ho e2 e3 e4 (no p ⟨⟨d, e⟩, rr⟩)
      have rp : Rep K bx.adr (upd G p o) (.ref p) d := t.rep (by rw [upd_same, ho]) g
      exact ⟨d, _, _, h, g, set_val st2 rr rp, rp⟩
    · exact h.elim
end

/-- what a result by values may be: a value, a new tuple, a new list, a new dict -/
structure Res (K : PySem.W.Frag) (bx : Bx) (G H : Hp) (P : R → Prop) (Q : VK) : Prop where
  val : ∀ d v, P (.val d) → Rep K bx.adr G v d → Q v H
  tup : ∀ l vs p, P (.val (.tup l)) → H p = none → RepL K bx.adr G vs l → Q (.ref p) (upd H p (.tup vs))
  lst : ∀ l vs p, P (.new (.lst l)) → H p = none → RepL K bx.adr G vs l → Q (.ref p) (upd H p (.lst vs))
  dik : ∀ l vs p, P (.new (.dik l)) → H p = none → RepK K bx.adr G vs l → Q (.ref p) (upd H p (.dK vs))
  dit : ∀ l vs p, P (.new (.dit l)) → H p = none → RepT K bx.adr G vs l → Q (.ref p) (upd H p (.dT vs))

abbrev WE := Env3 → (R → Env3 → Prop) → Prop
def lE (K : PySem.W.Frag) (bx : Bx) (f : WE) : TE := fun σ H Q => ∃ F ρ G P, Stt K bx F ρ σ G H ∧ f ρ P ∧
  ∀ r ρ' v G' H', P r ρ' → Same G G' → Stt K bx F ρ' σ G' H' → RepR K bx F ρ' σ G' H' r v → Q v H'
structure E3 (X : Cx) (bx : Bx) (e : Expr) (f : WE) : Prop where
  pe : PE X e (lE X.K bx f)
theorem PE.weaken {X : Cx} {e : Expr} {t t' : TE} (h : PE X e t) (w : ∀ σ H Q, t' σ H Q → t σ H Q) : PE X e t' :=
  ⟨fun pins s σ H Q I q => h.run pins s σ H Q I (w _ _ _ q)⟩


section
variable {K : PySem.W.Frag} {B : Addr} {bx : Bx} {F G G' H H' : Hp} {ρ ρ' : Env3} {σ : St} {r : R} {v : V} {p : Addr} {d : D} {o : HO}
theorem Fr3.nfp (st : Fr3 bx F G H) (hp : H p = none) : p ∉ bx.fp := fun h => by
  obtain ⟨o, e, _⟩ := bx.has H st.bi p h
  rw [hp] at e; cases e
theorem Fr3.nG (st : Fr3 bx F G H) (hp : H p = none) : G p = none := Same.free st.gs hp
theorem Fr3.nF (st : Fr3 bx F G H) (hp : H p = none) : F p = none := Same.free st.fs hp
theorem same_upd' (hp : H p = none) : Same H (upd H p o) := fun a u e => by rw [upd_ne (ne_of_none e hp)]; exact e
theorem Fr3.alloc (st : Fr3 bx F G H) (hp : H p = none) : Fr3 bx F G (upd H p o) :=
  ⟨st.gs.trans (same_upd' hp), st.fs.trans (same_upd' hp), st.fg, bx.loc H _ (fun a ha => upd_ne (fun e => st.nfp hp (e ▸ ha))) st.bi, st.bg⟩
theorem Stt.alloc (st : Stt K bx F ρ σ G H) (hp : H p = none) : Stt K bx F ρ σ G (upd H p o) :=
  ⟨st.toFr3.alloc hp, st.len, st.vl, fun i d e => by
    obtain ⟨q, e1, t, e2⟩ := st.ow i d e
    obtain ⟨u, hu⟩ := t.some
    exact ⟨q, e1, t.heap (upd_ne (ne_of_none hu hp)), e2⟩, st.dj⟩
theorem Stt.notown (st : Stt K bx F ρ σ G H) (hp : H p = none) : ∀ i, ¬ Own ρ σ i p := fun i hi => by
  obtain ⟨⟨d, e⟩, e1⟩ := hi
  obtain ⟨q, e1', t, _⟩ := st.ow i d e
  rw [e1] at e1'; cases e1'
  obtain ⟨u, hu⟩ := t.some
  rw [hp] at hu; cases hu
/-- what values give, from what is wanted of results -/
theorem res_of {P : R → Prop} {Q : VK} (st : Stt K bx F ρ σ G H) (hQ : ∀ r v G' H', P r → Same G G' → Stt K bx F ρ σ G' H' → RepR K bx F ρ σ G' H' r v → Q v H') : Res K bx G H P Q := by
  refine ⟨fun d v h r => hQ _ v G H h (Same.refl G) st r, fun l vs p h hp r => ?_, fun l vs p h hp r => ?_, fun l vs p h hp r => ?_, fun l vs p h hp r => ?_⟩
  · have st1 : Stt K bx F ρ σ G (upd H p (.tup vs)) := st.alloc hp
    obtain ⟨g, st2⟩ := freeze_at st1 upd_same (st.nG hp) (st.nF hp) (st.nfp hp) (st.notown hp)
    exact hQ _ _ _ _ h g st2 (Rep.tup upd_same (r.mono g))
  · have st1 : Stt K bx F ρ σ G (upd H p (.lst vs)) := st.alloc hp
    exact hQ _ _ _ _ h (Same.refl G) st1 ⟨p, rfl, ⟨.lst upd_same r, st.nG hp, st.nF hp, st.nfp hp⟩, st.notown hp⟩
  · have st1 : Stt K bx F ρ σ G (upd H p (.dK vs)) := st.alloc hp
    exact hQ _ _ _ _ h (Same.refl G) st1 ⟨p, rfl, ⟨.dik upd_same r, st.nG hp, st.nF hp, st.nfp hp⟩, st.notown hp⟩
  · have st1 : Stt K bx F ρ σ G (upd H p (.dT vs)) := st.alloc hp
    exact hQ _ _ _ _ h (Same.refl G) st1 ⟨p, rfl, ⟨.dit upd_same r, st.nG hp, st.nF hp, st.nfp hp⟩, st.notown hp⟩

/-! ### views -/
theorem view_int {i : Int} (h : View K B G H v (.int i)) : v = .int i := by
  rcases h with h | ⟨p, rfl, t⟩
  · cases h; rfl
  · cases t
theorem view_bl {b : Bool} (h : View K B G H v (.bl b)) : v = .bl b := by
  rcases h with h | ⟨p, rfl, t⟩
  · cases h; rfl
  · cases t
theorem view_non (h : View K B G H v .non) : v = .non := by
  rcases h with h | ⟨p, rfl, t⟩
  · cases h; rfl
  · cases t
theorem view_ty {n : String} (h : View K B G H v (.ty n)) : v = .ty n := by
  rcases h with h | ⟨p, rfl, t⟩
  · cases h; rfl
  · cases t
theorem view_str {s : List Nat} (h : View K B G H v (.str s)) : v = .str ⟨s.toArray⟩ ∧ okS s = true := by
  rcases h with h | ⟨p, rfl, t⟩
  · cases h with | str h => exact ⟨rfl, h⟩
  · cases t
theorem view_tup {l : List D} (g : Same G H) (h : View K B G H v (.tup l)) : ∃ a vs, v = .ref a ∧ SqT K H a vs ∧ RepL K B G vs l ∧ Rep K B G (.ref a) (.tup l) := by
  rcases h with h | ⟨p, rfl, t⟩
  · cases h with | tup h r => exact ⟨_, _, rfl, .inl (.inl (g _ _ h)), r, .tup h r⟩
  · cases t
theorem view_lst {l : List D} (g : Same G H) (h : View K B G H v (.lst l)) : ∃ a vs, v = .ref a ∧ H a = some (.lst vs) ∧ RepL K B G vs l := by
  rcases h with h | ⟨p, rfl, t⟩
  · cases h with | lst h r => exact ⟨_, _, rfl, g _ _ h, r⟩
  · cases t with | lst h r => exact ⟨p, _, rfl, h, r⟩
theorem view_dik {l : List (Key × D)} (g : Same G H) (h : View K B G H v (.dik l)) : ∃ a vs, v = .ref a ∧ Rd H a (.dK vs) ∧ RepK K B G vs l := by
  rcases h with h | ⟨p, rfl, t⟩
  · cases h with | dik h r => exact ⟨_, _, rfl, rd_mono g h, r⟩
  · cases t with | dik h r => exact ⟨p, _, rfl, .inl h, r⟩
theorem view_dit {l : List (List Key × D)} (g : Same G H) (h : View K B G H v (.dit l)) : ∃ a vs, v = .ref a ∧ Rd H a (.dT vs) ∧ RepT K B G vs l := by
  rcases h with h | ⟨p, rfl, t⟩
  · cases h with | dit h r => exact ⟨_, _, rfl, rd_mono g h, r⟩
  · cases t with | dit h r => exact ⟨p, _, rfl, .inl h, r⟩
/-- a tuple that stands as one -/
theorem view_tupH {l : List D} (g : Same G H) (h : View K B G H v (.tup l)) : ∃ a vs, v = .ref a ∧ H a = some (.tup vs) ∧ RepL K B G vs l := by
  rcases h with h | ⟨p, rfl, t⟩
  · cases h with | tup h r => exact ⟨_, _, rfl, g _ _ h, r⟩
  · cases t
theorem okS_append {a b : List Nat} (ha : okS a = true) (hb : okS b = true) : okS (a ++ b) = true := by
  unfold okS at *; rw [List.all_append, ha, hb]; rfl
theorem okS_sub {a b : List Nat} (h : ∀ c ∈ b, c ∈ a) (ha : okS a = true) : okS b = true := by
  unfold okS at *; rw [List.all_eq_true] at *; exact fun c hc => ha c (h c hc)
theorem str_app (a b : List Nat) : (⟨a.toArray⟩ : Str) ++ ⟨b.toArray⟩ = ⟨(a ++ b).toArray⟩ := by
  show Str.append _ _ = _
  simp [Str.append]
theorem str_len (a : List Nat) : (⟨a.toArray⟩ : Str).length = a.length := by simp [Str.length]
end
end L2.W3

/-! W3, part b: operators by data. -/
namespace L2.W3
open PySem PySem.Spec PyProof.Rows

abbrev DOp := D → D → (R → Prop) → Prop
def rD (K : PySem.W.Frag) (bx : Bx) (dop : DOp) : R2 := fun x y H Q => ∃ G d1 d2 P, Same G H ∧ View K bx.adr G H x d1 ∧ View K bx.adr G H y d2 ∧ dop d1 d2 P ∧ Res K bx G H P Q
abbrev OpD (X : Cx) (bx : Bx) (f : Value → Value → Sem Value) (dop : DOp) : Prop := OpR X f (rD X.K bx dop)

def addD : DOp
  | .int i, .int j, P => P (.val (.int (i + j)))
  | .str a, .str b, P => a.length + b.length ≤ sizeLine ∧ P (.val (.str (a ++ b)))
  | .tup a, .tup b, P => a.length + b.length ≤ sizeLine ∧ P (.val (.tup (a ++ b)))
  | .lst a, .lst b, P => a.length + b.length ≤ sizeLine ∧ P (.new (.lst (a ++ b)))
  | _, _, _ => False
def subD : DOp
  | .int i, .int j, P => P (.val (.int (i - j)))
  | _, _, _ => False
def MulI (i j : Int) : Prop := CMul i j ∨ CMulW i j
def repN {α : Type} (n : Int) (l : List α) : List α := (List.replicate n.toNat l).flatten
def mulD : DOp
  | .int i, .int j, P => MulI i j ∧ P (.val (.int (i * j)))
  | .str a, .int n, P => n < 2 ^ 24 ∧ -(2 ^ 24) < n ∧ a.length * n.toNat ≤ 16777216 ∧ P (.val (.str (repN n a)))
  | .lst a, .int n, P => n < 2 ^ 24 ∧ -(2 ^ 24) < n ∧ a.length * n.toNat ≤ sizeLine ∧ P (.new (.lst (repN n a)))
  | .tup a, .int n, P => a ≠ [] ∧ 2 ≤ n ∧ n ≤ 1000 ∧ a.length ≤ 1000 ∧ P (.val (.tup (repN n a)))
  | _, _, _ => False
def fdivD : DOp
  | .int i, .int j, P => CDivW i j ∧ P (.val (.int (i / j)))
  | _, _, _ => False
def modD : DOp
  | .int i, .int j, P => 0 < j ∧ P (.val (.int (i % j)))
  | _, _, _ => False
def powD : DOp
  | .int i, .int j, P => CPow i j ∧ P (.val (.int (i ^ j.toNat)))
  | _, _, _ => False
def shlD : DOp
  | .int i, .int j, P => CPow i j ∧ P (.val (.int (i * 2 ^ j.toNat)))
  | _, _, _ => False
def shrD : DOp
  | .int i, .int j, P => 0 ≤ j ∧ P (.val (.int (i / 2 ^ j.toNat)))
  | _, _, _ => False
def andD : DOp
  | .int i, .int j, P => 0 ≤ i ∧ j = 1 ∧ P (.val (.int (i % 2)))
  | _, _, _ => False

section
variable {X : Cx} {bx : Bx}
theorem opD_add : OpD X bx (binaryOp .Add) addD := by
  intro pins s σ H x y v u Q I rx ry ⟨G, d1, d2, P, g, v1, v2, h, R⟩
  unfold addD at h
  split at h
  · obtain rfl := view_int v1
    obtain rfl := view_int v2
    exact op_add pins s σ H _ _ v u Q I rx ry ⟨_, _, rfl, rfl, R.val _ _ h (.int _)⟩
  · obtain ⟨rfl, o1⟩ := view_str v1
    obtain ⟨rfl, o2⟩ := view_str v2
    refine op_add_str pins s σ H _ _ v u Q I rx ry ⟨_, _, rfl, rfl, by rw [str_len, str_len]; exact h.1, ?_⟩
    rw [str_app]
    exact R.val _ _ h.2 (.str (okS_append o1 o2))
  · obtain ⟨a, vs, rfl, s1, r1, q1⟩ := view_tup g v1
    obtain ⟨b, ws, rfl, s2, r2, q2⟩ := view_tup g v2
    refine op_catA pins s σ H _ _ v u Q I rx ry ⟨a, b, vs, ws, rfl, rfl, s1, s2, by rw [r1.length, r2.length]; exact h.1, fun e => ?_, fun e e' => ?_, fun _ _ p hp => ?_⟩
    · subst e
      cases r1
      exact R.val _ _ h.2 q2
    · subst e'
      cases r2
      have h2 := h.2
      rw [List.append_nil] at h2
      exact R.val _ _ h2 q1
    · exact R.tup _ _ p h.2 hp (r1.append r2)
  · obtain ⟨a, vs, rfl, s1, r1⟩ := view_lst g v1
    obtain ⟨b, ws, rfl, s2, r2⟩ := view_lst g v2
    exact op_cat pins s σ H _ _ v u Q I rx ry ⟨a, b, vs, ws, rfl, rfl, s1, s2, by rw [r1.length, r2.length]; exact h.1, fun p hp => R.lst _ _ p h.2 hp (r1.append r2)⟩
  · exact h.elim
theorem opD_sub : OpD X bx (binaryOp .Sub) subD := by
  intro pins s σ H x y v u Q I rx ry ⟨G, d1, d2, P, g, v1, v2, h, R⟩
  unfold subD at h
  split at h
  · obtain rfl := view_int v1
    obtain rfl := view_int v2
    exact op_sub pins s σ H _ _ v u Q I rx ry ⟨_, _, rfl, rfl, R.val _ _ h (.int _)⟩
  · exact h.elim
theorem repN_rep {K : PySem.W.Frag} {B : Addr} {G : Hp} {vs : List V} {l : List D} (r : RepL K B G vs l) : ∀ k : Nat, RepL K B G (List.replicate k vs).flatten (List.replicate k l).flatten
  | 0 => .nil
  | k + 1 => by
    rw [List.replicate_succ, List.replicate_succ, List.flatten_cons, List.flatten_cons]
    exact r.append (repN_rep r k)
theorem foldl_app (a : List Nat) : ∀ (k : Nat) (acc : List Nat), (List.replicate k a.toArray).foldl (· ++ ·) acc.toArray = (acc ++ (List.replicate k a).flatten).toArray
  | 0, acc => by simp
  | k + 1, acc => by
    rw [List.replicate_succ, List.foldl_cons, List.replicate_succ, List.flatten_cons]
    have e : acc.toArray ++ a.toArray = (acc ++ a).toArray := by simp
    rw [e, foldl_app a k (acc ++ a), List.append_assoc]
theorem txt_mul (a : List Nat) (n : Int) : Txt.mul ⟨a.toArray⟩ n = ⟨(repN n a).toArray⟩ := by
  unfold Txt.mul repN
  by_cases h1 : n < 1
  · rw [if_pos h1, Int.toNat_of_nonpos (by omega)]
    rfl
  · rw [if_neg h1]
    by_cases h2 : (n == 1 || (⟨a.toArray⟩ : Str).length == 0) = true
    · rw [if_pos h2]
      rw [str_len] at h2
      simp only [Bool.or_eq_true, beq_iff_eq] at h2
      rcases h2 with h2 | h2
      · subst h2; simp
      · have e : a = [] := List.length_eq_zero_iff.mp h2
        subst e
        simp
    · rw [if_neg h2]
      have e := foldl_app a n.toNat []
      rw [List.nil_append] at e
      exact congrArg Str.mk e
theorem okS_rep {a : List Nat} (h : okS a = true) (n : Int) : okS (repN n a) = true := by
  refine okS_sub (a := a) (fun c hc => ?_) h
  unfold repN at hc
  rw [List.mem_flatten] at hc
  obtain ⟨l, hl, hc⟩ := hc
  rw [List.mem_replicate] at hl
  rw [← hl.2]; exact hc
theorem opD_mul : OpD X bx (binaryOp .Mult) mulD := by
  intro pins s σ H x y v u Q I rx ry ⟨G, d1, d2, P, g, v1, v2, h, R⟩
  unfold mulD at h
  split at h
  · obtain rfl := view_int v1
    obtain rfl := view_int v2
    obtain ⟨h1 | h1, h2⟩ := h
    · exact op_mul pins s σ H _ _ v u Q I rx ry ⟨_, _, rfl, rfl, h1, R.val _ _ h2 (.int _)⟩
    · exact op_mulW pins s σ H _ _ v u Q I rx ry ⟨_, _, rfl, rfl, h1, R.val _ _ h2 (.int _)⟩
  · rename_i a n
    obtain ⟨rfl, o1⟩ := view_str v1
    obtain rfl := view_int v2
    obtain ⟨h1, h2, h3, h4⟩ := h
    obtain ⟨t, rfl⟩ := rx
    obtain ⟨t', rfl⟩ := ry
    refine SB.mul ⟨?_, fun h5 h6 => ?_, fun h5 h6 => ?_⟩ fun t2 k => ?_
    · simp only [Bool.or_eq_false_iff, decide_eq_false_iff_not]
      omega
    · rw [str_len]
      have e : (a.length : Int) * n ≤ 16777216 := by
        have h3' : ((a.length * n.toNat : Nat) : Int) ≤ ((16777216 : Nat) : Int) := Int.ofNat_le.mpr h3
        rw [Int.natCast_mul] at h3'
        rw [Int.toNat_of_nonneg (show 0 ≤ n by omega)] at h3'
        exact h3'
      intro hh
      have h7 : (2 ^ 63 - 1) / n < (a.length : Int) := hh
      rw [Int.ediv_lt_iff_lt_mul (by omega)] at h7
      omega
    · unfold Builtin.Str.tooLong
      rw [str_len]
      refine decide_eq_false fun h7 => ?_
      have h8 : sizeLine = 16777216 := by decide
      rw [h8] at h7
      exact absurd h3 (by omega)
    · rw [txt_mul]
      exact ⟨V.str ⟨(repN n a).toArray⟩, H, I.tok _, ⟨_, rfl⟩, R.val _ _ h4 (.str (okS_rep o1 _))⟩
  · obtain ⟨a, vs, rfl, s1, r1⟩ := view_lst g v1
    obtain rfl := view_int v2
    obtain ⟨h1, h2, h3, h4⟩ := h
    exact op_rep pins s σ H _ _ v u Q I rx ry ⟨a, _, vs, rfl, rfl, s1, by omega, by omega, by rw [r1.length]; exact h3, fun p hp => R.lst _ _ p h4 hp (repN_rep r1 _)⟩
  · obtain ⟨a, vs, rfl, s1, r1, q1⟩ := view_tup g v1
    obtain rfl := view_int v2
    obtain ⟨h1, h2, h3, h4, h5⟩ := h
    exact op_repT pins s σ H _ _ v u Q I rx ry ⟨a, _, vs, rfl, rfl, s1, fun e => h1 (List.eq_nil_of_length_eq_zero (by rw [← r1.length, e]; rfl)), h2, h3, by rw [r1.length]; exact h4, fun p hp => R.tup _ _ p h5 hp (repN_rep r1 _)⟩
  · exact h.elim
theorem opD_fdiv : OpD X bx (binaryOp .FloorDiv) fdivD := by
  intro pins s σ H x y v u Q I rx ry ⟨G, d1, d2, P, g, v1, v2, h, R⟩
  unfold fdivD at h
  split at h
  · obtain rfl := view_int v1
    obtain rfl := view_int v2
    exact op_fdivW pins s σ H _ _ v u Q I rx ry ⟨_, _, rfl, rfl, h.1, R.val _ _ h.2 (.int _)⟩
  · exact h.elim
theorem opD_mod : OpD X bx (binaryOp .Mod) modD := by
  intro pins s σ H x y v u Q I rx ry ⟨G, d1, d2, P, g, v1, v2, h, R⟩
  unfold modD at h
  split at h
  · obtain rfl := view_int v1
    obtain rfl := view_int v2
    exact op_mod pins s σ H _ _ v u Q I rx ry ⟨_, _, rfl, rfl, h.1, R.val _ _ h.2 (.int _)⟩
  · exact h.elim
theorem opD_pow : OpD X bx (binaryOp .Pow) powD := by
  intro pins s σ H x y v u Q I rx ry ⟨G, d1, d2, P, g, v1, v2, h, R⟩
  unfold powD at h
  split at h
  · obtain rfl := view_int v1
    obtain rfl := view_int v2
    exact op_pow pins s σ H _ _ v u Q I rx ry ⟨_, _, rfl, rfl, h.1, R.val _ _ h.2 (.int _)⟩
  · exact h.elim
theorem opD_shl : OpD X bx (binaryOp .LShift) shlD := by
  intro pins s σ H x y v u Q I rx ry ⟨G, d1, d2, P, g, v1, v2, h, R⟩
  unfold shlD at h
  split at h
  · obtain rfl := view_int v1
    obtain rfl := view_int v2
    exact op_shl pins s σ H _ _ v u Q I rx ry ⟨_, _, rfl, rfl, h.1, R.val _ _ h.2 (.int _)⟩
  · exact h.elim
theorem opD_shr : OpD X bx (binaryOp .RShift) shrD := by
  intro pins s σ H x y v u Q I rx ry ⟨G, d1, d2, P, g, v1, v2, h, R⟩
  unfold shrD at h
  split at h
  · obtain rfl := view_int v1
    obtain rfl := view_int v2
    exact op_shr pins s σ H _ _ v u Q I rx ry ⟨_, _, rfl, rfl, h.1, R.val _ _ h.2 (.int _)⟩
  · exact h.elim
theorem opD_and : OpD X bx (binaryOp .BitAnd) andD := by
  intro pins s σ H x y v u Q I rx ry ⟨G, d1, d2, P, g, v1, v2, h, R⟩
  unfold andD at h
  split at h
  · rename_i i j
    obtain rfl := view_int v1
    obtain rfl := view_int v2
    obtain ⟨h1, rfl, h2⟩ := h
    refine op_odd pins s σ H _ _ v u Q I rx ry ⟨i.toNat, by rw [Int.toNat_of_nonneg h1], rfl, ?_⟩
    have e : ((i.toNat % 2 : Nat) : Int) = i % 2 := by omega
    rw [e]
    exact R.val _ _ h2 (.int _)
  · exact h.elim

/-! ### two-place expressions -/
def wBin (dop : DOp) (fa fb : WE) : WE := fun ρ Q => fa ρ fun r1 ρ1 => fb ρ1 fun r2 ρ2 => pk r1 ρ2 fun x => pk r2 ρ2 fun y => dop x y fun r => Q r ρ2
theorem lE_bin {K : PySem.W.Frag} {dop : DOp} {fa fb : WE} (σ : L2.St) (H : Hp) (Q : VK) (h : lE K bx (wBin dop fa fb) σ H Q) : tOp (rD K bx dop) (lE K bx fa) (lE K bx fb) σ H Q := by
  obtain ⟨F, ρ, G, P, st, hf, hQ⟩ := h
  refine ⟨F, ρ, G, _, st, hf, fun r1 ρ1 w1 G1 H1 h1 g1 st1 rr1 => ?_⟩
  refine ⟨pend F H1 r1 w1, ρ1, G1, _, pend_st st1 rr1, h1, fun r2 ρ2 w2 G2 H2 h2 g2 st2 rr2 => ?_⟩
  obtain ⟨st2', rr1'⟩ := pend_back st1 rr1 g2 st2
  have rr2' := rr_unpend rr2 rr1
  obtain ⟨x, h3, vx⟩ := pk_ok st2' rr1' h2
  obtain ⟨y, h4, vy⟩ := pk_ok st2' rr2' h3
  exact ⟨G2, x, y, _, st2'.gs, vx, vy, h4, res_of st2' fun r w G3 H3 h g st3 rr => hQ r ρ2 w G3 H3 h (g1.trans (g2.trans g)) st3 rr⟩
variable {a b : Expr} {fa fb : WE} {pos : Pos}
theorem e_bin {op : Operator} {dop : DOp} (ho : OpD X bx (binaryOp op) dop) (ha : E3 X bx a fa) (hb : E3 X bx b fb) : E3 X bx (.BinOp a op b pos) (wBin dop fa fb) :=
  ⟨PE.weaken (pe_op ho ha.pe hb.pe) lE_bin⟩

/-! ### names, constants -/
def wVar (i : Nat) : WE := fun ρ Q => match ρ[i]? with
  | some (.val d) => Q (.val d) ρ
  | some (.own _) => Q (.slot i) ρ
  | _ => False
theorem e_var (i : Nat) {x : Str} {pos : Pos} (hN : X.N[i]? = some x := by rfl) (hv : Vis X.env.scope x := by first | exact Or.inl rfl | exact Or.inr (Or.inl rfl) | exact Or.inr (Or.inr rfl)) (hd : (x == ("__debug__" : Str)) = false := by decide)
    (hcd : (x == ("__classdict__" : Str)) = false := by decide) : E3 X bx (.Name x pos) (wVar i) := by
  refine ⟨PE.weaken (pv i hN hv hd hcd) fun σ H Q ⟨F, ρ, G, P, st, h, hQ⟩ => ?_⟩
  have h : match ρ[i]? with
    | some (.val d) => P (.val d) ρ
    | some (.own _) => P (.slot i) ρ
    | _ => False := h
  split at h
  · rename_i d e
    obtain ⟨v, e1, r⟩ := st.vl i d e
    exact ⟨v, e1, hQ _ ρ v G H h (Same.refl G) st r⟩
  · rename_i d e
    obtain ⟨p, e1, t, _⟩ := st.ow i d e
    exact ⟨_, e1, hQ _ ρ _ G H h (Same.refl G) st e1⟩
  · exact h.elim
def wC (d : D) : WE := fun ρ Q => Q (.val d) ρ
theorem e_const {e : Expr} {v : V} {d : D} (h : PE X e (tC v)) (hr : ∀ G, Rep X.K bx.adr G v d) : E3 X bx e (wC d) :=
  ⟨PE.weaken h fun σ H Q ⟨F, ρ, G, P, st, h, hQ⟩ => hQ _ ρ v G H h (Same.refl G) st (hr G)⟩
theorem e_int {i : Int} {j pos} : E3 X bx (.Constant (.int i) j pos) (wC (.int i)) := e_const pe_int fun _ => .int i
theorem e_bl {c : Bool} {j pos} : E3 X bx (.Constant (.bool c) j pos) (wC (.bl c)) := e_const pe_bl fun _ => .bl c
theorem e_non {j pos} : E3 X bx (.Constant .none j pos) (wC .non) := e_const pe_non fun _ => .non
theorem e_str {x : Str} {j pos} (s : List Nat) (h : x = ⟨s.toArray⟩ := by decide +kernel) (ho : okS s = true := by decide +kernel) : E3 X bx (.Constant (.str x) j pos) (wC (.str s)) := by
  subst h
  exact e_const pe_str fun _ => .str ho
/-- a constant of the module -/
theorem e_glob {x : Str} {v : V} {u : Value} {d : D} {pos : Pos} (hg : Gl X x) (hm : X.mg x = some u) (r : RelV v u) (hr : ∀ G, Rep X.K bx.adr G v d) (hd : (x == ("__debug__" : Str)) = false := by decide) : E3 X bx (.Name x pos) (wC d) :=
  e_const (pe_glob hg hm r hd) hr

/-! ### one-place -/
abbrev UOp := D → (R → Prop) → Prop
def rU1 (K : PySem.W.Frag) (bx : Bx) (dop : UOp) : V → Hp → VK → Prop := fun x H Q => ∃ G d P, Same G H ∧ View K bx.adr G H x d ∧ dop d P ∧ Res K bx G H P Q
def wUn (dop : UOp) (fa : WE) : WE := fun ρ Q => fa ρ fun r1 ρ1 => pk r1 ρ1 fun x => dop x fun r => Q r ρ1
theorem lE_un {K : PySem.W.Frag} {dop : UOp} (σ : L2.St) (H : Hp) (Q : VK) (h : lE K bx (wUn dop fa) σ H Q) : lE K bx fa σ H (fun x H1 => rU1 K bx dop x H1 Q) := by
  obtain ⟨F, ρ, G, P, st, hf, hQ⟩ := h
  refine ⟨F, ρ, G, _, st, hf, fun r1 ρ1 w1 G1 H1 h1 g1 st1 rr1 => ?_⟩
  obtain ⟨x, h3, vx⟩ := pk_ok st1 rr1 h1
  exact ⟨G1, x, _, st1.gs, vx, h3, res_of st1 fun r w G3 H3 h g st3 rr => hQ r ρ1 w G3 H3 h (g1.trans g) st3 rr⟩
def negD : UOp
  | .int i, P => P (.val (.int (-i)))
  | _, _ => False
theorem e_neg (ha : E3 X bx a fa) : E3 X bx (.UnaryOp .USub a pos) (wUn negD fa) := by
  refine ⟨PE.weaken (pe_un (r := rU1 X.K bx negD) (fun pins s σ H x v Q I rx ⟨G, d, P, g, v1, h, R⟩ => ?_) ha.pe) lE_un⟩
  unfold negD at h
  split at h
  · obtain rfl := view_int v1
    exact un_neg pins s σ H _ v Q I rx ⟨_, rfl, R.val _ _ h (.int _)⟩
  · exact h.elim
end
end L2.W3

/-! W3, part c: comparisons, tests, truth. -/
namespace L2.W3
open PySem PySem.Spec PyProof.Rows

mutual
def toPy : D → PyData
  | .non => .none
  | .bl b => .bool b
  | .int i => .int i
  | .str s => .str ⟨s.toArray⟩
  | .tup l => .tuple (toPyL l)
  | .lst l => .list (toPyL l)
  | .dik _ => .none
  | .dit _ => .none
  | .ty _ => .none
  | .box => .none
  | .obj _ => .none
def toPyL : List D → List PyData
  | [] => []
  | d :: r => toPy d :: toPyL r
end
theorem toPyL_map : ∀ l : List D, toPyL l = l.map toPy
  | [] => rfl
  | d :: r => by rw [toPyL, toPyL_map r]; rfl
/-- data that == looks through: nested at most so deep, no dicts -/
def Flat : Nat → D → Prop
  | _, .non => True
  | _, .bl _ => True
  | _, .int _ => True
  | _, .str _ => True
  | n + 1, .tup l => ∀ x ∈ l, Flat n x
  | n + 1, .lst l => ∀ x ∈ l, Flat n x
  | _, _ => False
theorem Flat.scal {n : Nat} {d : D} (h : Flat 0 d) : Flat n d := by
  cases d <;> first | (unfold Flat; trivial) | (unfold Flat at h; exact h.elim)
def eqv (a b : D) : Bool := PyData.eqv (toPy a) (toPy b)

theorem depthAll_le {n : Nat} : ∀ {l : List D}, (∀ x ∈ l, (toPy x).depth ≤ n) → PyData.depthAll (toPyL l) ≤ n
  | [], _ => by simp [toPyL, PyData.depthAll]
  | d :: r, h => by
    rw [toPyL, PyData.depthAll]
    have h1 := h d List.mem_cons_self
    have h2 := depthAll_le (l := r) fun x hx => h x (List.mem_cons_of_mem _ hx)
    omega
theorem flat_depth : ∀ {n : Nat} {d : D}, Flat n d → (toPy d).depth ≤ n
  | _, .non, _ => by simp [toPy, PyData.depth]
  | _, .bl _, _ => by simp [toPy, PyData.depth]
  | _, .int _, _ => by simp [toPy, PyData.depth]
  | _, .str _, _ => by simp [toPy, PyData.depth]
  | 0, .tup l, h => by unfold Flat at h; exact h.elim
  | 0, .lst l, h => by unfold Flat at h; exact h.elim
  | n + 1, .tup l, h => by
    unfold Flat at h
    simp only [toPy, PyData.depth]
    have := depthAll_le (l := l) (n := n) fun x hx => flat_depth (h x hx)
    omega
  | n + 1, .lst l, h => by
    unfold Flat at h
    simp only [toPy, PyData.depth]
    have := depthAll_le (l := l) (n := n) fun x hx => flat_depth (h x hx)
    omega
  | 0, .dik _, h => by unfold Flat at h; exact h.elim
  | _ + 1, .dik _, h => by unfold Flat at h; exact h.elim
  | 0, .dit _, h => by unfold Flat at h; exact h.elim
  | _ + 1, .dit _, h => by unfold Flat at h; exact h.elim
  | 0, .ty _, h => by unfold Flat at h; exact h.elim
  | _ + 1, .ty _, h => by unfold Flat at h; exact h.elim
  | 0, .box, h => by unfold Flat at h; exact h.elim
  | _ + 1, .box, h => by unfold Flat at h; exact h.elim
  | 0, .obj _, h => by unfold Flat at h; exact h.elim
  | _ + 1, .obj _, h => by unfold Flat at h; exact h.elim
theorem flat_succ {n : Nat} {l : List D} (h : Flat n (.tup l)) : ∃ m, n = m + 1 ∧ ∀ x ∈ l, Flat m x := by
  cases n with
  | zero => unfold Flat at h; exact h.elim
  | succ n => unfold Flat at h; exact ⟨n, rfl, h⟩
theorem flat_succL {n : Nat} {l : List D} (h : Flat n (.lst l)) : ∃ m, n = m + 1 ∧ ∀ x ∈ l, Flat m x := by
  cases n with
  | zero => unfold Flat at h; exact h.elim
  | succ n => unfold Flat at h; exact ⟨n, rfl, h⟩
theorem not_flat_dik {n : Nat} {l : List (Key × D)} (h : Flat n (.dik l)) : False := by
  cases n <;> (unfold Flat at h; exact h)
theorem not_flat_dit {n : Nat} {l : List (List Key × D)} (h : Flat n (.dit l)) : False := by
  cases n <;> (unfold Flat at h; exact h)
theorem not_flat_ty {n : Nat} {l : String} (h : Flat n (.ty l)) : False := by
  cases n <;> (unfold Flat at h; exact h)
theorem not_flat_box {n : Nat} (h : Flat n .box) : False := by
  cases n <;> (unfold Flat at h; exact h)
theorem not_flat_obj {n : Nat} {a : Addr} (h : Flat n (.obj a)) : False := by
  cases n <;> (unfold Flat at h; exact h)
section
variable {K : PySem.W.Frag} {B : Addr} {G H : Hp}
theorem strOk_of {s : List Nat} (h : okS s = true) : PyData.canLay0 (.str ⟨s.toArray⟩) = true := by
  show PyData.strOk ⟨s.toArray⟩ = true
  unfold PyData.strOk
  unfold okS at h
  rw [List.all_eq_true] at h
  rw [← Array.all_toList, List.all_eq_true]
  intro c hc
  have h1 := h c (by simpa using hc)
  simpa using h1
mutual
theorem Rep.dp (g : Same G H) : ∀ {v : V} {d : D} {n : Nat}, Rep K B G v d → Flat n d → Dp K H v (toPy d) ∧ (toPy d).canLay0 = true
  | _, _, _, .non, _ => ⟨.non, rfl⟩
  | _, _, _, .bl b, _ => ⟨.bl b, rfl⟩
  | _, _, _, .int i, _ => ⟨.int i, rfl⟩
  | _, _, _, .str h, _ => ⟨.str _, strOk_of h⟩
  | _, _, _, .ty n, h => (not_flat_ty h).elim
  | _, _, _, .box, h => (not_flat_box h).elim
  | _, _, _, .obj _, h => (not_flat_obj h).elim
  | _, _, _, .dik _ _, h => (not_flat_dik h).elim
  | _, _, _, .dit _ _, h => (not_flat_dit h).elim
  | _, _, _, .tup a r, h => by
    obtain ⟨m, rfl, h⟩ := flat_succ h
    obtain ⟨h1, h2⟩ := RepL.dp g r h
    exact ⟨.tup (.inl (.inl (g _ _ a))) h1, by simp only [toPy, PyData.canLay0]; exact h2⟩
  | _, _, _, .lst a r, h => by
    obtain ⟨m, rfl, h⟩ := flat_succL h
    obtain ⟨h1, h2⟩ := RepL.dp g r h
    exact ⟨.lst (.inl (.inl (g _ _ a))) h1, by simp only [toPy, PyData.canLay0]; exact h2⟩
theorem RepL.dp (g : Same G H) : ∀ {vs : List V} {ds : List D} {n : Nat}, RepL K B G vs ds → (∀ x ∈ ds, Flat n x) → DpAll K H vs (toPyL ds) ∧ PyData.canLayAll0 (toPyL ds) = true
  | _, _, _, .nil, _ => ⟨by rw [toPyL]; exact .nil, by rw [toPyL]; rfl⟩
  | _, _, _, .cons a r, h => by
    obtain ⟨h1, h2⟩ := Rep.dp g a (h _ List.mem_cons_self)
    obtain ⟨h3, h4⟩ := RepL.dp g r fun x hx => h x (List.mem_cons_of_mem _ hx)
    exact ⟨by rw [toPyL]; exact .cons h1 h3, by rw [toPyL]; simp only [PyData.canLayAll0, h2, h4, Bool.and_self]⟩
end
theorem view_dp (g : Same G H) {v : V} {d : D} {n : Nat} (h : View K B G H v d) (f : Flat n d) : Dp K H v (toPy d) ∧ (toPy d).canLay0 = true := by
  rcases h with h | ⟨p, rfl, t⟩
  · exact h.dp g f
  · cases t with
    | lst h r =>
      obtain ⟨m, rfl, f⟩ := flat_succL f
      obtain ⟨h1, h2⟩ := r.dp g f
      exact ⟨.lst (.inl (.inl h)) h1, by simp only [toPy, PyData.canLay0]; exact h2⟩
    | dik h r => exact (not_flat_dik f).elim
    | dit h r => exact (not_flat_dit f).elim
end

/-! ### comparisons -/
def eqD : DOp := fun a b P => Flat 50 a ∧ Flat 50 b ∧ P (.val (.bl (eqv a b)))
def neD : DOp := fun a b P => Flat 50 a ∧ Flat 50 b ∧ P (.val (.bl (!eqv a b)))
def ltD : DOp
  | .int i, .int j, P => P (.val (.bl (decide (i < j))))
  | .str a, .str b, P => P (.val (.bl (decide (a < b))))
  | _, _, _ => False
def leD : DOp
  | .int i, .int j, P => P (.val (.bl (decide (i ≤ j))))
  | .str a, .str b, P => P (.val (.bl (!decide (b < a))))
  | _, _, _ => False
def gtD : DOp := fun a b P => ltD b a P
def geD : DOp := fun a b P => leD b a P
/-- a dict's look-up, by plain data -/
def asKey : D → Option Key
  | .int i => some (.inl i)
  | .str s => some (.inr ⟨s.toArray⟩)
  | _ => none
def asKeys : List D → Option (List Key)
  | [] => some []
  | d :: l => match asKey d, asKeys l with
    | some k, some ks => some (k :: ks)
    | _, _ => none
def getG {κ β : Type} [DecidableEq κ] (l : List (κ × β)) (k : κ) : Option β := (l.find? fun kv => decide (kv.1 = k)).map (·.2)
theorem view_key {K : PySem.W.Frag} {B : Addr} {G H : Hp} {v : V} {d : D} {k : Key} (h : View K B G H v d) (e : asKey d = some k) : v = kV k ∧ okK k = true := by
  unfold asKey at e
  split at e
  · cases e; exact ⟨view_int h, rfl⟩
  · cases e
    obtain ⟨rfl, ok⟩ := view_str h
    exact ⟨rfl, by simpa [okK] using ok⟩
  · cases e
theorem repL_keys {K : PySem.W.Frag} {B : Addr} {G : Hp} : ∀ {vs : List V} {ds : List D} {ks : List Key}, RepL K B G vs ds → asKeys ds = some ks → vs = ks.map kV ∧ ks.all okK = true
  | _, _, ks, .nil, e => by
    unfold asKeys at e; cases e; exact ⟨rfl, rfl⟩
  | _, _, ks, .cons a r, e => by
    unfold asKeys at e
    split at e
    · rename_i k ks' e1 e2
      cases e
      obtain ⟨h1, h2⟩ := view_key (H := G) (.inl a) e1
      obtain ⟨h3, h4⟩ := repL_keys r e2
      exact ⟨by rw [h1, h3]; rfl, by rw [List.all_cons, h2, h4]; rfl⟩
    · cases e
theorem RepK.get {K : PySem.W.Frag} {B : Addr} {G : Hp} : ∀ {vs : List (Key × V)} {ds : List (Key × D)}, RepK K B G vs ds → ∀ k, (valV vs k = none ∧ getG ds k = none) ∨ ∃ v d, valV vs k = some v ∧ getG ds k = some d ∧ Rep K B G v d
  | _, _, .nil, k => .inl ⟨rfl, rfl⟩
  | _, _, .cons (k := k') o a r, k => by
    by_cases h : k' = k
    · subst h
      exact .inr ⟨_, _, valV_pos rfl, by simp [getG], a⟩
    · rw [valV_neg h]
      have e : ∀ (d : D) (ds : List (Key × D)), getG ((k', d) :: ds) k = getG ds k := fun d ds => by simp [getG, List.find?_cons, h]
      rw [e]
      exact RepK.get r k
theorem RepT.get {K : PySem.W.Frag} {B : Addr} {G : Hp} : ∀ {vs : List (List Key × V)} {ds : List (List Key × D)}, RepT K B G vs ds → ∀ k, (valV vs k = none ∧ getG ds k = none) ∨ ∃ v d, valV vs k = some v ∧ getG ds k = some d ∧ Rep K B G v d
  | _, _, .nil, k => .inl ⟨rfl, rfl⟩
  | _, _, .cons (k := k') o a r, k => by
    by_cases h : k' = k
    · subst h
      exact .inr ⟨_, _, valV_pos rfl, by simp [getG], a⟩
    · rw [valV_neg h]
      have e : ∀ (d : D) (ds : List (List Key × D)), getG ((k', d) :: ds) k = getG ds k := fun d ds => by simp [getG, List.find?_cons, h]
      rw [e]
      exact RepT.get r k
def inD : DOp
  | x, .tup l, P => Flat 50 x ∧ (∀ y ∈ l, Flat 49 y) ∧ P (.val (.bl (l.any fun y => eqv y x)))
  | x, .lst l, P => Flat 50 x ∧ (∀ y ∈ l, Flat 49 y) ∧ P (.val (.bl (l.any fun y => eqv y x)))
  | .str [c], .str t, P => P (.val (.bl (decide (c ∈ t))))
  | x, .dik l, P => ∃ k, asKey x = some k ∧ P (.val (.bl (getG l k).isSome))
  | .tup x, .dit l, P => ∃ k, asKeys x = some k ∧ P (.val (.bl (getG l k).isSome))
  | _, _, _ => False
def notInD : DOp
  | x, .tup l, P => Flat 50 x ∧ (∀ y ∈ l, Flat 49 y) ∧ P (.val (.bl (!l.any fun y => eqv y x)))
  | x, .lst l, P => Flat 50 x ∧ (∀ y ∈ l, Flat 49 y) ∧ P (.val (.bl (!l.any fun y => eqv y x)))
  | .str [c], .str t, P => P (.val (.bl (!decide (c ∈ t))))
  | x, .dik l, P => ∃ k, asKey x = some k ∧ P (.val (.bl (!(getG l k).isSome)))
  | .tup x, .dit l, P => ∃ k, asKeys x = some k ∧ P (.val (.bl (!(getG l k).isSome)))
  | _, _, _ => False
def isNon : D → Bool
  | .non => true
  | _ => false
def isD : DOp
  | a, .non, P => P (.val (.bl (isNon a)))
  | .bl a, .bl b, P => P (.val (.bl (decide (a = b))))
  | _, _, _ => False
def isNotD : DOp
  | a, .non, P => P (.val (.bl (!isNon a)))
  | .bl a, .bl b, P => P (.val (.bl (!decide (a = b))))
  | _, _, _ => False

section
variable {X : Cx} {bx : Bx}
theorem opD_eq (hu : X.A.units + 64 < cLine) : OpD X bx (compareOp .Eq) eqD := by
  intro pins s σ H x y v u Q I rx ry ⟨G, d1, d2, P, g, v1, v2, ⟨f1, f2, h⟩, R⟩
  obtain ⟨p1, c1⟩ := view_dp g v1 f1
  obtain ⟨p2, c2⟩ := view_dp g v2 f2
  obtain ⟨as, r1⟩ := Dp.reads I _ x v p1 rx
  obtain ⟨bs, r2⟩ := Dp.reads I _ y u p2 ry
  have h1 := flat_depth f1
  exact SeqAt.compareEq_reads r1 r2 c1 c2 (by omega) ⟨.bl _, H, I, rfl, R.val _ _ h (.bl _)⟩
theorem opD_ne (hu : X.A.units + 64 < cLine) : OpD X bx (compareOp .NotEq) neD := by
  intro pins s σ H x y v u Q I rx ry ⟨G, d1, d2, P, g, v1, v2, ⟨f1, f2, h⟩, R⟩
  obtain ⟨p1, c1⟩ := view_dp g v1 f1
  obtain ⟨p2, c2⟩ := view_dp g v2 f2
  obtain ⟨as, r1⟩ := Dp.reads I _ x v p1 rx
  obtain ⟨bs, r2⟩ := Dp.reads I _ y u p2 ry
  have h1 := flat_depth f1
  exact SeqAt.compareNe_reads r1 r2 c1 c2 (by omega) ⟨.bl _, H, I, rfl, R.val _ _ h (.bl _)⟩
theorem opD_lt : OpD X bx (compareOp .Lt) ltD := by
  intro pins s σ H x y v u Q I rx ry ⟨G, d1, d2, P, g, v1, v2, h, R⟩
  unfold ltD at h
  split at h
  · obtain rfl := view_int v1
    obtain rfl := view_int v2
    exact op_lt pins s σ H _ _ v u Q I rx ry ⟨_, _, rfl, rfl, R.val _ _ h (.bl _)⟩
  · obtain ⟨rfl, o1⟩ := view_str v1
    obtain ⟨rfl, o2⟩ := view_str v2
    exact op_lt_str pins s σ H _ _ v u Q I rx ry ⟨_, _, rfl, rfl, R.val _ _ h (.bl _)⟩
  · exact h.elim
theorem opD_le : OpD X bx (compareOp .LtE) leD := by
  intro pins s σ H x y v u Q I rx ry ⟨G, d1, d2, P, g, v1, v2, h, R⟩
  unfold leD at h
  split at h
  · obtain rfl := view_int v1
    obtain rfl := view_int v2
    exact op_le pins s σ H _ _ v u Q I rx ry ⟨_, _, rfl, rfl, R.val _ _ h (.bl _)⟩
  · obtain ⟨rfl, o1⟩ := view_str v1
    obtain ⟨rfl, o2⟩ := view_str v2
    exact op_le_str pins s σ H _ _ v u Q I rx ry ⟨_, _, rfl, rfl, R.val _ _ h (.bl _)⟩
  · exact h.elim
theorem opD_gt : OpD X bx (compareOp .Gt) gtD := by
  intro pins s σ H x y v u Q I rx ry ⟨G, d1, d2, P, g, v1, v2, h, R⟩
  unfold gtD ltD at h
  split at h
  · obtain rfl := view_int v1
    obtain rfl := view_int v2
    exact op_gt pins s σ H _ _ v u Q I rx ry ⟨_, _, rfl, rfl, R.val _ _ h (.bl _)⟩
  · obtain ⟨rfl, o1⟩ := view_str v1
    obtain ⟨rfl, o2⟩ := view_str v2
    exact op_gt_str pins s σ H _ _ v u Q I rx ry ⟨_, _, rfl, rfl, R.val _ _ h (.bl _)⟩
  · exact h.elim
theorem opD_ge : OpD X bx (compareOp .GtE) geD := by
  intro pins s σ H x y v u Q I rx ry ⟨G, d1, d2, P, g, v1, v2, h, R⟩
  unfold geD leD at h
  split at h
  · obtain rfl := view_int v1
    obtain rfl := view_int v2
    exact op_ge pins s σ H _ _ v u Q I rx ry ⟨_, _, rfl, rfl, R.val _ _ h (.bl _)⟩
  · obtain ⟨rfl, o1⟩ := view_str v1
    obtain ⟨rfl, o2⟩ := view_str v2
    exact op_ge_str pins s σ H _ _ v u Q I rx ry ⟨_, _, rfl, rfl, R.val _ _ h (.bl _)⟩
  · exact h.elim
theorem any_toPy (l : List D) (x : D) : (toPyL l).any (fun y => PyData.eqv y (toPy x)) = l.any fun y => eqv y x := by
  rw [toPyL_map, List.any_map]; rfl
theorem opD_in (hu : X.A.units + 64 < cLine) : OpD X bx (compareOp .In) inD := by
  intro pins s σ H x y v u Q I rx ry ⟨G, d1, d2, P, g, v1, v2, h, R⟩
  unfold inD at h
  split at h
  · obtain ⟨f1, f2, h⟩ := h
    obtain ⟨p1, c1⟩ := view_dp g v1 f1
    obtain ⟨p2, c2⟩ := view_dp (n := 50) g v2 f2
    obtain ⟨as, r1⟩ := Dp.reads I _ x v p1 rx
    obtain ⟨bs, r2⟩ := Dp.reads I _ y u p2 ry
    have h1 := flat_depth f1
    exact SeqAt.in_tuple_reads r2 r1 (by simpa only [toPy, PyData.canLay0] using c2) c1 (by omega) ⟨.bl _, H, I, rfl, R.val _ _ (by rw [any_toPy]; exact h) (.bl _)⟩
  · obtain ⟨f1, f2, h⟩ := h
    obtain ⟨p1, c1⟩ := view_dp g v1 f1
    obtain ⟨p2, c2⟩ := view_dp (n := 50) g v2 f2
    obtain ⟨as, r1⟩ := Dp.reads I _ x v p1 rx
    obtain ⟨bs, r2⟩ := Dp.reads I _ y u p2 ry
    have h1 := flat_depth f1
    exact SeqAt.in_list_reads r2 r1 (by simpa only [toPy, PyData.canLay0] using c2) c1 (by omega) ⟨.bl _, H, I, rfl, R.val _ _ (by rw [any_toPy]; exact h) (.bl _)⟩
  · obtain ⟨rfl, o1⟩ := view_str v1
    obtain ⟨rfl, o2⟩ := view_str v2
    exact op_in_sign pins s σ H _ _ v u Q I rx ry ⟨_, _, rfl, rfl, R.val _ _ h (.bl _)⟩
  · obtain ⟨k, ek, h⟩ := h
    obtain ⟨rfl, _⟩ := view_key v1 ek
    obtain ⟨a, vs, rfl, s1, r1⟩ := view_dik g v2
    cases ry
    have e := r1.get k
    refine d_in (o := valV vs k) (by omega) I (.inl ⟨vs, k, s1, rfl, rfl⟩) rx fun s' I' => ⟨.bl _, H, I', rfl, ?_⟩
    rcases e with ⟨e1, e2⟩ | ⟨v, d, e1, e2, _⟩
    · rw [e1]; rw [e2] at h; exact R.val _ _ h (.bl _)
    · rw [e1]; rw [e2] at h; exact R.val _ _ h (.bl _)
  · obtain ⟨k, ek, h⟩ := h
    obtain ⟨b, us, rfl, s0, r0⟩ := view_tupH g v1
    obtain ⟨rfl, _⟩ := repL_keys r0 ek
    obtain ⟨a, vs, rfl, s1, r1⟩ := view_dit g v2
    cases ry
    have e := r1.get k
    refine d_in (o := valV vs k) (by omega) I (.inr ⟨vs, k, b, s1, rfl, s0, rfl⟩) rx fun s' I' => ⟨.bl _, H, I', rfl, ?_⟩
    rcases e with ⟨e1, e2⟩ | ⟨v, d, e1, e2, _⟩
    · rw [e1]; rw [e2] at h; exact R.val _ _ h (.bl _)
    · rw [e1]; rw [e2] at h; exact R.val _ _ h (.bl _)
  · exact h.elim
theorem opD_notIn (hu : X.A.units + 64 < cLine) : OpD X bx (compareOp .NotIn) notInD := by
  intro pins s σ H x y v u Q I rx ry ⟨G, d1, d2, P, g, v1, v2, h, R⟩
  unfold notInD at h
  split at h
  · obtain ⟨f1, f2, h⟩ := h
    obtain ⟨p1, c1⟩ := view_dp g v1 f1
    obtain ⟨p2, c2⟩ := view_dp (n := 50) g v2 f2
    obtain ⟨as, r1⟩ := Dp.reads I _ x v p1 rx
    obtain ⟨bs, r2⟩ := Dp.reads I _ y u p2 ry
    have h1 := flat_depth f1
    exact SeqAt.notIn_tuple_reads r2 r1 (by simpa only [toPy, PyData.canLay0] using c2) c1 (by omega) ⟨.bl _, H, I, rfl, R.val _ _ (by rw [any_toPy]; exact h) (.bl _)⟩
  · obtain ⟨f1, f2, h⟩ := h
    obtain ⟨p1, c1⟩ := view_dp g v1 f1
    obtain ⟨p2, c2⟩ := view_dp (n := 50) g v2 f2
    obtain ⟨as, r1⟩ := Dp.reads I _ x v p1 rx
    obtain ⟨bs, r2⟩ := Dp.reads I _ y u p2 ry
    have h1 := flat_depth f1
    exact SeqAt.notIn_list_reads r2 r1 (by simpa only [toPy, PyData.canLay0] using c2) c1 (by omega) ⟨.bl _, H, I, rfl, R.val _ _ (by rw [any_toPy]; exact h) (.bl _)⟩
  · obtain ⟨rfl, o1⟩ := view_str v1
    obtain ⟨rfl, o2⟩ := view_str v2
    exact op_notIn_sign pins s σ H _ _ v u Q I rx ry ⟨_, _, rfl, rfl, R.val _ _ h (.bl _)⟩
  · obtain ⟨k, ek, h⟩ := h
    obtain ⟨rfl, _⟩ := view_key v1 ek
    obtain ⟨a, vs, rfl, s1, r1⟩ := view_dik g v2
    cases ry
    have e := r1.get k
    refine d_notIn (o := valV vs k) (by omega) I (.inl ⟨vs, k, s1, rfl, rfl⟩) rx fun s' I' => ⟨.bl _, H, I', rfl, ?_⟩
    rcases e with ⟨e1, e2⟩ | ⟨v, d, e1, e2, _⟩
    · rw [e1]; rw [e2] at h; exact R.val _ _ h (.bl _)
    · rw [e1]; rw [e2] at h; exact R.val _ _ h (.bl _)
  · obtain ⟨k, ek, h⟩ := h
    obtain ⟨b, us, rfl, s0, r0⟩ := view_tupH g v1
    obtain ⟨rfl, _⟩ := repL_keys r0 ek
    obtain ⟨a, vs, rfl, s1, r1⟩ := view_dit g v2
    cases ry
    have e := r1.get k
    refine d_notIn (o := valV vs k) (by omega) I (.inr ⟨vs, k, b, s1, rfl, s0, rfl⟩) rx fun s' I' => ⟨.bl _, H, I', rfl, ?_⟩
    rcases e with ⟨e1, e2⟩ | ⟨v, d, e1, e2, _⟩
    · rw [e1]; rw [e2] at h; exact R.val _ _ h (.bl _)
    · rw [e1]; rw [e2] at h; exact R.val _ _ h (.bl _)
  · exact h.elim
theorem isNon_v {K : PySem.W.Frag} {B : Addr} {G H : Hp} {v : V} {d : D} (h : View K B G H v d) : decide (v = .non) = isNon d := by
  rcases h with h | ⟨p, rfl, t⟩
  · cases h <;> rfl
  · cases t <;> rfl
theorem opD_is : OpD X bx (compareOp .Is) isD := by
  intro pins s σ H x y v u Q I rx ry ⟨G, d1, d2, P, g, v1, v2, h, R⟩
  unfold isD at h
  split at h
  · obtain rfl := view_non v2
    refine op_isN pins s σ H _ _ v u Q I rx ry ⟨rfl, R.val _ _ ?_ (.bl _)⟩
    rw [isNon_v v1]; exact h
  · obtain rfl := view_bl v1
    obtain rfl := view_bl v2
    exact op_is_bl pins s σ H _ _ v u Q I rx ry ⟨_, _, rfl, rfl, R.val _ _ h (.bl _)⟩
  · exact h.elim
theorem opD_isNot : OpD X bx (compareOp .IsNot) isNotD := by
  intro pins s σ H x y v u Q I rx ry ⟨G, d1, d2, P, g, v1, v2, h, R⟩
  unfold isNotD at h
  split at h
  · obtain rfl := view_non v2
    refine op_notN pins s σ H _ _ v u Q I rx ry ⟨rfl, R.val _ _ ?_ (.bl _)⟩
    rw [isNon_v v1]; exact h
  · obtain rfl := view_bl v1
    obtain rfl := view_bl v2
    exact op_isnot_bl pins s σ H _ _ v u Q I rx ry ⟨_, _, rfl, rfl, R.val _ _ h (.bl _)⟩
  · exact h.elim

/-! ### as values, as tests -/
variable {a b c : Expr} {fa fb fc : WE} {pos : Pos}
theorem e_cmp {op : CmpOp} {dop : DOp} (ho : OpD X bx (compareOp op) dop) (ha : E3 X bx a fa) (hb : E3 X bx b fb) (hm : behindInMarks op b = false := by first | exact nomark _ | rfl | with_unfolding_all rfl) :
    E3 X bx (.Compare a [op] [b] pos) (wBin dop fa fb) := ⟨PE.weaken (pe_cmpR ho ha.pe hb.pe hm) lE_bin⟩

abbrev WT := Env3 → (Bool → Env3 → Prop) → Prop
def lT (K : PySem.W.Frag) (bx : Bx) (f : WT) : TT := fun σ H Q => ∃ F ρ G P, Stt K bx F ρ σ G H ∧ f ρ P ∧ ∀ b ρ' G' H', P b ρ' → Same G G' → Stt K bx F ρ' σ G' H' → Q b H'
structure T3 (X : Cx) (bx : Bx) (e : Expr) (f : WT) : Prop where
  pt : PT X e (lT X.K bx f)
structure TW3 (X : Cx) (bx : Bx) (e : Expr) (f : WT) : Prop where
  pw : PW X e (lT X.K bx f)
theorem PT.weaken {X : Cx} {e : Expr} {t t' : TT} (h : PT X e t) (w : ∀ σ H Q, t' σ H Q → t σ H Q) : PT X e t' :=
  ⟨fun pins s σ H Q I q => h.run pins s σ H Q I (w _ _ _ q)⟩
theorem PW.weaken {X : Cx} {e : Expr} {t t' : TT} (h : PW X e t) (w : ∀ σ H Q, t' σ H Q → t σ H Q) : PW X e t' :=
  ⟨fun wh pins s σ H Q I q => h.run wh pins s σ H Q I (w _ _ _ q)⟩
theorem t_of (h : TW3 X bx a ft) : T3 X bx a ft := ⟨h.pw.pt⟩
def asB (r : R) (k : Bool → Prop) : Prop :=
  match r with
  | .val (.bl b) => k b
  | _ => False
def wTB (fa : WE) : WT := fun ρ Q => fa ρ fun r ρ1 => asB r fun b => Q b ρ1
theorem lT_B {K : PySem.W.Frag} (σ : L2.St) (H : Hp) (Q : Bool → Hp → Prop) (h : lT K bx (wTB fa) σ H Q) : tTest (lE K bx fa) σ H Q := by
  obtain ⟨F, ρ, G, P, st, hf, hQ⟩ := h
  refine ⟨F, ρ, G, _, st, hf, fun r ρ1 v G1 H1 h g st1 rr => ?_⟩
  cases r with
  | val d =>
    cases d <;> first
      | exact (show False from h).elim
      | (cases rr; exact ⟨_, rfl, hQ _ _ _ _ h g st1⟩)
  | new d => exact (show False from h).elim
  | slot i => exact (show False from h).elim
theorem t_cmp {op : CmpOp} {dop : DOp} (ho : OpD X bx (compareOp op) dop) (ha : E3 X bx a fa) (hb : E3 X bx b fb) (hm : behindInMarks op b = false := by first | exact nomark _ | rfl | with_unfolding_all rfl) :
    T3 X bx (.Compare a [op] [b] pos) (wTB (wBin dop fa fb)) := by
  refine ⟨PT.weaken (pt_cmpR ho ha.pe hb.pe hm) fun σ H Q h => ?_⟩
  obtain ⟨F, ρ, G, P, st, hf, hQ⟩ := h
  have h2 : tTest (lE X.K bx (wBin dop fa fb)) σ H Q := lT_B σ H Q ⟨F, ρ, G, P, st, hf, hQ⟩
  exact lE_bin σ H _ h2
/-- truth, of a dict that is locked, too -/
def TruW (K : PySem.W.Frag) (x : V) (H : Hp) (k : Bool) : Prop := TruV K x H k ∨ ∃ a kvs, x = .ref a ∧ Rd H a (.dK kvs) ∧ k = !kvs.isEmpty
theorem tru_okW {X : Cx} : TruR X (fun x H Q => ∃ k, TruW X.K x H k ∧ Q k H) := by
  intro pins s σ H x v Q I rx ⟨k, h, q⟩
  rcases h with h | ⟨a, kvs, rfl, e, rfl⟩
  · exact tru_ok pins s σ H x v Q I rx ⟨k, h, q⟩
  · cases rx
    exact d_truth I e fun s' I' => ⟨H, I', q⟩
section
variable {X : Cx} {a b : Expr} {ta tb : TE} {rest : List Expr} {pos : Pos}
theorem pt_truthW (ha : PE X a ta) (he : ∀ whole, isTrue a X.env whole = (do let v ← whole; standAt a.pos; holding [v] (truthy v))) :
    PT X a (fun σ H Q => ta σ H fun x H' => ∃ k, TruW X.K x H' k ∧ Q k H') := by
  refine ⟨fun pins s σ H Q I h => ?_⟩
  exact isTrue_plain (thn (ha.run pins s σ H _ I h) fun v s1 ⟨x, H1, I1, r1, q1⟩ => tru_okW pins s1 σ H1 x v Q I1 r1 q1) (he _)
theorem pe_orW (ha : PE X a ta) (hb : PE X (.BoolOp .Or (b :: rest) pos) tb) : PE X (.BoolOp .Or (a :: b :: rest) pos) (fun σ H Q => ta σ H fun x H1 => ∃ k, TruW X.K x H1 k ∧ if k = true then Q x H1 else tb σ H1 Q) := by
  refine ⟨fun pins s σ H Q I h => ?_⟩
  refine BoolOp_or (thn (ha.run pins s σ H _ I h) fun v s1 ⟨x, H1, I1, r1, k, e, q1⟩ => ?_)
  refine thn (tru_okW pins s1 σ H1 x v (fun c H2 => c = k ∧ H2 = H1) I1 r1 ⟨k, e, rfl, rfl⟩) fun c s2 ⟨H2, I2, e1, e2⟩ => ?_
  subst e2; subst e1
  cases c with
  | true => exact ⟨x, H2, I2, r1, q1⟩
  | false => exact hb.run pins s2 σ H2 Q I2 q1
theorem pe_andW (ha : PE X a ta) (hb : PE X (.BoolOp .And (b :: rest) pos) tb) : PE X (.BoolOp .And (a :: b :: rest) pos) (fun σ H Q => ta σ H fun x H1 => ∃ k, TruW X.K x H1 k ∧ if k = true then tb σ H1 Q else Q x H1) := by
  refine ⟨fun pins s σ H Q I h => ?_⟩
  refine BoolOp_and (thn (ha.run pins s σ H _ I h) fun v s1 ⟨x, H1, I1, r1, k, e, q1⟩ => ?_)
  refine thn (tru_okW pins s1 σ H1 x v (fun c H2 => c = k ∧ H2 = H1) I1 r1 ⟨k, e, rfl, rfl⟩) fun c s2 ⟨H2, I2, e1, e2⟩ => ?_
  subst e2; subst e1
  cases c with
  | true => exact hb.run pins s2 σ H2 Q I2 q1
  | false => exact ⟨x, H2, I2, r1, q1⟩
theorem pe_notW (ha : PE X a ta) : PE X (.UnaryOp .Not a pos) (fun σ H Q => ta σ H fun x H1 => ∃ k, TruW X.K x H1 k ∧ Q (.bl (!k)) H1) := by
  refine ⟨fun pins s σ H Q I h => ?_⟩
  refine UnaryOp_ (thn (ha.run pins s σ H _ I h) fun v s1 ⟨x, H1, I1, r1, k, e, q1⟩ => ?_)
  exact not_of (thn (tru_okW pins s1 σ H1 x v (fun c H2 => Q (.bl (!c)) H2) I1 r1 ⟨k, e, q1⟩) fun c s2 ⟨H2, I2, q2⟩ => ⟨.bl (!c), H2, I2, rfl, q2⟩)
end
def truD (d : D) (k : Bool → Prop) : Prop :=
  match d with
  | .non => k false
  | .bl b => k b
  | .int i => k (i != 0)
  | .str s => s.length ≤ sizeLine ∧ k (!s.isEmpty)
  | .tup l => k (!l.isEmpty)
  | .lst l => k (!l.isEmpty)
  | .dik l => k (!l.isEmpty)
  | _ => False
theorem RepL.isEmpty {K : PySem.W.Frag} {B : Addr} {G : Hp} {vs : List V} {ds : List D} (r : RepL K B G vs ds) : vs.isEmpty = ds.isEmpty := by cases r <;> rfl
theorem RepK.isEmpty {K : PySem.W.Frag} {B : Addr} {G : Hp} {vs : List (Key × V)} {ds : List (Key × D)} (r : RepK K B G vs ds) : vs.isEmpty = ds.isEmpty := by cases r <;> rfl
theorem truV_of {K : PySem.W.Frag} {B : Addr} {G H : Hp} {v : V} {d : D} {k : Bool → Prop} (g : Same G H) (h : View K B G H v d) (t : truD d k) : ∃ b, TruW K v H b ∧ k b := by
  unfold truD at t
  split at t
  · obtain rfl := view_non h; exact ⟨_, .inl rfl, t⟩
  · obtain rfl := view_bl h; exact ⟨_, .inl rfl, t⟩
  · obtain rfl := view_int h; exact ⟨_, .inl rfl, t⟩
  · rename_i s
    obtain ⟨rfl, _⟩ := view_str h
    refine ⟨_, .inl ⟨by rw [str_len]; exact t.1, rfl⟩, ?_⟩
    rw [str_len]
    have e : ((s.length : Int) != 0) = !s.isEmpty := by cases s <;> simp [bne]; omega
    rw [e]; exact t.2
  · obtain ⟨a, vs, rfl, s, r, _⟩ := view_tup g h
    exact ⟨_, .inl (.inr (.inl ⟨vs, s, rfl⟩)), by rw [r.isEmpty]; exact t⟩
  · obtain ⟨a, vs, rfl, s, r⟩ := view_lst g h
    exact ⟨_, .inl (.inl ⟨vs, .inl (.inl s), rfl⟩), by rw [r.isEmpty]; exact t⟩
  · obtain ⟨a, vs, rfl, s, r⟩ := view_dik g h
    exact ⟨_, .inr ⟨a, vs, rfl, s, rfl⟩, by rw [r.isEmpty]; exact t⟩
  · exact t.elim
def wTru (fa : WE) : WT := fun ρ Q => fa ρ fun r ρ1 => pk r ρ1 fun d => truD d fun b => Q b ρ1
theorem t_val (ha : E3 X bx a fa) (he : ∀ whole, isTrue a X.env whole = (do let v ← whole; standAt a.pos; holding [v] (truthy v)) := by intro _; rfl) : T3 X bx a (wTru fa) := by
  refine ⟨PT.weaken (pt_truthW ha.pe he) fun σ H Q ⟨F, ρ, G, P, st, hf, hQ⟩ => ⟨F, ρ, G, _, st, hf, fun r ρ1 v G1 H1 h g st1 rr => ?_⟩⟩
  obtain ⟨d, h2, vw⟩ := pk_ok st1 rr h
  obtain ⟨b, tv, q⟩ := truV_of st1.gs vw h2
  exact ⟨b, tv, hQ _ _ _ _ q g st1⟩
def wTAnd (ta tb : WT) : WT := fun ρ Q => ta ρ fun b ρ1 => if b = true then tb ρ1 Q else Q false ρ1
def wTOr (ta tb : WT) : WT := fun ρ Q => ta ρ fun b ρ1 => if b = true then Q true ρ1 else tb ρ1 Q
def wTNot (ta : WT) : WT := fun ρ Q => ta ρ fun b ρ1 => Q (!b) ρ1
variable {ft fu : WT} {rest : List Expr}
theorem tw_and1 (ha : T3 X bx a ft) : TW3 X bx (.BoolOp .And [a] pos) ft := ⟨pw_and1 ha.pt⟩
theorem tw_or1 (ha : T3 X bx a ft) : TW3 X bx (.BoolOp .Or [a] pos) ft := ⟨pw_or1 ha.pt⟩
theorem tw_and (ha : T3 X bx a ft) (hb : TW3 X bx (.BoolOp .And (b :: rest) pos) fu) : TW3 X bx (.BoolOp .And (a :: b :: rest) pos) (wTAnd ft fu) := by
  refine ⟨PW.weaken (pw_and ha.pt hb.pw) fun σ H Q ⟨F, ρ, G, P, st, hf, hQ⟩ => ⟨F, ρ, G, _, st, hf, fun b ρ1 G1 H1 h g st1 => ?_⟩⟩
  by_cases hb : b = true
  · rw [if_pos hb] at h ⊢
    exact ⟨F, ρ1, G1, _, st1, h, fun b ρ2 G2 H2 h2 g2 st2 => hQ _ _ _ _ h2 (g.trans g2) st2⟩
  · rw [if_neg hb] at h ⊢
    exact hQ _ _ _ _ h g st1
theorem tw_or (ha : T3 X bx a ft) (hb : TW3 X bx (.BoolOp .Or (b :: rest) pos) fu) : TW3 X bx (.BoolOp .Or (a :: b :: rest) pos) (wTOr ft fu) := by
  refine ⟨PW.weaken (pw_or ha.pt hb.pw) fun σ H Q ⟨F, ρ, G, P, st, hf, hQ⟩ => ⟨F, ρ, G, _, st, hf, fun b ρ1 G1 H1 h g st1 => ?_⟩⟩
  by_cases hb : b = true
  · rw [if_pos hb] at h ⊢
    exact hQ _ _ _ _ h g st1
  · rw [if_neg hb] at h ⊢
    exact ⟨F, ρ1, G1, _, st1, h, fun b ρ2 G2 H2 h2 g2 st2 => hQ _ _ _ _ h2 (g.trans g2) st2⟩
theorem t_not (ha : T3 X bx a ft) : T3 X bx (.UnaryOp .Not a pos) (wTNot ft) :=
  ⟨PT.weaken (pt_not ha.pt) fun σ H Q ⟨F, ρ, G, P, st, hf, hQ⟩ => ⟨F, ρ, G, _, st, hf, fun b ρ1 G1 H1 h g st1 => hQ _ _ _ _ h g st1⟩⟩
/-- and, or, not as values -/
def wAnd (fa fb : WE) : WE := fun ρ Q => fa ρ fun r ρ1 => pk r ρ1 fun d => truD d fun b => if b = true then fb ρ1 Q else Q r ρ1
def wOr (fa fb : WE) : WE := fun ρ Q => fa ρ fun r ρ1 => pk r ρ1 fun d => truD d fun b => if b = true then Q r ρ1 else fb ρ1 Q
def wNot (fa : WE) : WE := fun ρ Q => fa ρ fun r ρ1 => pk r ρ1 fun d => truD d fun b => Q (.val (.bl (!b))) ρ1
theorem e_one {op} (ha : E3 X bx a fa) : E3 X bx (.BoolOp op [a] pos) fa := ⟨pe_one ha.pe⟩
theorem e_and (ha : E3 X bx a fa) (hb : E3 X bx (.BoolOp .And (b :: rest) pos) fb) : E3 X bx (.BoolOp .And (a :: b :: rest) pos) (wAnd fa fb) := by
  refine ⟨PE.weaken (pe_andW ha.pe hb.pe) fun σ H Q ⟨F, ρ, G, P, st, hf, hQ⟩ => ⟨F, ρ, G, _, st, hf, fun r ρ1 v G1 H1 h g st1 rr => ?_⟩⟩
  obtain ⟨d, h2, vw⟩ := pk_ok st1 rr h
  obtain ⟨k, tv, q⟩ := truV_of st1.gs vw h2
  refine ⟨k, tv, ?_⟩
  by_cases hb : k = true
  · rw [if_pos hb] at q ⊢
    exact ⟨F, ρ1, G1, _, st1, q, fun r2 ρ2 v2 G2 H2 h2 g2 st2 rr2 => hQ _ _ _ _ _ h2 (g.trans g2) st2 rr2⟩
  · rw [if_neg hb] at q ⊢
    exact hQ _ _ _ _ _ q g st1 rr
theorem e_or (ha : E3 X bx a fa) (hb : E3 X bx (.BoolOp .Or (b :: rest) pos) fb) : E3 X bx (.BoolOp .Or (a :: b :: rest) pos) (wOr fa fb) := by
  refine ⟨PE.weaken (pe_orW ha.pe hb.pe) fun σ H Q ⟨F, ρ, G, P, st, hf, hQ⟩ => ⟨F, ρ, G, _, st, hf, fun r ρ1 v G1 H1 h g st1 rr => ?_⟩⟩
  obtain ⟨d, h2, vw⟩ := pk_ok st1 rr h
  obtain ⟨k, tv, q⟩ := truV_of st1.gs vw h2
  refine ⟨k, tv, ?_⟩
  by_cases hb : k = true
  · rw [if_pos hb] at q ⊢
    exact hQ _ _ _ _ _ q g st1 rr
  · rw [if_neg hb] at q ⊢
    exact ⟨F, ρ1, G1, _, st1, q, fun r2 ρ2 v2 G2 H2 h2 g2 st2 rr2 => hQ _ _ _ _ _ h2 (g.trans g2) st2 rr2⟩
theorem e_not (ha : E3 X bx a fa) : E3 X bx (.UnaryOp .Not a pos) (wNot fa) := by
  refine ⟨PE.weaken (pe_notW ha.pe) fun σ H Q ⟨F, ρ, G, P, st, hf, hQ⟩ => ⟨F, ρ, G, _, st, hf, fun r ρ1 v G1 H1 h g st1 rr => ?_⟩⟩
  obtain ⟨d, h2, vw⟩ := pk_ok st1 rr h
  obtain ⟨k, tv, q⟩ := truV_of st1.gs vw h2
  exact ⟨k, tv, hQ _ _ _ _ _ q g st1 (.bl _)⟩
def wIf (ft : WT) (fa fb : WE) : WE := fun ρ Q => ft ρ fun c ρ1 => if c = true then fa ρ1 Q else fb ρ1 Q
theorem e_if (hc : T3 X bx c ft) (ha : E3 X bx a fa) (hb : E3 X bx b fb) : E3 X bx (.IfExp c a b pos) (wIf ft fa fb) := by
  refine ⟨PE.weaken (pe_ifExp hc.pt ha.pe hb.pe) fun σ H Q ⟨F, ρ, G, P, st, hf, hQ⟩ => ⟨F, ρ, G, _, st, hf, fun k ρ1 G1 H1 h g st1 => ?_⟩⟩
  by_cases hb : k = true
  · rw [if_pos hb] at h ⊢
    exact ⟨F, ρ1, G1, _, st1, h, fun r2 ρ2 v2 G2 H2 h2 g2 st2 rr2 => hQ _ _ _ _ _ h2 (g.trans g2) st2 rr2⟩
  · rw [if_neg hb] at h ⊢
    exact ⟨F, ρ1, G1, _, st1, h, fun r2 ρ2 v2 G2 H2 h2 g2 st2 rr2 => hQ _ _ _ _ _ h2 (g.trans g2) st2 rr2⟩
/-- a < b < c -/
def wChain (o1 o2 : DOp) (fa fb fc : WE) : WE := fun ρ Q => fa ρ fun r1 ρ1 => fb ρ1 fun r2 ρ2 => pk r1 ρ2 fun x => pk r2 ρ2 fun y => o1 x y fun r => asB r fun k =>
  if k = true then fc ρ2 fun r3 ρ3 => pk r2 ρ3 fun y => pk r3 ρ3 fun z => o2 y z fun r => Q r ρ3 else Q (.val (.bl false)) ρ2
theorem lE_chain {K : PySem.W.Frag} {o1 o2 : DOp} (σ : L2.St) (H : Hp) (Q : VK) (h : lE K bx (wChain o1 o2 fa fb fc) σ H Q) : tChain (rD K bx o1) (rD K bx o2) (lE K bx fa) (lE K bx fb) (lE K bx fc) σ H Q := by
  obtain ⟨F, ρ, G, P, st, hf, hQ⟩ := h
  refine ⟨F, ρ, G, _, st, hf, fun r1 ρ1 w1 G1 H1 h1 g1 st1 rr1 => ?_⟩
  refine ⟨pend F H1 r1 w1, ρ1, G1, _, pend_st st1 rr1, h1, fun r2 ρ2 w2 G2 H2 h2 g2 st2 rr2 => ?_⟩
  obtain ⟨st2', rr1'⟩ := pend_back st1 rr1 g2 st2
  have rr2' := rr_unpend rr2 rr1
  obtain ⟨x, h3, vx⟩ := pk_ok st2' rr1' h2
  obtain ⟨y, h4, vy⟩ := pk_ok st2' rr2' h3
  refine ⟨G2, x, y, _, st2'.gs, vx, vy, h4, res_of (pend_st st2' rr2') fun r w G3 H3 h g st3 rr => ?_⟩
  cases r with
  | new d => exact (show False from h).elim
  | slot i => exact (show False from h).elim
  | val d =>
    cases d <;> first
      | exact (show False from h).elim
      | skip
    rename_i k
    cases rr
    obtain ⟨st3, rr3⟩ := pend_back st2' rr2' g st3
    have h : if k = true then fc ρ2 fun r3 ρ3 => pk r2 ρ3 fun y => pk r3 ρ3 fun z => o2 y z fun r => P r ρ3 else P (.val (.bl false)) ρ2 := h
    refine ⟨k, rfl, ?_⟩
    by_cases hk : k = true
    · rw [if_pos hk] at h ⊢
      refine ⟨pend F H3 r2 w2, ρ2, G3, _, pend_st st3 rr3, h, fun r3 ρ3 w3 G4 H4 h5 g4 st4 rr4 => ?_⟩
      obtain ⟨st4', rr2''⟩ := pend_back st3 rr3 g4 st4
      have rr4' := rr_unpend rr4 rr3
      obtain ⟨y', h6, vy'⟩ := pk_ok st4' rr2'' h5
      obtain ⟨z, h7, vz⟩ := pk_ok st4' rr4' h6
      exact ⟨G4, y', z, _, st4'.gs, vy', vz, h7, res_of st4' fun r w G5 H5 h g5 st5 rr => hQ r ρ3 w G5 H5 h (g1.trans (g2.trans (g.trans (g4.trans g5)))) st5 rr⟩
    · rw [if_neg hk] at h ⊢
      exact hQ _ _ _ _ _ h (g1.trans (g2.trans g)) st3 (.bl _)
theorem e_chain {op1 op2 : CmpOp} {o1 o2 : DOp} (h1 : OpD X bx (compareOp op1) o1) (h2 : OpD X bx (compareOp op2) o2) (ha : E3 X bx a fa) (hb : E3 X bx b fb) (hc : E3 X bx c fc) (hm : lastMarks [op1, op2] [b, c] = false := by with_unfolding_all rfl) : E3 X bx (.Compare a [op1, op2] [b, c] pos) (wChain o1 o2 fa fb fc) :=
  ⟨PE.weaken (pe_chain h1 h2 ha.pe hb.pe hc.pe hm) lE_chain⟩
theorem t_chain {op1 op2 : CmpOp} {o1 o2 : DOp} (h1 : OpD X bx (compareOp op1) o1) (h2 : OpD X bx (compareOp op2) o2) (ha : E3 X bx a fa) (hb : E3 X bx b fb) (hc : E3 X bx c fc) (hm : lastMarks [op1, op2] [b, c] = false := by with_unfolding_all rfl) : T3 X bx (.Compare a [op1, op2] [b, c] pos) (wTB (wChain o1 o2 fa fb fc)) := by
  refine ⟨PT.weaken (pt_chain h1 h2 ha.pe hb.pe hc.pe hm) fun σ H Q h => ?_⟩
  have h2 : tTest (lE X.K bx (wChain o1 o2 fa fb fc)) σ H Q := lT_B σ H Q h
  exact lE_chain σ H _ h2
end
end L2.W3

/-! W3, part d: arguments, displays, calls, subscripts, slices. -/
namespace L2.W3
open PySem PySem.Spec PyProof.Rows

abbrev WA := Env3 → (List D → Env3 → Prop) → Prop
def lA (K : PySem.W.Frag) (bx : Bx) (f : WA) : TA := fun σ H Q => ∃ F ρ G P, Stt K bx F ρ σ G H ∧ f ρ P ∧ ∀ ds ρ' vs G' H', P ds ρ' → Same G G' → Stt K bx F ρ' σ G' H' → RepL K bx.adr G' vs ds → Q vs H'
structure A3 (X : Cx) (bx : Bx) (es : List Expr) (f : WA) : Prop where
  pa : PA X es (lA X.K bx f)
theorem PA.weaken {X : Cx} {e : List Expr} {t t' : TA} (h : PA X e t) (w : ∀ σ H Q, t' σ H Q → t σ H Q) : PA X e t' :=
  ⟨fun pos pins s σ H Q I q => h.run pos pins s σ H Q I (w _ _ _ q)⟩
def wANil : WA := fun ρ Q => Q [] ρ
def wACons (fa : WE) (fr : WA) : WA := fun ρ Q => fa ρ fun r ρ1 => fz r ρ1 fun d ρ2 => fr ρ2 fun ds ρ3 => Q (d :: ds) ρ3

section
variable {X : Cx} {bx : Bx} {a b e : Expr} {es : List Expr} {fa fb : WE} {fr : WA} {pos : Pos} {x : Str} {p : Pos}
theorem a_nil : A3 X bx [] wANil := ⟨PA.weaken pa_nil fun σ H Q ⟨F, ρ, G, P, st, h, hQ⟩ => hQ _ ρ [] G H h (Same.refl G) st .nil⟩
theorem a_cons (ha : E3 X bx e fa) (hr : A3 X bx es fr) (hs : starEach (e :: es) X.env = (false, eval e X.env) :: starEach es X.env := by rfl) : A3 X bx (e :: es) (wACons fa fr) := by
  refine ⟨PA.weaken (pa_cons ha.pe hr.pa hs) fun σ H Q ⟨F, ρ, G, P, st, h, hQ⟩ => ⟨F, ρ, G, _, st, h, fun r ρ1 v G1 H1 h1 g1 st1 rr1 => ?_⟩⟩
  obtain ⟨d, ρ2, G2, h2, g2, st2, rd⟩ := fz_ok st1 rr1 h1
  exact ⟨F, ρ2, G2, _, st2, h2, fun ds ρ3 vs G3 H3 h3 g3 st3 rl => hQ _ _ _ _ _ h3 (g1.trans (g2.trans g3)) st3 (.cons (rd.mono g3) rl)⟩

/-! ### displays -/
def wTup (f : WA) : WE := fun ρ Q => f ρ fun ds ρ1 => ds.length ≤ sizeLine ∧ Q (.val (.tup ds)) ρ1
def wLst (f : WA) : WE := fun ρ Q => f ρ fun ds ρ1 => ds.length ≤ sizeLine ∧ Q (.new (.lst ds)) ρ1
theorem e_tup {k} (h : A3 X bx es fr) : E3 X bx (.Tuple es k pos) (wTup fr) := by
  refine ⟨PE.weaken (pe_tup h.pa) fun σ H Q ⟨F, ρ, G, P, st, h, hQ⟩ => ⟨F, ρ, G, _, st, h, fun ds ρ1 vs G1 H1 h1 g1 st1 rl => ?_⟩⟩
  have R := res_of st1 (P := fun r => P r ρ1) fun r v G' H' h g st rr => hQ r ρ1 v G' H' h (g1.trans g) st rr
  exact ⟨by rw [rl.length]; exact h1.1, fun q hq => R.tup _ _ q h1.2 hq rl⟩
theorem e_lst (h : A3 X bx es fr) : E3 X bx (.List es pos) (wLst fr) := by
  refine ⟨PE.weaken (pe_lst h.pa) fun σ H Q ⟨F, ρ, G, P, st, h, hQ⟩ => ⟨F, ρ, G, _, st, h, fun ds ρ1 vs G1 H1 h1 g1 st1 rl => ?_⟩⟩
  have R := res_of st1 (P := fun r => P r ρ1) fun r v G' H' h g st rr => hQ r ρ1 v G' H' h (g1.trans g) st rr
  exact ⟨by rw [rl.length]; exact h1.1, fun q hq => R.lst _ _ q h1.2 hq rl⟩

/-! ### built-ins of one thing, of two -/
abbrev Call1 (X : Cx) (bx : Bx) (f : Value) (dop : UOp) : Prop := CallR X f (fun xs H Q => ∃ x, xs = [x] ∧ rU1 X.K bx dop x H Q)
abbrev Call2 (X : Cx) (bx : Bx) (f : Value) (dop : DOp) : Prop := CallR X f (fun xs H Q => ∃ x y, xs = [x, y] ∧ rD X.K bx dop x y H Q)
theorem e_callB {id : String} {dop : UOp} (hc : Call1 X bx (.builtin id) dop) (ha : E3 X bx a fa) (hm : X.mg x = none) (hg : Gl X x := by rfl) (hv : bootBuiltins x = some (.builtin id) := by decide +kernel) (hn : x ≠ "__name__" := by decide) (hdb : (x == ("__debug__" : Str)) = false := by decide)
    (he : starEach [a] X.env = (false, eval a X.env) :: starEach [] X.env := by rfl) : E3 X bx (.Call (.Name x p) [a] [] pos) (wUn dop fa) :=
  ⟨PE.weaken (pe_callB hc hg hm hv (pa_cons ha.pe pa_nil he) hn hdb he rfl) fun σ H Q h => by
    obtain ⟨F, ρ, G, P, st, hf, hQ⟩ := lE_un σ H Q h
    exact ⟨F, ρ, G, P, st, hf, fun r ρ' v G' H' h1 h2 h3 h4 => ⟨v, rfl, hQ r ρ' v G' H' h1 h2 h3 h4⟩⟩⟩
theorem e_callTy {T : String} {dop : UOp} (hc : Call1 X bx (.type T) dop) (ha : E3 X bx a fa) (hm : X.mg x = none) (hg : Gl X x := by rfl) (hv : bootBuiltins x = some (.type T) := by decide +kernel) (hn : x ≠ "__name__" := by decide) (hdb : (x == ("__debug__" : Str)) = false := by decide)
    (he : starEach [a] X.env = (false, eval a X.env) :: starEach [] X.env := by rfl) : E3 X bx (.Call (.Name x p) [a] [] pos) (wUn dop fa) :=
  ⟨PE.weaken (pe_callTy hc hg hm hv (pa_cons ha.pe pa_nil he) hn hdb he rfl) fun σ H Q h => by
    obtain ⟨F, ρ, G, P, st, hf, hQ⟩ := lE_un σ H Q h
    exact ⟨F, ρ, G, P, st, hf, fun r ρ' v G' H' h1 h2 h3 h4 => ⟨v, rfl, hQ r ρ' v G' H' h1 h2 h3 h4⟩⟩⟩
theorem e_callB2 {id : String} {dop : DOp} (hc : Call2 X bx (.builtin id) dop) (ha : E3 X bx a fa) (hb : E3 X bx b fb) (hm : X.mg x = none) (hg : Gl X x := by rfl) (hv : bootBuiltins x = some (.builtin id) := by decide +kernel) (hn : x ≠ "__name__" := by decide) (hdb : (x == ("__debug__" : Str)) = false := by decide)
    (he : starEach [a, b] X.env = (false, eval a X.env) :: starEach [b] X.env := by rfl) (he2 : starEach [b] X.env = (false, eval b X.env) :: starEach [] X.env := by rfl) (hpl : (backTo pos (starEach [b] X.env)).any (·.1) = false := by rfl) : E3 X bx (.Call (.Name x p) [a, b] [] pos) (wBin dop fa fb) :=
  ⟨PE.weaken (pe_callB hc hg hm hv (pa_cons ha.pe (pa_cons hb.pe pa_nil he2) he) hn hdb he hpl) fun σ H Q h => by
    obtain ⟨F, ρ, G, P, st, hf, hQ⟩ := lE_bin σ H Q h
    refine ⟨F, ρ, G, P, st, hf, fun r ρ' v G' H' h1 h2 h3 h4 => ?_⟩
    obtain ⟨F2, ρ2, G2, P2, st2, hf2, hQ2⟩ := hQ r ρ' v G' H' h1 h2 h3 h4
    exact ⟨F2, ρ2, G2, P2, st2, hf2, fun r ρ' v2 G' H' h1 h2 h3 h4 => ⟨v, v2, rfl, hQ2 r ρ' v2 G' H' h1 h2 h3 h4⟩⟩⟩

def lenD : UOp
  | .str s, P => s.length ≤ sizeLine ∧ P (.val (.int s.length))
  | .tup l, P => P (.val (.int l.length))
  | .lst l, P => P (.val (.int l.length))
  | .dik l, P => P (.val (.int l.length))
  | _, _ => False
theorem RepK.length {K : PySem.W.Frag} {B : Addr} {G : Hp} : ∀ {vs : List (Key × V)} {ds : List (Key × D)}, RepK K B G vs ds → vs.length = ds.length
  | _, _, .nil => rfl
  | _, _, .cons _ _ r => by simp [RepK.length r]
theorem c_len : Call1 X bx (.builtin "len") lenD := by
  rintro pins s σ H xs us Q I r ⟨v, rfl, G, d, P, g, v1, h, R⟩
  unfold lenD at h
  split at h
  · obtain ⟨rfl, _⟩ := view_str v1
    refine call_len_str pins s σ H _ us Q I r ⟨_, rfl, by rw [str_len]; exact h.1, ?_⟩
    rw [str_len]
    exact R.val _ _ h.2 (.int _)
  · obtain ⟨a, vs, rfl, s1, r1, _⟩ := view_tup g v1
    refine call_len_seq pins s σ H _ us Q I r ⟨a, vs, rfl, .inr s1, ?_⟩
    rw [r1.length]
    exact R.val _ _ h (.int _)
  · obtain ⟨a, vs, rfl, s1, r1⟩ := view_lst g v1
    refine call_len_seq pins s σ H _ us Q I r ⟨a, vs, rfl, .inl (.inl (.inl s1)), ?_⟩
    rw [r1.length]
    exact R.val _ _ h (.int _)
  · obtain ⟨a, vs, rfl, s1, r1⟩ := view_dik g v1
    obtain ⟨u, rfl, ru⟩ := vals1 r
    cases ru
    refine d_len I s1 fun t s' I' => ⟨.int vs.length, H, I', ⟨t, rfl⟩, ?_⟩
    rw [r1.length]
    exact R.val _ _ h (.int _)
  · exact h.elim
def absD : UOp
  | .int i, P => P (.val (.int (if i < 0 then -i else i)))
  | _, _ => False
theorem c_abs : Call1 X bx (.builtin "abs") absD := by
  rintro pins s σ H xs us Q I r ⟨v, rfl, G, d, P, g, v1, h, R⟩
  unfold absD at h
  split at h
  · obtain rfl := view_int v1
    exact call_abs pins s σ H _ us Q I r ⟨_, rfl, R.val _ _ h (.int _)⟩
  · exact h.elim
def intD : UOp
  | .int i, P => P (.val (.int i))
  | .bl b, P => P (.val (.int (if b then 1 else 0)))
  | _, _ => False
theorem c_int : Call1 X bx (.type "int") intD := by
  rintro pins s σ H xs us Q I r ⟨v, rfl, G, d, P, g, v1, h, R⟩
  unfold intD at h
  split at h
  · obtain rfl := view_int v1
    exact call_int1 pins s σ H _ us Q I r (.inl ⟨_, rfl, R.val _ _ h (.int _)⟩)
  · obtain rfl := view_bl v1
    exact call_int1 pins s σ H _ us Q I r (.inr ⟨_, rfl, R.val _ _ h (.int _)⟩)
  · exact h.elim
theorem chars_vals {x : Str} {acc : Array Value} (h : ItemsOf (SignAt x) acc x.cps.size) : Vals (x.cps.toList.map fun c => V.str ⟨#[c]⟩) acc.toList := by
  have key : ∀ (cs : List Nat) (vs : List Value), vs.length = cs.length → (∀ (i : Nat) (v : Value), vs[i]? = some v → ∃ c u, cs[i]? = some c ∧ v = .str ⟨#[c]⟩ u) → Vals (cs.map fun c => V.str ⟨#[c]⟩) vs := by
    intro cs
    induction cs with
    | nil => intro vs hl _; rw [List.eq_nil_of_length_eq_zero hl]; exact .nil
    | cons c cs ih =>
      intro vs hl hv
      match vs, hl, hv with
      | v :: vs, hl, hv =>
        obtain ⟨c', u, e1, rfl⟩ := hv 0 v rfl
        simp at e1
        subst e1
        exact .cons ⟨u, rfl⟩ (ih vs (by simpa using hl) fun i v h => hv (i + 1) v (by simpa using h))
  refine key _ _ (by rw [Array.length_toList, h.1, Array.length_toList]) fun i v hv => ?_
  obtain ⟨c, u, e, rfl⟩ := h.2 i v (by rw [← Array.getElem?_toList]; exact hv)
  exact ⟨c, u, by rw [Array.getElem?_toList]; exact e, rfl⟩
theorem repL_chars {K : PySem.W.Frag} {B : Addr} {G : Hp} : ∀ {s : List Nat}, okS s = true → RepL K B G (s.map fun c => V.str ⟨#[c]⟩) (s.map fun c => .str [c])
  | [], _ => .nil
  | c :: s, h => by
    have h' : okS s = true := okS_sub (fun c hc => List.mem_cons_of_mem _ hc) h
    refine .cons (.str (s := [c]) (okS_sub (fun x hx => ?_) h)) (repL_chars h')
    rw [List.mem_singleton] at hx
    rw [hx]; exact List.mem_cons_self
def tupleD : UOp
  | .tup l, P => P (.val (.tup l))
  | .lst l, P => P (.val (.tup l))
  | .str s, P => s.length ≤ sizeLine ∧ P (.val (.tup (s.map fun c => .str [c])))
  | _, _ => False
theorem c_tuple (hc : X.calm = true) : Call1 X bx (.type "tuple") tupleD := by
  rintro pins s σ H xs us Q I r ⟨v, rfl, G, d, P, g, v1, h, R⟩
  unfold tupleD at h
  split at h
  · obtain ⟨a, vs, rfl, s1, r1, q1⟩ := view_tup g v1
    exact call_tuple_of pins s σ H _ us Q I r ⟨a, vs, rfl, .inr ⟨s1, R.val _ _ h q1⟩⟩
  · obtain ⟨a, vs, rfl, s1, r1⟩ := view_lst g v1
    exact call_tuple_of pins s σ H _ us Q I r ⟨a, vs, rfl, .inl ⟨.inl (.inl s1), fun l hl => R.tup _ _ l h hl r1⟩⟩
  · obtain ⟨hz, h⟩ := h
    obtain ⟨rfl, ok⟩ := view_str v1
    obtain ⟨u, rfl, ru⟩ := r.one
    obtain ⟨t, rfl⟩ := ru
    refine call_tuple_str (I.ok.hd hc) _ _ (fun h' tk acc hk hacc => ?_) (by simpa using hz)
    have hv := chars_vals hacc
    have I1 : Inv X pins σ H { s with heap := h', toks := tk } := I.kept hk
    have e : acc.toList.toArray = acc := by simp
    refine ⟨.ref h'.objs.size, upd H h'.objs.size (.tup _), I1.laid (t' := tk) (fun b u e => Heap.get?_push_of_some _ e) (Nat.le_refl _) ⟨?_, acc.toList, hv, ?_⟩, rfl, R.tup _ _ _ h (I1.hok.fresh (Nat.le_refl _)) (by simpa using repL_chars ok)⟩
    · rw [List.length_map]; simpa using hz
    · rw [e]; exact IsTup.new _ _
  · exact h.elim
def listD : UOp
  | .tup l, P => P (.new (.lst l))
  | .lst l, P => P (.new (.lst l))
  | _, _ => False
theorem c_list : Call1 X bx (.type "list") listD := by
  rintro pins s σ H xs us Q I r ⟨v, rfl, G, d, P, g, v1, h, R⟩
  unfold listD at h
  split at h
  · obtain ⟨a, vs, rfl, s1, r1, q1⟩ := view_tup g v1
    exact call_list_of pins s σ H _ us Q I r ⟨a, vs, rfl, .inr s1, fun l hl => R.lst _ _ l h hl r1⟩
  · obtain ⟨a, vs, rfl, s1, r1⟩ := view_lst g v1
    exact call_list_of pins s σ H _ us Q I r ⟨a, vs, rfl, .inl (.inl (.inl s1)), fun l hl => R.lst _ _ l h hl r1⟩
  · exact h.elim

/-! ### lists of bools, of ints -/
def isBl : D → Bool
  | .bl _ => true
  | _ => false
def blOf : D → Bool
  | .bl b => b
  | _ => false
def isInt : D → Bool
  | .int _ => true
  | _ => false
def intOf : D → Int
  | .int i => i
  | _ => 0
theorem RepL.bls {K : PySem.W.Frag} {B : Addr} {G : Hp} : ∀ {vs : List V} {ds : List D}, RepL K B G vs ds → ds.all isBl = true → vs = (ds.map blOf).map V.bl
  | _, _, .nil, _ => rfl
  | _, _, .cons (d := d) a r, h => by
    rw [List.all_cons, Bool.and_eq_true] at h
    cases d <;> first
      | exact absurd (show false = true from h.1) (by decide)
      | skip
    cases a
    rw [RepL.bls r h.2]; rfl
theorem RepL.ints {K : PySem.W.Frag} {B : Addr} {G : Hp} : ∀ {vs : List V} {ds : List D}, RepL K B G vs ds → ds.all isInt = true → vs = (ds.map intOf).map V.int
  | _, _, .nil, _ => rfl
  | _, _, .cons (d := d) a r, h => by
    rw [List.all_cons, Bool.and_eq_true] at h
    cases d <;> first
      | exact absurd (show false = true from h.1) (by decide)
      | skip
    cases a
    rw [RepL.ints r h.2]; rfl
def allD : UOp
  | .lst l, P => l.all isBl = true ∧ P (.val (.bl (l.all blOf)))
  | _, _ => False
def anyD : UOp
  | .lst l, P => l.all isBl = true ∧ P (.val (.bl (l.any blOf)))
  | _, _ => False
theorem all_map_id (l : List D) : (l.map blOf).all id = l.all blOf := by rw [List.all_map]; rfl
theorem any_map_id (l : List D) : (l.map blOf).any id = l.any blOf := by rw [List.any_map]; rfl
theorem c_all (hc : X.calm = true) : Call1 X bx (.builtin "all") allD := by
  rintro pins s σ H xs us Q I r ⟨v, rfl, G, d, P, g, v1, h, R⟩
  unfold allD at h
  split at h
  · obtain ⟨a, vs, rfl, s1, r1⟩ := view_lst g v1
    have e := r1.bls h.1
    subst e
    exact cr_all hc pins s σ H _ us Q I r ⟨a, _, rfl, .inl (.inl s1), by rw [all_map_id]; exact R.val _ _ h.2 (.bl _)⟩
  · exact h.elim
theorem c_any (hc : X.calm = true) : Call1 X bx (.builtin "any") anyD := by
  rintro pins s σ H xs us Q I r ⟨v, rfl, G, d, P, g, v1, h, R⟩
  unfold anyD at h
  split at h
  · obtain ⟨a, vs, rfl, s1, r1⟩ := view_lst g v1
    have e := r1.bls h.1
    subst e
    exact cr_any hc pins s σ H _ us Q I r ⟨a, _, rfl, .inl (.inl s1), by rw [any_map_id]; exact R.val _ _ h.2 (.bl _)⟩
  · exact h.elim
def sumD : UOp
  | .lst l, P => l.all isInt = true ∧ P (.val (.int (l.map intOf).sum))
  | _, _ => False
theorem c_sum (hc : X.calm = true) : Call1 X bx (.builtin "sum") sumD := by
  rintro pins s σ H xs us Q I r ⟨v, rfl, G, d, P, g, v1, h, R⟩
  unfold sumD at h
  split at h
  · obtain ⟨a, vs, rfl, s1, r1⟩ := view_lst g v1
    have e := r1.ints h.1
    subst e
    exact cr_sum hc pins s σ H _ us Q I r ⟨a, _, rfl, .inl (.inl s1), R.val _ _ h.2 (.int _)⟩
  · exact h.elim
/-- greatest, least of a list of ints that is not empty -/
def maxI : List Int → Int
  | [] => 0
  | [x] => x
  | x :: y :: r => max x (maxI (y :: r))
def minI : List Int → Int
  | [] => 0
  | [x] => x
  | x :: y :: r => min x (minI (y :: r))
theorem maxI_spec : ∀ {l : List Int}, l ≠ [] → maxI l ∈ l ∧ ∀ y ∈ l, y ≤ maxI l
  | [], h => absurd rfl h
  | [x], _ => by simp [maxI]
  | x :: y :: r, _ => by
    obtain ⟨h1, h2⟩ := maxI_spec (l := y :: r) (by simp)
    simp only [maxI]
    constructor
    · rcases Int.le_total x (maxI (y :: r)) with h | h
      · rw [Int.max_eq_right h]; exact List.mem_cons_of_mem _ h1
      · rw [Int.max_eq_left h]; exact List.mem_cons_self
    · intro z hz
      rcases List.mem_cons.mp hz with rfl | hz
      · omega
      · have := h2 z hz; omega
theorem minI_spec : ∀ {l : List Int}, l ≠ [] → minI l ∈ l ∧ ∀ y ∈ l, minI l ≤ y
  | [], h => absurd rfl h
  | [x], _ => by simp [minI]
  | x :: y :: r, _ => by
    obtain ⟨h1, h2⟩ := minI_spec (l := y :: r) (by simp)
    simp only [minI]
    constructor
    · rcases Int.le_total x (minI (y :: r)) with h | h
      · rw [Int.min_eq_left h]; exact List.mem_cons_self
      · rw [Int.min_eq_right h]; exact List.mem_cons_of_mem _ h1
    · intro z hz
      rcases List.mem_cons.mp hz with rfl | hz
      · omega
      · have := h2 z hz; omega
def maxD : UOp
  | .lst l, P => l.all isInt = true ∧ l ≠ [] ∧ P (.val (.int (maxI (l.map intOf))))
  | _, _ => False
def minD : UOp
  | .lst l, P => l.all isInt = true ∧ l ≠ [] ∧ P (.val (.int (minI (l.map intOf))))
  | _, _ => False
theorem c_max1 (hc : X.calm = true) : Call1 X bx (.builtin "max") maxD := by
  rintro pins s σ H xs us Q I r ⟨v, rfl, G, d, P, g, v1, h, R⟩
  unfold maxD at h
  split at h
  · rename_i l
    obtain ⟨a, vs, rfl, s1, r1⟩ := view_lst g v1
    have e := r1.ints h.1
    subst e
    have hne : l.map intOf ≠ [] := fun e => h.2.1 (List.map_eq_nil_iff.mp e)
    refine cr_max hc pins s σ H _ us Q I r ⟨a, _, rfl, .inl (.inl s1), List.length_pos_iff.mpr hne, fun m hm hy => ?_⟩
    obtain ⟨h1, h2⟩ := maxI_spec hne
    have e : m = maxI (l.map intOf) := Int.le_antisymm (h2 m hm) (hy _ h1)
    rw [e]
    exact R.val _ _ h.2.2 (.int _)
  · exact h.elim
theorem c_min1 (hc : X.calm = true) : Call1 X bx (.builtin "min") minD := by
  rintro pins s σ H xs us Q I r ⟨v, rfl, G, d, P, g, v1, h, R⟩
  unfold minD at h
  split at h
  · rename_i l
    obtain ⟨a, vs, rfl, s1, r1⟩ := view_lst g v1
    have e := r1.ints h.1
    subst e
    have hne : l.map intOf ≠ [] := fun e => h.2.1 (List.map_eq_nil_iff.mp e)
    refine cr_min hc pins s σ H _ us Q I r ⟨a, _, rfl, .inl (.inl s1), List.length_pos_iff.mpr hne, fun m hm hy => ?_⟩
    obtain ⟨h1, h2⟩ := minI_spec hne
    have e : m = minI (l.map intOf) := Int.le_antisymm (hy _ h1) (h2 m hm)
    rw [e]
    exact R.val _ _ h.2.2 (.int _)
  · exact h.elim
def max2D : DOp
  | .int i, .int j, P => P (.val (.int (max i j)))
  | _, _, _ => False
def min2D : DOp
  | .int i, .int j, P => P (.val (.int (min i j)))
  | _, _, _ => False
theorem c_max2 (hc : X.calm = true) : Call2 X bx (.builtin "max") max2D := by
  rintro pins s σ H xs us Q I r ⟨v, w, rfl, G, d, d2, P, g, v1, v2, h, R⟩
  unfold max2D at h
  split at h
  · rename_i i j
    obtain rfl := view_int v1
    obtain rfl := view_int v2
    refine call_max2 hc pins s σ H _ us Q I r ⟨_, _, rfl, ?_⟩
    have e : (if j > i then j else i) = max i j := by split <;> omega
    rw [e]
    exact R.val _ _ h (.int _)
  · exact h.elim
theorem c_min2 (hc : X.calm = true) : Call2 X bx (.builtin "min") min2D := by
  rintro pins s σ H xs us Q I r ⟨v, w, rfl, G, d, d2, P, g, v1, v2, h, R⟩
  unfold min2D at h
  split at h
  · rename_i i j
    obtain rfl := view_int v1
    obtain rfl := view_int v2
    refine call_min2 hc pins s σ H _ us Q I r ⟨_, _, rfl, ?_⟩
    have e : (if j < i then j else i) = min i j := by split <;> omega
    rw [e]
    exact R.val _ _ h (.int _)
  · exact h.elim

/-! ### isinstance -/
def isiN (T A : String) : Bool := T == A || (A == "bool" && T == "int")
def isiD (T : String) : D → Bool
  | .non => isiN T "NoneType"
  | .bl _ => isiN T "bool"
  | .int _ => isiN T "int"
  | .str _ => isiN T "str"
  | .tup _ => isiN T "tuple"
  | .lst _ => isiN T "list"
  | .dik _ => isiN T "dict"
  | .dit _ => isiN T "dict"
  | .ty _ => false
  | .box => false
  | .obj _ => false
def isiU (T : String) : UOp := fun d P => match d with
  | .ty _ => False
  | .dik _ => False
  | .dit _ => False
  | .box => False
  | .obj _ => False
  | d => P (.val (.bl (isiD T d)))
theorem tyX_tup {K : PySem.W.Frag} {H : Hp} {a : Addr} {vs : List V} (h : SqT K H a vs) : TyX K H (.ref a) (.type "tuple") := by
  rcases h with (h | ⟨o, h⟩) | ⟨o, its, n, hk, hc, _⟩
  · exact .base (.tup h)
  · exact .fTuple h
  · exact .kTuple hk hc
theorem c_isi {T : String} (hT : T = "int" ∨ T = "str" ∨ T = "bool" ∨ T = "tuple" ∨ T = "list" ∨ T = "dict") : CallR X (.builtin "isinstance") (fun xs H Q => ∃ x, xs = [x, .ty T] ∧ rU1 X.K bx (isiU T) x H Q) := by
  rintro pins s σ H xs us Q I r ⟨v, rfl, G, d, P, g, v1, h, R⟩
  have key : ∀ (A : String) (b : Bool), TyX X.K H v (.type A) → kitB A T = some b → Q (.bl b) H → wpAny (model X.prog X.w) X.A (call (.builtin "isinstance") us) (EP X pins σ Q) X.xe s :=
    fun A b t k q => call_isi pins s σ H _ us Q I r ⟨v, .ty T, .type A, .type T, b, rfl, .ty T, t, kit_ty k, q⟩
  · cases d with
    | ty n => exact (show False from h).elim
    | box => exact (show False from h).elim
    | obj a => exact (show False from h).elim
    | non =>
      obtain rfl := view_non v1
      refine key _ _ (.base .non) ?_ (R.val _ _ h (.bl _))
      show kitB "NoneType" T = some (isiN T "NoneType")
      rcases hT with rfl | rfl | rfl | rfl | rfl | rfl <;> decide +kernel
    | bl b =>
      obtain rfl := view_bl v1
      refine key _ _ (.base (.bl _)) ?_ (R.val _ _ h (.bl _))
      show kitB "bool" T = some (isiN T "bool")
      rcases hT with rfl | rfl | rfl | rfl | rfl | rfl <;> decide +kernel
    | int i =>
      obtain rfl := view_int v1
      refine key _ _ (.base (.int _)) ?_ (R.val _ _ h (.bl _))
      show kitB "int" T = some (isiN T "int")
      rcases hT with rfl | rfl | rfl | rfl | rfl | rfl <;> decide +kernel
    | str s =>
      obtain ⟨rfl, _⟩ := view_str v1
      refine key _ _ (.base (.str _)) ?_ (R.val _ _ h (.bl _))
      show kitB "str" T = some (isiN T "str")
      rcases hT with rfl | rfl | rfl | rfl | rfl | rfl <;> decide +kernel
    | tup l =>
      obtain ⟨a, vs, rfl, s1, r1, _⟩ := view_tup g v1
      refine key _ _ (tyX_tup s1) ?_ (R.val _ _ h (.bl _))
      show kitB "tuple" T = some (isiN T "tuple")
      rcases hT with rfl | rfl | rfl | rfl | rfl | rfl <;> decide +kernel
    | lst l =>
      obtain ⟨a, vs, rfl, s1, r1⟩ := view_lst g v1
      refine key _ _ (.base (.lst s1)) ?_ (R.val _ _ h (.bl _))
      show kitB "list" T = some (isiN T "list")
      rcases hT with rfl | rfl | rfl | rfl | rfl | rfl <;> decide +kernel
    | dik l => exact (show False from h).elim
    | dit l => exact (show False from h).elim
def wIsi (T : String) (fa : WE) : WE := wUn (isiU T) fa
theorem e_isi {y : Str} {T : String} {p2 : Pos} (hT : T = "int" ∨ T = "str" ∨ T = "bool" ∨ T = "tuple" ∨ T = "list" ∨ T = "dict") (ha : E3 X bx a fa) (hm : X.mg "isinstance" = none) (hmT : X.mg y = none)
    (hvT : bootBuiltins y = some (.type T) := by decide +kernel) (hg : Gl X "isinstance" := by rfl) (hgT : Gl X y := by rfl) (hn : y ≠ "__name__" := by decide) (hdT : (y == ("__debug__" : Str)) = false := by decide)
    (he : starEach [a, .Name y p2] X.env = (false, eval a X.env) :: starEach [.Name y p2] X.env := by rfl) : E3 X bx (.Call (.Name "isinstance" p) [a, .Name y p2] [] pos) (wIsi T fa) :=
  ⟨PE.weaken (pe_callB (c_isi (bx := bx) hT) hg hm (by decide +kernel) (pa_cons ha.pe (pa_cons (pe_bltn (v := .ty T) hgT hmT hvT rfl hn hdT) pa_nil rfl) he) (by decide) (by decide) he rfl) fun σ H Q h => by
    obtain ⟨F, ρ, G, P, st, hf, hQ⟩ := lE_un σ H Q h
    exact ⟨F, ρ, G, P, st, hf, fun r ρ' v G' H' h1 h2 h3 h4 => ⟨v, rfl, hQ r ρ' v G' H' h1 h2 h3 h4⟩⟩⟩

/-! ### subscripts, slices -/
def ixD : DOp
  | .tup l, .int i, P => ∃ d, atI l i = some d ∧ P (.val d)
  | .lst l, .int i, P => ∃ d, atI l i = some d ∧ P (.val d)
  | .str l, .int i, P => l.length ≤ sizeLine ∧ ∃ c, atI l i = some c ∧ P (.val (.str [c]))
  | .dik l, x, P => ∃ k d, asKey x = some k ∧ getG l k = some d ∧ P (.val d)
  | .dit l, .tup x, P => ∃ k d, asKeys x = some k ∧ getG l k = some d ∧ P (.val d)
  | _, _, _ => False
theorem RepL.atI {K : PySem.W.Frag} {B : Addr} {G : Hp} {vs : List V} {ds : List D} {i : Int} {d : D} (r : RepL K B G vs ds) (h : atI ds i = some d) : ∃ v, L2.atI vs i = some v ∧ Rep K B G v d := by
  unfold L2.atI at *
  rw [r.length]
  cases e : ixN ds.length i with
  | none => rw [e] at h; cases h
  | some j =>
    rw [e] at h
    exact r.get h
theorem atI_mem {α : Type} {l : List α} {i : Int} {c : α} (h : atI l i = some c) : c ∈ l := by
  unfold L2.atI at h
  cases e : ixN l.length i with
  | none => rw [e] at h; cases h
  | some j =>
    rw [e] at h
    exact List.mem_of_getElem? h
theorem xD (hu : X.A.units + 64 < cLine) : IxR X (rD X.K bx ixD) := by
  intro value slice pins s σ H x y v u Q I rx ry ⟨G, d1, d2, P, g, v1, v2, h, R⟩ hs
  unfold ixD at h
  split at h
  · obtain ⟨d, e, h⟩ := h
    obtain ⟨a, vs, rfl, s1, r1, _⟩ := view_tup g v1
    obtain rfl := view_int v2
    obtain ⟨w, e1, q⟩ := r1.atI e
    exact ix_tup value slice pins s σ H _ _ v u Q I rx ry ⟨a, vs, _, w, rfl, rfl, s1, e1, R.val _ _ h q⟩ hs
  · obtain ⟨d, e, h⟩ := h
    obtain ⟨a, vs, rfl, s1, r1⟩ := view_lst g v1
    obtain rfl := view_int v2
    obtain ⟨w, e1, q⟩ := r1.atI e
    exact ix_list value slice pins s σ H _ _ v u Q I rx ry ⟨a, vs, _, w, rfl, rfl, .inl (.inl s1), e1, R.val _ _ h q⟩ hs
  · obtain ⟨h1, c, e, h⟩ := h
    obtain ⟨rfl, o1⟩ := view_str v1
    obtain rfl := view_int v2
    refine ix_str value slice pins s σ H _ _ v u Q I rx ry ⟨_, _, c, rfl, rfl, by rw [str_len]; exact h1, e, R.val _ _ h (.str (s := [c]) ?_)⟩ hs
    refine okS_sub (fun c' hc => ?_) o1
    rw [List.mem_singleton] at hc
    rw [hc]; exact atI_mem e
  · obtain ⟨k, d, ek, eg, h⟩ := h
    obtain ⟨rfl, _⟩ := view_key v2 ek
    obtain ⟨a, vs, rfl, s1, r1⟩ := view_dik g v1
    cases rx
    rcases r1.get k with ⟨_, e2⟩ | ⟨w, d', e1, e2, rd⟩
    · rw [eg] at e2; cases e2
    · rw [eg] at e2; cases e2
      have gd : DGet H a (kV k) (some w) := .inl ⟨vs, k, s1, rfl, e1.symm⟩
      exact tail_any (dict_typeIs I gd) PySem.F.slot_dict_getitem.lookup (d_getItem (by omega) I gd ry fun w' s' I' rw' => ⟨w, H, I', rw', R.val _ _ h rd⟩) hs
  · obtain ⟨k, d, ek, eg, h⟩ := h
    obtain ⟨b, us, rfl, s0, r0⟩ := view_tupH g v2
    obtain ⟨rfl, _⟩ := repL_keys r0 ek
    obtain ⟨a, vs, rfl, s1, r1⟩ := view_dit g v1
    cases rx
    rcases r1.get k with ⟨_, e2⟩ | ⟨w, d', e1, e2, rd⟩
    · rw [eg] at e2; cases e2
    · rw [eg] at e2; cases e2
      have gd : DGet H a (.ref b) (some w) := .inr ⟨vs, k, b, s1, rfl, s0, e1.symm⟩
      exact tail_any (dict_typeIs I gd) PySem.F.slot_dict_getitem.lookup (d_getItem (by omega) I gd ry fun w' s' I' rw' => ⟨w, H, I', rw', R.val _ _ h rd⟩) hs
  · exact h.elim
theorem e_ix (hu : X.A.units + 64 < cLine) (ha : E3 X bx a fa) (hb : E3 X bx b fb) (hs : PlainIx b := by exact fun _ _ => rfl) : E3 X bx (.Subscript a b pos) (wBin ixD fa fb) := ⟨PE.weaken (pe_ix (xD hu) ha.pe hb.pe hs) lE_bin⟩

abbrev WO := Env3 → (Option Int → Env3 → Prop) → Prop
def lO (K : PySem.W.Frag) (bx : Bx) (f : WO) : TO := fun σ H Q => ∃ F ρ G P, Stt K bx F ρ σ G H ∧ f ρ P ∧ ∀ o ρ' G' H', P o ρ' → Same G G' → Stt K bx F ρ' σ G' H' → Q o H'
structure O3 (X : Cx) (bx : Bx) (e : Option Expr) (f : WO) : Prop where
  po : PO X e (lO X.K bx f)
def wONone : WO := fun ρ Q => Q none ρ
def wOSome (fa : WE) : WO := fun ρ Q => fa ρ fun r ρ1 => pk r ρ1 fun d => match d with
  | .int i => Q (some i) ρ1
  | _ => False
theorem PO.weaken {X : Cx} {e : Option Expr} {t t' : TO} (h : PO X e t) (w : ∀ σ H Q, t' σ H Q → t σ H Q) : PO X e t' :=
  ⟨fun pins s σ H Q I q => h.run pins s σ H Q I (w _ _ _ q)⟩
theorem o_none : O3 X bx none wONone := ⟨PO.weaken po_none fun σ H Q ⟨F, ρ, G, P, st, h, hQ⟩ => hQ _ ρ G H h (Same.refl G) st⟩
theorem o_some (ha : E3 X bx a fa) : O3 X bx (some a) (wOSome fa) := by
  refine ⟨PO.weaken (po_some ha.pe) fun σ H Q ⟨F, ρ, G, P, st, h, hQ⟩ => ⟨F, ρ, G, _, st, h, fun r ρ1 v G1 H1 h1 g1 st1 rr1 => ?_⟩⟩
  obtain ⟨d, h2, vw⟩ := pk_ok st1 rr1 h1
  split at h2
  · obtain rfl := view_int vw
    exact ⟨_, rfl, hQ _ _ _ _ h2 g1 st1⟩
  · exact h2.elim
def cut {α : Type} (l : List α) (lo hi : Option Int) : List α := (l.drop (HT.sIx l.length 0 lo)).take (HT.sIx l.length l.length hi - HT.sIx l.length 0 lo)
abbrev SOp := D → Option Int → Option Int → (R → Prop) → Prop
def slD : SOp
  | .str s, lo, hi, P => s.length ≤ sizeLine ∧ P (.val (.str (cut s lo hi)))
  | .tup l, lo, hi, P => P (.val (.tup (cut l lo hi)))
  | .lst l, lo, hi, P => P (.new (.lst (cut l lo hi)))
  | _, _, _, _ => False
def rS (K : PySem.W.Frag) (bx : Bx) (dop : SOp) : V → Option Int → Option Int → Hp → VK → Prop := fun x lo hi H Q => ∃ G d P, Same G H ∧ View K bx.adr G H x d ∧ dop d lo hi P ∧ Res K bx G H P Q
theorem cut_mem {α : Type} {l : List α} {lo hi : Option Int} {c : α} (h : c ∈ cut l lo hi) : c ∈ l := List.mem_of_mem_drop (List.mem_of_mem_take h)
theorem sD : SlR X (rS X.K bx slD) := by
  intro pins s σ H x v vl vu lo hi sl Q I rx hs pl pu ⟨G, d, P, g, v1, h, R⟩
  unfold slD at h
  split at h
  · rename_i s0
    obtain ⟨rfl, o1⟩ := view_str v1
    refine sl_str pins s σ H _ v vl vu _ _ sl Q I rx hs pl pu ⟨_, rfl, by rw [str_len]; exact h.1, ?_⟩
    have e : cutS ⟨s0.toArray⟩ lo hi = ⟨(cut s0 lo hi).toArray⟩ := by
      unfold cutS cut
      rw [str_len]
    rw [e]
    exact R.val _ _ h.2 (.str (okS_sub (fun c hc => cut_mem hc) o1))
  · rename_i l
    obtain ⟨a, vs, rfl, s1, r1, q1⟩ := view_tup g v1
    refine sl_tupA pins s σ H _ v vl vu _ _ sl Q I rx hs pl pu ⟨a, vs, rfl, s1, fun hw => ?_, fun _ p hp => ?_⟩
    · rw [r1.length] at hw
      have e : cut l lo hi = l := by
        unfold cut
        rw [hw.1, hw.2]
        simp
      rw [e] at h
      exact R.val _ _ h q1
    · refine R.tup _ _ p h hp ?_
      unfold cutV cut
      rw [r1.length]
      exact (r1.drop _).take _
  · rename_i l
    obtain ⟨a, vs, rfl, s1, r1⟩ := view_lst g v1
    refine sl_list pins s σ H _ v vl vu _ _ sl Q I rx hs pl pu ⟨a, vs, rfl, .inl (.inl s1), fun p hp => R.lst _ _ p h hp ?_⟩
    unfold cutV cut
    rw [r1.length]
    exact (r1.drop _).take _
  · exact h.elim
def wSl (fa : WE) (fl fu : WO) : WE := fun ρ Q => fa ρ fun r ρ1 => fl ρ1 fun lo ρ2 => fu ρ2 fun hi ρ3 => pk r ρ3 fun d => slD d lo hi fun r => Q r ρ3
theorem e_sl {lo hi : Option Expr} {fl fu : WO} {p2 : Pos} (ha : E3 X bx a fa) (hl : O3 X bx lo fl) (hu : O3 X bx hi fu) : E3 X bx (.Subscript a (.Slice lo hi none p2) pos) (wSl fa fl fu) := by
  refine ⟨PE.weaken (pe_slice (sD (bx := bx)) ha.pe hl.po hu.po) fun σ H Q ⟨F, ρ, G, P, st, h, hQ⟩ => ⟨F, ρ, G, _, st, h, fun r1 ρ1 w1 G1 H1 h1 g1 st1 rr1 => ?_⟩⟩
  refine ⟨pend F H1 r1 w1, ρ1, G1, _, pend_st st1 rr1, h1, fun o2 ρ2 G2 H2 h2 g2 st2 => ?_⟩
  refine ⟨pend F H1 r1 w1, ρ2, G2, _, st2, h2, fun o3 ρ3 G3 H3 h3 g3 st3 => ?_⟩
  obtain ⟨st3', rr3⟩ := pend_back st1 rr1 (g2.trans g3) st3
  obtain ⟨d, h4, vw⟩ := pk_ok st3' rr3 h3
  exact ⟨G3, d, _, st3'.gs, vw, h4, res_of st3' fun r v G' H' h g st rr => hQ r ρ3 v G' H' h (g1.trans (g2.trans (g3.trans g))) st rr⟩
end
end L2.W3

/-! W3, part e: calls of defs, what is walked, comprehensions, targets, statements, a def's promise. -/
namespace L2.W3
open PySem PySem.Spec PyProof.Rows

/-! ### what a def promises -/
abbrev Con := List D → (R → Prop) → Prop
def RetR (K : PySem.W.Frag) (bx : Bx) (F G H : Hp) (r : R) (v : V) : Prop :=
  match r with
  | .val d => Rep K bx.adr G v d
  | .new d => ∃ p, v = .ref p ∧ Sole K bx F G H p d
  | .slot _ => False
def spOf (K : PySem.W.Frag) (bx : Bx) (C : Con) : Sp := fun vs H Q _ => ∃ F G ds P, Fr3 bx F G H ∧ RepL K bx.adr G vs ds ∧ C ds P ∧ ∀ r v G' H', P r → Same G G' → Fr3 bx F G' H' → RetR K bx F G' H' r v → Q v H'

open Classical in
noncomputable def ownF (F : Hp) (ρ : Env3) (σ : L2.St) (H : Hp) : Hp := fun a => if ∃ i, Own ρ σ i a then H a else F a
section
variable {K : PySem.W.Frag} {bx : Bx} {F G G' H H' : Hp} {ρ ρ' : Env3} {σ : L2.St} {r : R} {v : V} {p : Addr} {d : D}
theorem ownF_in (h : ∃ i, Own ρ σ i p) : ownF F ρ σ H p = H p := by unfold ownF; rw [if_pos h]
theorem ownF_out (h : ¬ ∃ i, Own ρ σ i p) : ownF F ρ σ H p = F p := by unfold ownF; rw [if_neg h]
theorem Stt.own_at (st : Stt K bx F ρ σ G H) (h : ∃ i, Own ρ σ i p) : (∃ o, H p = some o) ∧ G p = none ∧ F p = none ∧ p ∉ bx.fp := by
  obtain ⟨i, ⟨d, e⟩, e1⟩ := h
  obtain ⟨q, e1', t, e2⟩ := st.ow i d e
  rw [e1] at e1'; cases e1'
  exact ⟨t.some, e2⟩
theorem Stt.own_mut {o : HO} (st : Stt K bx F ρ σ G H) (h : ∃ i, Own ρ σ i p) (eo : H p = some o) : Mut (some o) := by
  obtain ⟨i, ⟨d, e⟩, e1⟩ := h
  obtain ⟨q, e1', t, e2⟩ := st.ow i d e
  rw [e1] at e1'; cases e1'
  exact top_mut t eo
theorem own_fr (st : Stt K bx F ρ σ G H) : Fr3 bx (ownF F ρ σ H) G H := by
  refine ⟨st.gs, fun a o e => ?_, fun a o e => ?_, st.bi, fun a ha => ⟨(st.bg a ha).1, ?_⟩⟩
  · by_cases h : ∃ i, Own ρ σ i a
    · rw [ownF_in h] at e; exact e
    · rw [ownF_out h] at e; exact st.fs a o e
  · by_cases h : ∃ i, Own ρ σ i a
    · rw [ownF_in h] at e
      exact ⟨(st.own_at h).2.1, st.own_mut h e⟩
    · rw [ownF_out h] at e; exact st.fg a o e
  · by_cases h : ∃ i, Own ρ σ i a
    · exact absurd ha (st.own_at h).2.2.2
    · rw [ownF_out h]; exact (st.bg a ha).2
theorem own_back (st : Stt K bx F ρ σ G H) (g : Same G G') (fr : Fr3 bx (ownF F ρ σ H) G' H') : Stt K bx F ρ σ G' H' := by
  have out : ∀ a o, F a = some o → ¬ ∃ i, Own ρ σ i a := fun a o e h => by rw [(st.own_at h).2.2.1] at e; cases e
  refine ⟨⟨fr.gs, fun a o e => fr.fs a o (by rw [ownF_out (out a o e)]; exact e), fun a o e => fr.fg a o (by rw [ownF_out (out a o e)]; exact e), fr.bi, fun a ha => ⟨(fr.bg a ha).1, (st.bg a ha).2⟩⟩, st.len, fun i d e => ?_, fun i d e => ?_, st.dj⟩
  · obtain ⟨w, e1, q⟩ := st.vl i d e
    exact ⟨w, e1, q.mono g⟩
  · obtain ⟨q, e1, t, e2, e3⟩ := st.ow i d e
    have ho : ∃ i, Own ρ σ i q := ⟨i, ⟨d, e⟩, e1⟩
    obtain ⟨u, hu⟩ := t.some
    have hq : ownF F ρ σ H q = some u := by rw [ownF_in ho]; exact hu
    exact ⟨q, e1, (t.mono g).heap ((fr.fs q u hq).trans hu.symm), (fr.fg q u hq).1, e3⟩
theorem ret_rep (st : Stt K bx F ρ σ G H) (fr : Fr3 bx (ownF F ρ σ H) G' H') (rr : RetR K bx (ownF F ρ σ H) G' H' r v) : RepR K bx F ρ σ G' H' r v := by
  cases r with
  | val d => exact rr
  | slot i => exact rr.elim
  | new d =>
    obtain ⟨p, rfl, t, gp, fp, bp⟩ := rr
    have no : ¬ ∃ i, Own ρ σ i p := fun h => by
      obtain ⟨⟨o, ho⟩, _⟩ := st.own_at h
      rw [ownF_in h, ho] at fp; cases fp
    rw [ownF_out no] at fp
    exact ⟨p, rfl, ⟨t, gp, fp, bp⟩, fun i hi => no ⟨i, hi⟩⟩
end
def wCall (C : Con) (fa : WA) : WE := fun ρ Q => fa ρ fun ds ρ1 => C ds fun r => Q r ρ1
section
variable {X : Cx} {bx : Bx} {a b e : Expr} {es : List Expr} {fa fb : WE} {fr : WA} {pos : Pos} {x : Str} {p : Pos} {C : Con}
theorem lE_call {K : PySem.W.Frag} {E : XK} (σ : L2.St) (H : Hp) (Q : VK) (h : lE K bx (wCall C fr) σ H Q) : tCall (spOf K bx C) [] E (lA K bx fr) σ H Q := by
  obtain ⟨F, ρ, G, P, st, h, hQ⟩ := h
  refine ⟨F, ρ, G, _, st, h, fun ds ρ1 vs G1 H1 h1 g1 st1 rl => ?_⟩
  refine ⟨ownF F ρ1 σ H1, G1, ds, _, own_fr st1, by rw [List.append_nil]; exact rl, h1, fun r v G2 H2 h2 g2 fr2 rr => ?_⟩
  exact hQ r ρ1 v G2 H2 h2 (g1.trans g2) (own_back st1 g2 fr2) (ret_rep st1 fr2 rr)
theorem e_call {k : Nat} {f : Addr} {fd : FuncData} {ps : List Str} (F : FnOk X.prog X.w X.K X.mg X.base CX0 k f fd ps (spOf X.K bx C)) (hr : Room k X.A) (hm : X.mg x = some (.ref f)) (hk : PySem.W.keepIn X.K (.ref f) = true) (hb : Binds X.K fd ps [])
    (ha : A3 X bx (e :: es) fr) (hg : Gl X x := by rfl) (hdb : (x == ("__debug__" : Str)) = false := by decide) (he : starEach (e :: es) X.env = (false, eval e X.env) :: starEach es X.env := by rfl) (hpl : (backTo pos (starEach es X.env)).any (·.1) = false := by rfl) :
    E3 X bx (.Call (.Name x p) (e :: es) [] pos) (wCall C fr) :=
  ⟨PE.weaken (pe_call F hr hg hm hk hb .nil pass0 ha.pa hdb he hpl) lE_call⟩
theorem e_call0 {k : Nat} {f : Addr} {fd : FuncData} {ps : List Str} (F : FnOk X.prog X.w X.K X.mg X.base CX0 k f fd ps (spOf X.K bx C)) (hr : Room k X.A) (hm : X.mg x = some (.ref f)) (hk : PySem.W.keepIn X.K (.ref f) = true) (hb : Binds X.K fd ps [])
    (hg : Gl X x := by rfl) (hdb : (x == ("__debug__" : Str)) = false := by decide) : E3 X bx (.Call (.Name x p) [] [] pos) (wCall C wANil) := by
  refine ⟨PE.weaken (pe_call0 F hr hg hm hk hb .nil pass0 hdb) fun σ H Q h => ?_⟩
  obtain ⟨F, ρ, G, P, st, h, hQ⟩ := h
  refine ⟨ownF F ρ σ H, G, [], _, own_fr st, .nil, h, fun r v G2 H2 h2 g2 fr2 rr => ?_⟩
  exact hQ r ρ v G2 H2 h2 g2 (own_back st g2 fr2) (ret_rep st fr2 rr)
end

/-! ### what is walked -/
/-- a key as plain data -/
def kD : Key → D
  | .inl i => .int i
  | .inr s => .str s.cps.toList
theorem rep_kD {K : PySem.W.Frag} {B : Addr} {G : Hp} {k : Key} (ok : okK k = true) : Rep K B G (kV k) (kD k) := by
  cases k with
  | inl i => exact .int i
  | inr s =>
    have e : kV (.inr s) = V.str ⟨(s.cps.toList).toArray⟩ := by cases s; simp [kV]
    rw [e]
    exact .str ok
theorem repL_kD {K : PySem.W.Frag} {B : Addr} {G : Hp} : ∀ {ks : List Key}, ks.all okK = true → RepL K B G (ks.map kV) (ks.map kD)
  | [], _ => .nil
  | k :: ks, h => by
    rw [List.all_cons, Bool.and_eq_true] at h
    exact .cons (rep_kD h.1) (repL_kD h.2)
/-- the iterator J goes over such data, once G is frozen -/
structure ItOk (K : PySem.W.Frag) (B : Addr) (G : Hp) (J : It) (items : List D) : Prop where
  go : ∀ i H, Same G H → i < items.length → J.go i H
  stop : ∀ i H, Same G H → items.length ≤ i → J.stop i H
  yld : ∀ i H x H', Same G H → i < items.length → J.yld i H x H' → ∃ d, items[i]? = some d ∧ (((H' = H ∧ Rep K B G x d) ∨ ∃ p vs l, x = .ref p ∧ H p = none ∧ H' = upd H p (.tup vs) ∧ d = .tup l ∧ RepL K B G vs l) ∨ ∃ (q : Addr) (ks : List Key), x = .ref q ∧ H' = H ∧ H q = some (.tup (ks.map kV)) ∧ d = .tup (ks.map kD) ∧ ks.all okK = true)
abbrev WI := Env3 → (List D → Env3 → Prop) → Prop
def lI (K : PySem.W.Frag) (bx : Bx) (f : WI) : TI := fun σ H R => ∃ F ρ G P, Stt K bx F ρ σ G H ∧ f ρ P ∧ ∀ items ρ' G' H' J, P items ρ' → Same G G' → Stt K bx F ρ' σ G' H' → ItOk K bx.adr G' J items → R J H'
structure I3 (X : Cx) (bx : Bx) (tg iter : Expr) (f : WI) : Prop where
  pi : PI X tg iter (lI X.K bx f)
theorem PI.weaken {X : Cx} {tg e : Expr} {t t' : TI} (h : PI X tg e t) (w : ∀ σ H Q, t' σ H Q → t σ H Q) : PI X tg e t' :=
  ⟨fun pins s σ H Q I q => h.run pins s σ H Q I (w _ _ _ q)⟩
def itemsD (d : D) (k : List D → Prop) : Prop :=
  match d with
  | .lst l => k l
  | .tup l => k l
  | .str s => s.length ≤ sizeLine ∧ k (s.map fun c => .str [c])
  | _ => False
def wIter (fa : WE) : WI := fun ρ Q => fa ρ fun r ρ1 => fz r ρ1 fun d ρ2 => itemsD d fun l => Q l ρ2
section
variable {K : PySem.W.Frag} {B : Addr} {G H : Hp}
theorem itok_list {a : Addr} {vs : List V} {l : List D} (h : G a = some (.lst vs)) (r : RepL K B G vs l) : ItOk K B G (Itl K a) l := by
  refine ⟨fun i H g hi => ?_, fun i H g hi => ⟨vs, .inl (.inl (g _ _ h)), by rw [r.length]; exact hi⟩, fun i H x H' g hi hy => ?_⟩
  · obtain ⟨v, hv, _⟩ := r.get (List.getElem?_eq_getElem hi)
    exact ⟨vs, v, .inl (.inl (g _ _ h)), hv⟩
  · obtain ⟨e, hx⟩ := hy
    obtain ⟨d, hd, q⟩ := r.getV (hx vs (.inl (.inl (g _ _ h))))
    exact ⟨d, hd, .inl (.inl ⟨e, q⟩)⟩
theorem itok_tup {a : Addr} {vs : List V} {l : List D} (h : SqT K G a vs) (r : RepL K B G vs l) : ItOk K B G (Itt K a) l := by
  refine ⟨fun i H g hi => ?_, fun i H g hi => ⟨vs, sqT_mono g h, by rw [r.length]; exact hi⟩, fun i H x H' g hi hy => ?_⟩
  · obtain ⟨v, hv, _⟩ := r.get (List.getElem?_eq_getElem hi)
    exact ⟨vs, v, sqT_mono g h, hv⟩
  · obtain ⟨e, hx⟩ := hy
    obtain ⟨d, hd, q⟩ := r.getV (hx vs (sqT_mono g h))
    exact ⟨d, hd, .inl (.inl ⟨e, q⟩)⟩
theorem itok_str {s : List Nat} (o : okS s = true) : ItOk K B G (Its ⟨s.toArray⟩) (s.map fun c => .str [c]) := by
  refine ⟨fun i H g hi => ?_, fun i H g hi => ?_, fun i H x H' g hi hy => ?_⟩
  · show i < (s.toArray).size
    simpa using hi
  · show (s.toArray).size ≤ i
    simpa using hi
  · obtain ⟨e, c, hc, rfl⟩ := hy
    have hc : s[i]? = some c := by simpa using hc
    refine ⟨.str [c], by rw [List.getElem?_map, hc]; rfl, .inl (.inl ⟨e, .str (s := [c]) ?_⟩)⟩
    exact okS_sub (fun c' h => by rw [List.mem_singleton] at h; rw [h]; exact List.mem_of_getElem? hc) o
end
section
variable {X : Cx} {bx : Bx} {a b c e tg : Expr} {es : List Expr} {fa fb fc : WE} {fr : WA} {pos : Pos} {x : Str} {p : Pos}
/-- a list, a tuple, a text -/
def iAny (K : PySem.W.Frag) (te : TE) : TI := fun σ H R => te σ H fun x H1 => (∃ a, x = .ref a ∧ (∃ xs, SqL K H1 a xs) ∧ R (Itl K a) H1) ∨ (∃ a, x = .ref a ∧ (∃ xs, SqT K H1 a xs) ∧ R (Itt K a) H1) ∨ ∃ z, x = .str z ∧ R (Its z) H1
theorem pi_any {te : TE} (he : PE X e te) : PI X tg e (iAny X.K te) := by
  refine ⟨fun pins s σ H R I h => thn (he.run pins s σ H _ I h) fun v s1 ⟨x, H1, I1, r1, q1⟩ => ?_⟩
  rcases q1 with ⟨a, rfl, ⟨xs, hq⟩, q⟩ | ⟨a, rfl, ⟨xs, hq⟩, q⟩ | ⟨z, rfl, q⟩
  · cases r1
    obtain ⟨its, rv, pl, hz⟩ := I1.list hq
    refine wpAny_pyIter_list pl.isList ⟨s1.heap.objs.size, [s1.heap.objs.size], _, _, H1, rfl, I1.kept (t' := s1.toks) fun b o e => Heap.get?_push_of_some _ e, turn_list a _, ⟨_, Heap.get?_push_size _ rfl, rfl, rfl⟩, fun b hb => ?_, q⟩
    obtain rfl : b = s1.heap.objs.size := by simpa using hb
    exact I1.fpOk (Nat.le_refl _) (I1.hok.fresh (Nat.le_refl _))
  · cases r1
    obtain ⟨its, rv, pl, hz⟩ := I1.tuple hq
    refine wpAny_pyIter_tuple (show s1.heap.IsTuple a its.toArray from pl) ⟨s1.heap.objs.size, [s1.heap.objs.size], _, _, H1, rfl, I1.kept (t' := s1.toks) fun b o e => Heap.get?_push_of_some _ e, turn_tuple a _, ⟨_, Heap.get?_push_size _ rfl, rfl, rfl⟩, fun b hb => ?_, q⟩
    obtain rfl : b = s1.heap.objs.size := by simpa using hb
    exact I1.fpOk (Nat.le_refl _) (I1.hok.fresh (Nat.le_refl _))
  · obtain ⟨t, rfl⟩ := r1
    cases ha : z.cps.all (· < 128)
    · exact wpAny_pyIter_wide ha (pi_one (tk := s1.toks) I1 _ (turn_str _ z t _ (.inr rfl)) ⟨_, Heap.get?_push_size _ rfl, rfl, rfl⟩ q)
    · exact wpAny_pyIter_ascii ha (pi_one (tk := s1.toks) I1 _ (turn_str _ z t _ (.inl rfl)) ⟨_, Heap.get?_push_size _ rfl, rfl, rfl⟩ q)
theorem i_any (ha : E3 X bx a fa) : I3 X bx tg a (wIter fa) := by
  refine ⟨PI.weaken (pi_any ha.pe) fun σ H R ⟨F, ρ, G, P, st, h, hQ⟩ => ⟨F, ρ, G, _, st, h, fun r ρ1 v G1 H1 h1 g1 st1 rr1 => ?_⟩⟩
  obtain ⟨d, ρ2, G2, h2, g2, st2, rd⟩ := fz_ok st1 rr1 h1
  cases d with
  | lst l =>
    cases rd with
    | lst hg r => exact .inl ⟨_, rfl, ⟨_, .inl (.inl (st2.gs _ _ hg))⟩, hQ l ρ2 G2 _ _ h2 (g1.trans g2) st2 (itok_list hg r)⟩
  | tup l =>
    cases rd with
    | tup hg r => exact .inr (.inl ⟨_, rfl, ⟨_, .inl (.inl (st2.gs _ _ hg))⟩, hQ l ρ2 G2 _ _ h2 (g1.trans g2) st2 (itok_tup (.inl (.inl hg)) r)⟩)
  | str s =>
    cases rd with
    | str o => exact .inr (.inr ⟨_, rfl, hQ _ ρ2 G2 _ _ h2.2 (g1.trans g2) st2 (itok_str o)⟩)
  | non => exact (show False from h2).elim
  | bl _ => exact (show False from h2).elim
  | int _ => exact (show False from h2).elim
  | dik _ => exact (show False from h2).elim
  | dit _ => exact (show False from h2).elim
  | ty _ => exact (show False from h2).elim
  | box => exact (show False from h2).elim
  | obj _ => exact (show False from h2).elim
/-- lo, lo + c, .. (n of them) -/
def rng (lo c : Int) (n : Nat) : List D := (List.range n).map fun (k : Nat) => D.int (lo + (k : Int) * c)
def asI (d : D) (k : Int → Prop) : Prop :=
  match d with
  | .int i => k i
  | _ => False
def SmallI (i : Int) : Prop := -(2 ^ 62) ≤ i ∧ i < 2 ^ 62
def wRng1 (fa : WA) : WI := fun ρ Q => fa ρ fun ds ρ1 => match ds with
  | [.int j] => SmallI j ∧ Q (rng 0 1 j.toNat) ρ1
  | _ => False
def wRng2 (fa : WA) : WI := fun ρ Q => fa ρ fun ds ρ1 => match ds with
  | [.int i, .int j] => SmallI i ∧ SmallI j ∧ Q (rng i 1 (j - i).toNat) ρ1
  | _ => False
/-- a range downwards by ones -/
def wRngD (fa : WA) : WI := fun ρ Q => fa ρ fun ds ρ1 => match ds with
  | [.int i, .int j, .int c] => c = -1 ∧ SmallI i ∧ SmallI j ∧ Q (rng i (-1) (i - j).toNat) ρ1
  | _ => False
theorem itok_rng {K : PySem.W.Frag} {B : Addr} {G : Hp} {lo : Int} {n : Nat} : ItOk K B G (Itr lo n) (rng lo 1 n) := by
  refine ⟨fun i H g hi => ?_, fun i H g hi => ?_, fun i H x H' g hi hy => ?_⟩
  · show i < n
    simpa [rng] using hi
  · show n ≤ i
    simpa [rng] using hi
  · obtain ⟨e, rfl⟩ := hy
    have hi : i < n := by simpa [rng] using hi
    exact ⟨.int (lo + i), by simp [rng, hi], .inl (.inl ⟨e, .int _⟩)⟩
theorem itok_rngC {K : PySem.W.Frag} {B : Addr} {G : Hp} {lo c : Int} {n : Nat} : ItOk K B G (Itc lo c n) (rng lo c n) := by
  refine ⟨fun i H g hi => ?_, fun i H g hi => ?_, fun i H x H' g hi hy => ?_⟩
  · show i < n
    simpa [rng] using hi
  · show n ≤ i
    simpa [rng] using hi
  · obtain ⟨e, rfl⟩ := hy
    have hi : i < n := by simpa [rng] using hi
    exact ⟨.int (lo + (i : Nat) * c), by simp [rng, hi], .inl (.inl ⟨e, .int _⟩)⟩
theorem repL1 {K : PySem.W.Frag} {B : Addr} {G : Hp} {vs : List V} {d : D} (r : RepL K B G vs [d]) : ∃ v, vs = [v] ∧ Rep K B G v d := by
  cases r with
  | cons a r => cases r; exact ⟨_, rfl, a⟩
theorem repL2 {K : PySem.W.Frag} {B : Addr} {G : Hp} {vs : List V} {d d2 : D} (r : RepL K B G vs [d, d2]) : ∃ v w, vs = [v, w] ∧ Rep K B G v d ∧ Rep K B G w d2 := by
  cases r with
  | cons a r =>
    obtain ⟨w, rfl, q⟩ := repL1 r
    exact ⟨_, _, rfl, a, q⟩
theorem rep_int {K : PySem.W.Frag} {B : Addr} {G : Hp} {v : V} {i : Int} (r : Rep K B G v (.int i)) : v = .int i := by cases r; rfl
theorem i_rng1 (ha : A3 X bx [a] fr) (hm : X.mg "range" = none) (hg : Gl X "range" := by rfl) (hs : starEach [a] X.env = [(false, eval a X.env)] := by rfl) : I3 X bx tg (.Call (.Name "range" p) [a] [] pos) (wRng1 fr) := by
  refine ⟨PI.weaken (pi_range1 hg hm ha.pa hs) fun σ H R ⟨F, ρ, G, P, st, h, hQ⟩ => ⟨F, ρ, G, _, st, h, fun ds ρ1 vs G1 H1 h1 g1 st1 rl => ?_⟩⟩
  split at h1
  · obtain ⟨v, rfl, r⟩ := repL1 rl
    obtain rfl := rep_int r
    exact ⟨_, rfl, h1.1.1, h1.1.2, hQ _ _ _ _ _ h1.2 g1 st1 itok_rng⟩
  · exact h1.elim
theorem i_rng2 (ha : A3 X bx [a, b] fr) (hm : X.mg "range" = none) (hg : Gl X "range" := by rfl) (hs : starEach [a, b] X.env = [(false, eval a X.env), (false, eval b X.env)] := by rfl) (hs2 : starEach [b] X.env = [(false, eval b X.env)] := by rfl) :
    I3 X bx tg (.Call (.Name "range" p) [a, b] [] pos) (wRng2 fr) := by
  refine ⟨PI.weaken (pi_range2 hg hm ha.pa hs hs2) fun σ H R ⟨F, ρ, G, P, st, h, hQ⟩ => ⟨F, ρ, G, _, st, h, fun ds ρ1 vs G1 H1 h1 g1 st1 rl => ?_⟩⟩
  split at h1
  · obtain ⟨v, w, rfl, r, r'⟩ := repL2 rl
    obtain rfl := rep_int r
    obtain rfl := rep_int r'
    exact ⟨_, _, rfl, ⟨h1.1.1, h1.1.2, h1.2.1.1, h1.2.1.2⟩, hQ _ _ _ _ _ h1.2.2 g1 st1 itok_rng⟩
  · exact h1.elim
theorem i_rngD (ha : A3 X bx [a, b, c] fr) (hm : X.mg "range" = none) (hg : Gl X "range" := by rfl) (hs : starEach [a, b, c] X.env = (false, eval a X.env) :: starEach [b, c] X.env := by rfl) (hpl : (backTo pos (starEach [b, c] X.env)).any (·.1) = false := by rfl) :
    I3 X bx tg (.Call (.Name "range" p) [a, b, c] [] pos) (wRngD fr) := by
  refine ⟨PI.weaken (pi_range3 hg hm ha.pa hs hpl) fun σ H R ⟨F, ρ, G, P, st, h, hQ⟩ => ⟨F, ρ, G, _, st, h, fun ds ρ1 vs G1 H1 h1 g1 st1 rl => ?_⟩⟩
  split at h1
  · cases rl with
    | cons r rl =>
      obtain ⟨v, w, rfl, r', r2⟩ := repL2 rl
      obtain rfl := rep_int r
      obtain rfl := rep_int r'
      obtain rfl := rep_int r2
      obtain ⟨rfl, h2, h3, h4⟩ := h1
      exact ⟨_, _, _, _, rfl, RgC.neg h2.1 h2.2 h3.1 h3.2, hQ _ _ _ _ _ h4 g1 st1 itok_rngC⟩
  · exact h1.elim
end
end L2.W3

/-! W3, part f: targets, comprehensions, statements. -/
namespace L2.W3
open PySem PySem.Spec PyProof.Rows

/-! ### targets -/
abbrev WG := D → Env3 → (Env3 → Prop) → Prop
/-- but for the slots ts all stands as it was -/
def But (ts : List Nat) (σ σ' : L2.St) : Prop := σ'.length = σ.length ∧ ∀ j, j ∉ ts → σ'[j]? = σ[j]?
theorem But.refl (ts : List Nat) (σ : L2.St) : But ts σ σ := ⟨rfl, fun _ _ => rfl⟩
theorem But.trans {ts us : List Nat} {σ σ' σ'' : L2.St} (h : But ts σ σ') (h' : But us σ' σ'') : But (ts ++ us) σ σ'' :=
  ⟨h'.1.trans h.1, fun j hj => (h'.2 j fun z => hj (List.mem_append_right _ z)).trans (h.2 j fun z => hj (List.mem_append_left _ z))⟩
def lG (K : PySem.W.Frag) (bx : Bx) (ts : List Nat) (g : WG) : TG := fun v σ H Q => ∃ F ρ G d P, Stt K bx F ρ σ G H ∧ Rep K bx.adr G v d ∧ g d ρ P ∧ ∀ ρ' σ' G' H', P ρ' → Same G G' → Stt K bx F ρ' σ' G' H' → But ts σ σ' → Q σ' H'
def lGs (K : PySem.W.Frag) (bx : Bx) (ts : List Nat) (g : List D → Env3 → (Env3 → Prop) → Prop) : TGs := fun vs σ H Q => ∃ F ρ G ds P, Stt K bx F ρ σ G H ∧ RepL K bx.adr G vs ds ∧ g ds ρ P ∧ ∀ ρ' σ' G' H', P ρ' → Same G G' → Stt K bx F ρ' σ' G' H' → But ts σ σ' → Q σ' H'
structure G3 (X : Cx) (bx : Bx) (tg : Expr) (ts : List Nat) (g : WG) : Prop where
  pg : PG X tg (lG X.K bx ts g)
structure Gs3 (X : Cx) (bx : Bx) (tg : List Expr) (ts : List Nat) (g : List D → Env3 → (Env3 → Prop) → Prop) : Prop where
  pgs : PGs X tg (lGs X.K bx ts g)
theorem PG.weaken {X : Cx} {e : Expr} {t t' : TG} (h : PG X e t) (w : ∀ v σ H Q, t' v σ H Q → t v σ H Q) : PG X e t' :=
  ⟨fun pins s σ H v u Q I r q => h.run pins s σ H v u Q I r (w _ _ _ _ q)⟩
theorem PGs.weaken {X : Cx} {e : List Expr} {t t' : TGs} (h : PGs X e t) (w : ∀ v σ H Q, t' v σ H Q → t v σ H Q) : PGs X e t' :=
  ⟨fun pins s σ H v u Q I r q => h.run pins s σ H v u Q I r (w _ _ _ _ q)⟩
def wName (i : Nat) : WG := fun d ρ Q => i < ρ.length ∧ Q (ρ.set i (.val d))

section
variable {K : PySem.W.Frag} {bx : Bx} {F G G' H H' : Hp} {ρ ρ' : Env3} {σ : L2.St} {r : R} {v : V} {p : Addr} {d : D}
theorem get_set {i j : Nat} {s s' : Sl} (e : (ρ.set i s)[j]? = some s') : (j = i ∧ s' = s ∧ i < ρ.length) ∨ (j ≠ i ∧ ρ[j]? = some s') := by
  by_cases h : j = i
  · subst h
    rw [List.getElem?_set] at e
    simp only [if_pos] at e
    split at e
    · cases e; exact .inl ⟨rfl, rfl, by assumption⟩
    · cases e
  · rw [List.getElem?_set_ne (Ne.symm h)] at e
    exact .inr ⟨h, e⟩
/-- a slot stored -/
theorem Stt.put (st : Stt K bx F ρ σ G H) (i : Nat) (r : Rep K bx.adr G v d) : Stt K bx F (ρ.set i (.val d)) (σ.set i (some v)) G H := by
  refine ⟨st.toFr3, by simp [st.len], fun j d' e => ?_, fun j d' e => ?_, fun j k q ⟨⟨d1, h1⟩, e1⟩ ⟨⟨d2, h2⟩, e2⟩ => ?_⟩
  · rcases get_set e with ⟨rfl, e, hl⟩ | ⟨hj, e⟩
    · cases e
      rw [st.len] at hl
      exact ⟨v, by rw [List.getElem?_set_self hl], r⟩
    · obtain ⟨w, e1, q⟩ := st.vl j d' e
      exact ⟨w, by rw [List.getElem?_set_ne (Ne.symm hj)]; exact e1, q⟩
  · rcases get_set e with ⟨rfl, e, hl⟩ | ⟨hj, e⟩
    · cases e
    · obtain ⟨w, e1, q⟩ := st.ow j d' e
      exact ⟨w, by rw [List.getElem?_set_ne (Ne.symm hj)]; exact e1, q⟩
  · rcases get_set h1 with ⟨_, h, _⟩ | ⟨hj, h1⟩
    · cases h
    rcases get_set h2 with ⟨_, h, _⟩ | ⟨hk, h2⟩
    · cases h
    rw [List.getElem?_set_ne (Ne.symm hj)] at e1
    rw [List.getElem?_set_ne (Ne.symm hk)] at e2
    exact st.dj j k q ⟨⟨d1, h1⟩, e1⟩ ⟨⟨d2, h2⟩, e2⟩
theorem Stt.putOwn (st : Stt K bx F ρ σ G H) (i : Nat) (so : Sole K bx F G H p d) (no : ∀ i, ¬ Own ρ σ i p) : Stt K bx F (ρ.set i (.own d)) (σ.set i (some (.ref p))) G H := by
  have own : ∀ j q, Own (ρ.set i (.own d)) (σ.set i (some (.ref p))) j q → (j = i ∧ q = p) ∨ (j ≠ i ∧ Own ρ σ j q) := fun j q ⟨⟨d1, h1⟩, e1⟩ => by
    rcases get_set h1 with ⟨rfl, h, hl⟩ | ⟨hj, h1⟩
    · rw [st.len] at hl
      rw [List.getElem?_set_self hl] at e1
      cases e1
      exact .inl ⟨rfl, rfl⟩
    · rw [List.getElem?_set_ne (Ne.symm hj)] at e1
      exact .inr ⟨hj, ⟨d1, h1⟩, e1⟩
  refine ⟨st.toFr3, by simp [st.len], fun j d' e => ?_, fun j d' e => ?_, fun j k q h1 h2 => ?_⟩
  · rcases get_set e with ⟨rfl, e, hl⟩ | ⟨hj, e⟩
    · cases e
    · obtain ⟨w, e1, q⟩ := st.vl j d' e
      exact ⟨w, by rw [List.getElem?_set_ne (Ne.symm hj)]; exact e1, q⟩
  · rcases get_set e with ⟨rfl, e, hl⟩ | ⟨hj, e⟩
    · cases e
      rw [st.len] at hl
      exact ⟨p, by rw [List.getElem?_set_self hl], so⟩
    · obtain ⟨w, e1, q⟩ := st.ow j d' e
      exact ⟨w, by rw [List.getElem?_set_ne (Ne.symm hj)]; exact e1, q⟩
  · rcases own j q h1 with ⟨rfl, rfl⟩ | ⟨hj, o1⟩
    · rcases own k _ h2 with ⟨rfl, _⟩ | ⟨hk, o2⟩
      · rfl
      · exact absurd o2 (no k)
    · rcases own k q h2 with ⟨rfl, rfl⟩ | ⟨hk, o2⟩
      · exact absurd o1 (no j)
      · exact st.dj j k q o1 o2
end
section
variable {X : Cx} {bx : Bx} {a b c e tg : Expr} {es tgs : List Expr} {fa fb fc : WE} {fr : WA} {ft : WT} {pos : Pos} {x : Str} {p : Pos}
theorem g_name (i : Nat) (hN : X.N.Nodup) (hi : X.N[i]? = some x := by rfl) (hx : Loc X.env.scope x := by first | exact Or.inl rfl | exact Or.inr rfl) (hf : X.fn x = true ∨ X.env.scope.names.lookup x = some .local := by first | exact .inl rfl | exact .inr rfl) :
    G3 X bx (.Name x pos) [i] (wName i) :=
  ⟨PG.weaken (pg_name hN hi hx hf) fun v σ H Q ⟨F, ρ, G, d, P, st, r, h, hQ⟩ => hQ _ _ _ _ h.2 (Same.refl G) (st.put i r) ⟨by simp, fun j hj => List.getElem?_set_ne fun e => hj (by simp [e])⟩⟩
def wGNil : List D → Env3 → (Env3 → Prop) → Prop := fun ds ρ Q => ds = [] ∧ Q ρ
def wGCons (g : WG) (gs : List D → Env3 → (Env3 → Prop) → Prop) : List D → Env3 → (Env3 → Prop) → Prop := fun ds ρ Q => match ds with
  | d :: r => g d ρ fun ρ1 => gs r ρ1 Q
  | [] => False
theorem gs_nil : Gs3 X bx [] [] wGNil := ⟨PGs.weaken pgs_nil fun vs σ H Q ⟨F, ρ, G, ds, P, st, r, h, hQ⟩ => by
  obtain ⟨rfl, h⟩ := h
  cases r
  exact ⟨rfl, hQ _ _ _ _ h (Same.refl G) st (But.refl _ _)⟩⟩
theorem gs_cons {g : WG} {gs : List D → Env3 → (Env3 → Prop) → Prop} {ts us : List Nat} (h1 : G3 X bx tg ts g) (h2 : Gs3 X bx tgs us gs) (hs : (assignEach (tg :: tgs) X.env).map (·.2) = assign tg X.env :: (assignEach tgs X.env).map (·.2) := by rfl) : Gs3 X bx (tg :: tgs) (ts ++ us) (wGCons g gs) := by
  refine ⟨PGs.weaken (pgs_cons h1.pg h2.pgs hs) fun vs σ H Q ⟨F, ρ, G, ds, P, st, r, h, hQ⟩ => ?_⟩
  cases r with
  | nil => exact (show False from h).elim
  | cons a r => exact ⟨_, _, rfl, F, ρ, G, _, _, st, a, h, fun ρ' σ' G' H' h1 g1 st1 b1 => ⟨F, ρ', G', _, _, st1, r.mono g1, h1, fun ρ2 σ2 G2 H2 h2 g2 st2 b2 => hQ _ _ _ _ h2 (g1.trans g2) st2 (b1.trans b2)⟩⟩
def wGTup (n : Nat) (gs : List D → Env3 → (Env3 → Prop) → Prop) : WG := fun d ρ Q => match d with
  | .tup l => l.length = n ∧ gs l ρ Q
  | _ => False
theorem g_tup {k n : Nat} {gs : List D → Env3 → (Env3 → Prop) → Prop} {ts : List Nat} (hc : X.calm = true) (h : Gs3 X bx tgs ts gs) (hn : (assignEach tgs X.env).length = n := by rfl) (hst : (assignEach tgs X.env).findIdx? (·.1) = none := by rfl) : G3 X bx (.Tuple tgs k pos) ts (wGTup n gs) := by
  refine ⟨PG.weaken (pg_tup hc h.pgs hn hst) fun v σ H Q ⟨F, ρ, G, d, P, st, r, h, hQ⟩ => ?_⟩
  cases d with
  | tup l =>
    cases r with
    | tup hs rl => exact ⟨_, _, rfl, .inl (.inl (st.gs _ _ hs)), rl.length.trans h.1, F, ρ, G, _, _, st, rl, h.2, hQ⟩
  | _ => exact (show False from h).elim

/-! ### comprehensions -/
def wipeE (ρ : Env3) : List Nat → Env3
  | [] => ρ
  | v :: vs => (wipeE ρ vs).set v .un
def keptE : Sl → Sl
  | .val d => .val d
  | _ => .un
/-- the slots vs as they were (what was owned is lost) -/
def backE (ρ ρ0 : Env3) : List Nat → Env3
  | [] => ρ
  | v :: vs => (backE ρ ρ0 vs).set v (keptE (ρ0.getD v .un))
abbrev WTs := Env3 → (Bool → Env3 → Prop) → Prop
def wYes : WTs := fun ρ Q => Q true ρ
/-- the turns of a comprehension, what is made so far -/
def lcGo (g : WG) (tt : WTs) (te : WE) (vs : List Nat) : List D → Env3 → List D → (List D → Env3 → Prop) → Prop
  | [], ρ, acc, Q => Q acc ρ
  | d :: r, ρ, acc, Q => g d (wipeE ρ vs) fun ρ1 => tt ρ1 fun b ρ2 => if b = true then te ρ2 fun rr ρ3 => fz rr ρ3 fun y ρ4 => acc.length < sizeLine ∧ lcGo g tt te vs r ρ4 (acc ++ [y]) Q else lcGo g tt te vs r ρ2 acc Q
def lcRun (g : WG) (tt : WTs) (te : WE) (vs : List Nat) (items : List D) (ρ : Env3) (T : List D → Env3 → Prop) : Prop := lcGo g tt te vs items ρ [] fun acc ρ2 => T acc (backE (wipeE ρ2 vs) ρ vs)
def wLc (fi : WI) (g : WG) (tt : WTs) (te : WE) (vs : List Nat) : WE := fun ρ Q => fi ρ fun items ρ1 => lcRun g tt te vs items ρ1 fun acc ρ2 => Q (.new (.lst acc)) ρ2
structure Ts3 (X : Cx) (bx : Bx) (ifs : List Expr) (f : WTs) : Prop where
  pts : PTs X ifs (lT X.K bx f)
theorem PTs.weaken {X : Cx} {e : List Expr} {t t' : TT} (h : PTs X e t) (w : ∀ σ H Q, t' σ H Q → t σ H Q) : PTs X e t' :=
  ⟨fun pins s σ H Q I q => h.run pins s σ H Q I (w _ _ _ q)⟩
theorem ts_nil : Ts3 X bx [] wYes := ⟨PTs.weaken pts_nil fun σ H Q ⟨F, ρ, G, P, st, h, hQ⟩ => hQ true ρ G H h (Same.refl G) st⟩
theorem ts_one (h : T3 X bx c ft) : Ts3 X bx [c] ft := ⟨pts_one h.pt⟩
end
section
variable {K : PySem.W.Frag} {bx : Bx} {F G G' H H' : Hp} {ρ ρ' : Env3} {σ : L2.St} {r : R} {v : V} {p : Addr} {d : D}
theorem Stt.forget (st : Stt K bx F ρ σ G H) (i : Nat) (w : Option V) : Stt K bx F (ρ.set i .un) (σ.set i w) G H := by
  refine ⟨st.toFr3, by simp [st.len], fun j d' e => ?_, fun j d' e => ?_, fun j k q ⟨⟨d1, h1⟩, e1⟩ ⟨⟨d2, h2⟩, e2⟩ => ?_⟩
  · rcases get_set e with ⟨rfl, e, hl⟩ | ⟨hj, e⟩
    · cases e
    · obtain ⟨w, e1, q⟩ := st.vl j d' e
      exact ⟨w, by rw [List.getElem?_set_ne (Ne.symm hj)]; exact e1, q⟩
  · rcases get_set e with ⟨rfl, e, hl⟩ | ⟨hj, e⟩
    · cases e
    · obtain ⟨w, e1, q⟩ := st.ow j d' e
      exact ⟨w, by rw [List.getElem?_set_ne (Ne.symm hj)]; exact e1, q⟩
  · rcases get_set h1 with ⟨_, h, _⟩ | ⟨hj, h1⟩
    · cases h
    rcases get_set h2 with ⟨_, h, _⟩ | ⟨hk, h2⟩
    · cases h
    rw [List.getElem?_set_ne (Ne.symm hj)] at e1
    rw [List.getElem?_set_ne (Ne.symm hk)] at e2
    exact st.dj j k q ⟨⟨d1, h1⟩, e1⟩ ⟨⟨d2, h2⟩, e2⟩
theorem Stt.wipe (st : Stt K bx F ρ σ G H) : ∀ vs : List Nat, Stt K bx F (wipeE ρ vs) (L2.wipe σ vs) G H
  | [] => st
  | v :: vs => (Stt.wipe st vs).forget v none
theorem wipeE_out {j : Nat} : ∀ {vs : List Nat}, j ∉ vs → (wipeE ρ vs)[j]? = ρ[j]?
  | [], _ => rfl
  | v :: vs, h => by
    rw [List.mem_cons, not_or] at h
    rw [wipeE, List.getElem?_set_ne (Ne.symm h.1)]
    exact wipeE_out h.2
theorem wipeE_len : ∀ {vs : List Nat}, (wipeE ρ vs).length = ρ.length
  | [] => rfl
  | v :: vs => by rw [wipeE, List.length_set]; exact wipeE_len
theorem backE_len : ∀ {vs : List Nat}, (backE ρ ρ' vs).length = ρ.length
  | [] => rfl
  | v :: vs => by rw [backE, List.length_set]; exact backE_len
theorem backE_out {j : Nat} : ∀ {vs : List Nat}, j ∉ vs → (backE ρ ρ' vs)[j]? = ρ[j]?
  | [], _ => rfl
  | v :: vs, h => by
    rw [List.mem_cons, not_or] at h
    rw [backE, List.getElem?_set_ne (Ne.symm h.1)]
    exact backE_out h.2
theorem backE_in {j : Nat} {s : Sl} : ∀ {vs : List Nat}, j ∈ vs → (backE ρ ρ' vs)[j]? = some s → s = keptE (ρ'.getD j .un)
  | v :: vs, h, e => by
    rw [backE] at e
    rcases get_set e with ⟨rfl, e, _⟩ | ⟨hj, e⟩
    · exact e
    · rcases List.mem_cons.mp h with h | h
      · exact absurd h hj
      · exact backE_in h e
theorem keptE_val {s : Sl} {d : D} (h : keptE s = .val d) : s = .val d := by
  cases s <;> simp [keptE] at h ⊢ <;> exact h
theorem keptE_own {s : Sl} {d : D} (h : keptE s = .own d) : False := by
  cases s <;> simp [keptE] at h
theorem Stt.unwipe {ρ1 ρ2 : Env3} {G1 G2 H1 H2 : Hp} {vs : List Nat} (st1 : Stt K bx F ρ1 σ G1 H1) (g : Same G1 G2) (st2 : Stt K bx F (wipeE ρ2 vs) (L2.wipe σ vs) G2 H2) : Stt K bx F (backE (wipeE ρ2 vs) ρ1 vs) σ G2 H2 := by
  have own : ∀ (j : Nat) (d' : D), (backE (wipeE ρ2 vs) ρ1 vs)[j]? = some (Sl.own d') → j ∉ vs ∧ (wipeE ρ2 vs)[j]? = some (Sl.own d') := fun j d' e => by
    by_cases h : j ∈ vs
    · exact (keptE_own (backE_in h e).symm).elim
    · rw [backE_out h] at e
      exact ⟨h, e⟩
  refine ⟨st2.toFr3, ?_, fun j d' e => ?_, fun j d' e => ?_, fun j k q ⟨⟨d1, h1⟩, e1⟩ ⟨⟨d2, h2⟩, e2⟩ => ?_⟩
  · rw [backE_len, st2.len, wipe_length]
  · by_cases h : j ∈ vs
    · have e1 := keptE_val (backE_in h e).symm
      rw [List.getD_eq_getElem?_getD] at e1
      cases e2 : ρ1[j]? with
      | none => rw [e2] at e1; cases e1
      | some s =>
        rw [e2] at e1
        have e3 : ρ1[j]? = some (Sl.val d') := by rw [e2]; exact congrArg some e1
        obtain ⟨w, e4, q⟩ := st1.vl j d' e3
        exact ⟨w, e4, q.mono g⟩
    · rw [backE_out h] at e
      obtain ⟨w, e1, q⟩ := st2.vl j d' e
      rw [wipe_out h] at e1
      exact ⟨w, e1, q⟩
  · obtain ⟨h, e⟩ := own j d' e
    obtain ⟨w, e1, q⟩ := st2.ow j d' e
    rw [wipe_out h] at e1
    exact ⟨w, e1, q⟩
  · obtain ⟨n1, h1⟩ := own j d1 h1
    obtain ⟨n2, h2⟩ := own k d2 h2
    exact st2.dj j k q ⟨⟨d1, h1⟩, by rw [wipe_out n1]; exact e1⟩ ⟨⟨d2, h2⟩, by rw [wipe_out n2]; exact e2⟩
theorem but_wipe {ts vs : List Nat} {σ' : L2.St} (hs : ∀ j ∈ ts, j ∈ vs) (b : But ts (L2.wipe σ vs) σ') : L2.wipe σ' vs = L2.wipe σ vs := by
  have inn : ∀ (τ : L2.St) (vs : List Nat) (j : Nat), j ∈ vs → j < τ.length → (L2.wipe τ vs)[j]? = some none := by
    intro τ vs
    induction vs with
    | nil => intro j h; cases h
    | cons v vs ih =>
      intro j h hl
      unfold L2.wipe
      by_cases hv : v = j
      · subst hv
        rw [List.getElem?_set_self (by rw [wipe_length]; exact hl)]
      · rw [List.getElem?_set_ne hv]
        exact ih j ((List.mem_cons.mp h).resolve_left (Ne.symm hv)) hl
  have hl : σ'.length = σ.length := by rw [b.1, wipe_length]
  refine List.ext_getElem? fun j => ?_
  by_cases h : j ∈ vs
  · by_cases hj : j < σ.length
    · rw [inn σ' vs j h (by omega), inn σ vs j h hj]
    · rw [List.getElem?_eq_none (by rw [wipe_length]; omega), List.getElem?_eq_none (by rw [wipe_length]; omega)]
  · rw [wipe_out h, b.2 j (fun z => h (hs j z))]
/-- a frame with one thing more -/
def addF (F : Hp) (p : Addr) (o : HO) : Hp := fun a => if a = p then some o else F a
theorem addF_same {o : HO} : addF F p o p = some o := by unfold addF; rw [if_pos rfl]
theorem addF_ne {o : HO} {a : Addr} (h : a ≠ p) : addF F p o a = F a := by unfold addF; rw [if_neg h]
theorem Stt.addF {o : HO} (st : Stt K bx F ρ σ G H) (hp : H p = none) (mu : Mut (some o) := by exact True.intro) : Stt K bx (addF F p o) ρ σ G (upd H p o) := by
  have st1 : Stt K bx F ρ σ G (upd H p o) := st.alloc hp
  refine ⟨⟨st1.gs, fun a u e => ?_, fun a u e => ?_, st1.bi, fun a ha => ⟨(st1.bg a ha).1, ?_⟩⟩, st1.len, st1.vl, fun i d' e => ?_, st1.dj⟩
  · by_cases h : a = p
    · subst h; rw [addF_same] at e; cases e; exact upd_same
    · rw [addF_ne h] at e; exact st1.fs a u e
  · by_cases h : a = p
    · subst h; rw [addF_same] at e; cases e; exact ⟨st.nG hp, mu⟩
    · rw [addF_ne h] at e; exact st1.fg a u e
  · have hne : a ≠ p := fun h => st.nfp hp (h ▸ ha)
    rw [addF_ne hne]; exact (st1.bg a ha).2
  · obtain ⟨q, e1, t, e2, e3, e4⟩ := st1.ow i d' e
    refine ⟨q, e1, t, e2, ?_, e4⟩
    have hne : q ≠ p := fun h => st.notown hp i ⟨⟨d', e⟩, h ▸ e1⟩
    rw [addF_ne hne]; exact e3
theorem Stt.setF {o o' : HO} (st : Stt K bx (W3.addF F p o) ρ σ G H) (mu : Mut (some o') := by exact True.intro) : Stt K bx (W3.addF F p o') ρ σ G (upd H p o') := by
  have gp : G p = none := (st.fg p o addF_same).1
  have np : p ∉ bx.fp := fun h => by have := (st.bg p h).2; rw [addF_same] at this; cases this
  refine ⟨⟨fun a u e => ?_, fun a u e => ?_, fun a u e => ?_, bx.loc H _ (fun a ha => upd_ne (fun h => np (h ▸ ha))) st.bi, fun a ha => ⟨(st.bg a ha).1, ?_⟩⟩, st.len, st.vl, fun i d' e => ?_, st.dj⟩
  · rw [upd_ne (ne_of_none e gp)]; exact st.gs a u e
  · by_cases h : a = p
    · subst h; rw [addF_same] at e; cases e; exact upd_same
    · rw [addF_ne h] at e
      rw [upd_ne h]; exact st.fs a u (by rw [addF_ne h]; exact e)
  · by_cases h : a = p
    · subst h; rw [addF_same] at e; cases e; exact ⟨gp, mu⟩
    · rw [addF_ne h] at e; exact st.fg a u (by rw [addF_ne h]; exact e)
  · have h : a ≠ p := fun h => np (h ▸ ha)
    have := (st.bg a ha).2
    rw [addF_ne h] at this ⊢; exact this
  · obtain ⟨q, e1, t, e2, e3, e4⟩ := st.ow i d' e
    have h : q ≠ p := fun h => by subst h; rw [addF_same] at e3; cases e3
    rw [addF_ne h] at e3
    exact ⟨q, e1, t.heap (upd_ne h), e2, by rw [addF_ne h]; exact e3, e4⟩
theorem Stt.dropF {o : HO} (st : Stt K bx (W3.addF F p o) ρ σ G H) (fp : F p = none) : Stt K bx F ρ σ G H ∧ H p = some o ∧ G p = none ∧ p ∉ bx.fp ∧ ∀ i, ¬ Own ρ σ i p := by
  have ne : ∀ a u, F a = some u → a ≠ p := fun a u e h => by subst h; rw [fp] at e; cases e
  have np : p ∉ bx.fp := fun h => by have := (st.bg p h).2; rw [addF_same] at this; cases this
  refine ⟨⟨⟨st.gs, fun a u e => st.fs a u (by rw [addF_ne (ne a u e)]; exact e), fun a u e => st.fg a u (by rw [addF_ne (ne a u e)]; exact e), st.bi, fun a ha => ⟨(st.bg a ha).1, ?_⟩⟩, st.len, st.vl, fun i d' e => ?_, st.dj⟩, st.fs p o addF_same, (st.fg p o addF_same).1, np, fun i ⟨⟨d', e⟩, e1⟩ => ?_⟩
  · have h : a ≠ p := fun h => np (h ▸ ha)
    have := (st.bg a ha).2
    rw [addF_ne h] at this; exact this
  · obtain ⟨q, e1, t, e2, e3, e4⟩ := st.ow i d' e
    have h : q ≠ p := fun h => by subst h; rw [addF_same] at e3; cases e3
    rw [addF_ne h] at e3
    exact ⟨q, e1, t, e2, e3, e4⟩
  · obtain ⟨q, e1', t, e2, e3, e4⟩ := st.ow i d' e
    rw [e1] at e1'; cases e1'
    rw [addF_same] at e3; cases e3
/-- a turn's item has come -/
theorem item_st {B : Addr} {items : List D} {J : It} {G1 H' : Hp} {i : Nat} {x : V} (hB : B = bx.adr) (it : ItOk K B G1 J items) (g : Same G1 G) (st : Stt K bx F ρ σ G H) (hi : i < items.length) (hy : J.yld i H x H') :
    ∃ d G', items[i]? = some d ∧ Same G G' ∧ Stt K bx F ρ σ G' H' ∧ Rep K bx.adr G' x d := by
  subst hB
  obtain ⟨d, hd, q⟩ := it.yld i H x H' (g.trans st.gs) hi hy
  rcases q with (⟨rfl, q⟩ | ⟨p, vs, l, rfl, hp, rfl, rfl, q⟩) | ⟨q, ks, rfl, rfl, hq, rfl, ok⟩
  · exact ⟨d, G, hd, Same.refl G, st, q.mono g⟩
  · have st1 : Stt K bx F ρ σ G (upd H p (.tup vs)) := st.alloc hp
    obtain ⟨g2, st2⟩ := freeze_at st1 upd_same (st.nG hp) (st.nF hp) (st.nfp hp) (st.notown hp)
    exact ⟨_, _, hd, g2, st2, Rep.tup upd_same (q.mono (g.trans g2))⟩
  · cases eg : G q with
    | some o =>
      have e2 := st.gs q o eg
      rw [hq] at e2; cases e2
      exact ⟨_, G, hd, Same.refl G, st, Rep.tup eg (repL_kD ok)⟩
    | none =>
      have nm : ∀ o, H' q = some o → ¬ Mut (some o) := fun o e => by rw [hq] at e; cases e; exact fun h => h
      have fq : F q = none := by
        cases ef : F q with
        | none => rfl
        | some o => exact absurd (st.fg q o ef).2 (nm o (st.fs q o ef))
      have bq : q ∉ bx.fp := fun h => by
        obtain ⟨o, e, mu⟩ := bx.has H' st.bi q h
        exact nm o e mu
      have no : ∀ i, ¬ Own ρ σ i q := fun i ⟨⟨d, e⟩, e1⟩ => by
        obtain ⟨p, e1', t, _⟩ := st.ow i d e
        rw [e1] at e1'; cases e1'
        exact nm _ hq (top_mut t hq)
      obtain ⟨g2, st2⟩ := freeze_at st hq eg fq bq no
      exact ⟨_, _, hd, g2, st2, Rep.tup upd_same (repL_kD ok)⟩
end
section
variable {X : Cx} {bx : Bx} {a b c e tg : Expr} {es tgs : List Expr} {fa fb fc : WE} {fr : WA} {ft : WT} {pos : Pos} {x : Str} {p : Pos}
theorem lE_lc {K : PySem.W.Frag} {fi : WI} {g : WG} {tt : WTs} {te : WE} {ts vs : List Nat} (hs : ∀ j ∈ ts, j ∈ vs) (σ : L2.St) (H : Hp) (Q : VK) (h : lE K bx (wLc fi g tt te vs) σ H Q) : tLc (lI K bx fi) (lG K bx ts g) (lT K bx tt) (lE K bx te) vs σ H Q := by
  obtain ⟨F, ρ, G, P, st, h, hQ⟩ := h
  refine ⟨F, ρ, G, _, st, h, fun items ρ1 G1 H1 J h1 g1 st1 it => fun Da hD => ?_⟩
  have fD : F Da = none := st1.nF hD
  refine ⟨fun i m H => m = items.length - i ∧ i ≤ items.length ∧ ∃ ρ2 G2 acc accV, lcGo g tt te vs (items.drop i) ρ2 acc (fun acc ρ2 => P (.new (.lst acc)) (backE (wipeE ρ2 vs) ρ1 vs)) ∧ Same G1 G2 ∧
    Stt K bx (W3.addF F Da (.lst accV)) (wipeE ρ2 vs) (L2.wipe σ vs) G2 H ∧ RepL K bx.adr G2 accV acc, ⟨items.length, rfl, Nat.zero_le _, ρ1, G1, [], [], h1, Same.refl G1, (st1.addF hD).wipe vs, .nil⟩, ?_⟩
  rintro i m H2 ⟨rfl, hi, ρ2, G2, acc, accV, hgo, g2, st2, rl⟩
  by_cases hlt : i < items.length
  · refine .inr ⟨it.go i H2 (g2.trans st2.gs) hlt, fun H' => i + 1 ≤ items.length ∧ ∃ ρ2 G2 acc accV, lcGo g tt te vs (items.drop (i + 1)) ρ2 acc (fun acc ρ2 => P (.new (.lst acc)) (backE (wipeE ρ2 vs) ρ1 vs)) ∧ Same G1 G2 ∧
      Stt K bx (W3.addF F Da (.lst accV)) (wipeE ρ2 vs) (L2.wipe σ vs) G2 H' ∧ RepL K bx.adr G2 accV acc, fun H' hN => ⟨items.length - (i + 1), by omega, rfl, hN⟩, fun x H' hy => ?_⟩
    obtain ⟨d, G3, hd, g3, st3, rd⟩ := item_st rfl it g2 st2 hlt hy
    rw [List.drop_eq_getElem_cons hlt] at hgo
    have ed : items[i] = d := by rw [List.getElem?_eq_getElem hlt] at hd; exact Option.some.inj hd
    rw [ed] at hgo
    refine ⟨_, _, G3, d, _, st3, rd, hgo, fun ρ4 σ4 G4 H4 h4 g4 st4 b4 => ⟨but_wipe hs b4, ?_⟩⟩
    have ew := but_wipe hs b4
    refine ⟨_, ρ4, G4, _, st4, h4, fun b ρ5 G5 H5 h5 g5 st5 => ?_⟩
    by_cases hb : b = true
    · rw [if_pos hb] at h5 ⊢
      refine ⟨_, ρ5, G5, _, st5, h5, fun r ρ6 v G6 H6 h6 g6 st6 rr6 => ?_⟩
      obtain ⟨y, ρ7, G7, h7, g7, st7, ry⟩ := fz_ok st6 rr6 h6
      refine ⟨accV, st7.fs Da _ addF_same, by rw [rl.length]; exact h7.1, by omega, ρ7, G7, _, _, h7.2, g2.trans (g3.trans (g4.trans (g5.trans (g6.trans g7)))), ?_, (rl.mono (g3.trans (g4.trans (g5.trans (g6.trans g7))))).append (.cons ry .nil)⟩
      have := (st7.setF (o' := .lst (accV ++ [v]))).wipe vs
      rw [ew] at this
      exact this
    · rw [if_neg hb] at h5 ⊢
      refine ⟨by omega, ρ5, G5, acc, accV, h5, g2.trans (g3.trans (g4.trans g5)), ?_, rl.mono (g3.trans (g4.trans g5))⟩
      have := st5.wipe vs
      rw [ew] at this
      exact this
  · have ei : i = items.length := by omega
    subst ei
    refine .inl ⟨it.stop _ H2 (g2.trans st2.gs) (Nat.le_refl _), ?_⟩
    rw [List.drop_length] at hgo
    obtain ⟨st5, hD5, gD5, nD5, no5⟩ := st2.dropF fD
    have stU := st1.unwipe g2 st5
    refine hQ _ _ _ G2 H2 hgo (g1.trans g2) stU ⟨Da, rfl, ⟨.lst hD5 rl, gD5, fD, nD5⟩, fun j ⟨⟨d', e⟩, e1⟩ => ?_⟩
    by_cases h : j ∈ vs
    · exact keptE_own (backE_in h e).symm
    · rw [backE_out h] at e
      exact no5 j ⟨⟨d', e⟩, by rw [wipe_out h]; exact e1⟩
theorem e_lc {elt iter : Expr} {ifs : List Expr} {scope : Scope} {own : List (Str × Nat)} {fi : WI} {g : WG} {tt : WTs} {te : WE} {ts vs : List Nat} (hc : X.calm = true) (hN : X.N.Nodup) (hi : I3 X bx tg iter fi) (ok : BlkOk X.N X.env.scope scope own)
    (hg : ∀ (s : Shared) (H : Hp) (C : Addr) (cl : List (Str × Addr)) (fp : List Addr), G3 (X.blk s H scope (compEnvC scope cl C X.env) fp) bx tg ts g) (ht : ∀ (s : Shared) (H : Hp) (C : Addr) (cl : List (Str × Addr)) (fp : List Addr), Ts3 (X.blk s H scope (compEnvC scope cl C X.env) fp) bx ifs tt)
    (he : ∀ (s : Shared) (H : Hp) (C : Addr) (cl : List (Str × Addr)) (fp : List Addr), E3 (X.blk s H scope (compEnvC scope cl C X.env) fp) bx elt te) (hts : ∀ j ∈ ts, j ∈ own.map (·.2) := by decide) (hs : ∀ x, foldedSetIterable iter X.env x = pure x := by intro _; rfl) (hvs : own.map (·.2) = vs := by rfl) :
    E3 X bx (.ListComp elt [⟨tg, iter, ifs, 0⟩] scope pos) (wLc fi g tt te vs) :=
  hvs ▸   ⟨PE.weaken (pe_lc hc hN hi.pi ok (fun s H C cl fp => (hg s H C cl fp).pg) (fun s H C cl fp => (ht s H C cl fp).pts) (fun s H C cl fp => (he s H C cl fp).pe) hs) (lE_lc hts)⟩
end
end L2.W3

/-! W3, part g: statements, loops, the rule for a def. -/
namespace L2.W3
open PySem PySem.Spec PyProof.Rows

structure Ends3 where
  nx : Env3 → Prop
  rt : R → Prop
  bk : Env3 → Prop := fun _ => False
  ct : Env3 → Prop := fun _ => False
  xc : Value → Env3 → Prop := fun _ _ => False
abbrev WS := Ends3 → Env3 → Prop
/-- the weakest wish about an exception in X -/
def wOf (X : Cx) : WX := fun cls d σ H => ∀ u s', XE X (fun c' d' σ' H' => c' = cls ∧ d' = d ∧ σ' = σ ∧ H' = H) u s' → X.xe u s'
theorem takes_wOf (X : Cx) : Takes X (wOf X) := fun u s' ⟨a, B, sI, pins, σ, H, cls, d, e, I, nb, up, sky, na, os, ag, w⟩ =>
  w u s' ⟨a, B, sI, pins, σ, H, cls, d, e, I, nb, up, sky, na, os, ag, rfl, rfl, rfl, rfl⟩
theorem wOf_of {X : Cx} {W : WX} (tk : Takes X W) {cls : Value} {d : Option Addr} {σ : L2.St} {H : Hp} (w : W cls d σ H) : wOf X cls d σ H := fun u s' ⟨a, B, sI, pins, σ', H', cls', d', e, I, nb, up, sky, na, os, ag, e1, e2, e3, e4⟩ => by
  subst e1; subst e2; subst e3; subst e4
  exact tk u s' ⟨a, B, sI, pins, _, _, _, _, e, I, nb, up, sky, na, os, ag, w⟩
structure EndOk (X : Cx) (bx : Bx) (F G : Hp) (P : Ends3) (D : Ends) : Prop where
  nx : ∀ ρ σ G' H', P.nx ρ → Same G G' → Stt X.K bx F ρ σ G' H' → D.nx σ H'
  bk : ∀ ρ σ G' H', P.bk ρ → Same G G' → Stt X.K bx F ρ σ G' H' → D.bk σ H'
  ct : ∀ ρ σ G' H', P.ct ρ → Same G G' → Stt X.K bx F ρ σ G' H' → D.ct σ H'
  rt : ∀ r v G' H', P.rt r → Same G G' → Fr3 bx F G' H' → RetR X.K bx F G' H' r v → D.rt v H'
  xc : ∀ c ρ σ G' H', P.xc c ρ → Same G G' → Stt X.K bx F ρ σ G' H' → wOf X c none σ H'
def lS (X : Cx) (bx : Bx) (f : WS) : TS := fun D σ H => ∃ F ρ G P, Stt X.K bx F ρ σ G H ∧ f P ρ ∧ EndOk X bx F G P D
structure S3 (X : Cx) (bx : Bx) (st : Stmt) (f : WS) : Prop where
  ps : PS X st (lS X bx f)
structure Ss3 (X : Cx) (bx : Bx) (st : List Stmt) (f : WS) : Prop where
  pss : PSs X st (lS X bx f)
theorem PS.weaken {X : Cx} {e : Stmt} {t t' : TS} (h : PS X e t) (w : ∀ D σ H, t' D σ H → t D σ H) : PS X e t' :=
  ⟨fun pins s σ H D I q => h.run pins s σ H D I (w _ _ _ q)⟩
theorem PSs.weaken {X : Cx} {e : List Stmt} {t t' : TS} (h : PSs X e t) (w : ∀ D σ H, t' D σ H → t D σ H) : PSs X e t' :=
  ⟨fun pins s σ H D I q => h.run pins s σ H D I (w _ _ _ q)⟩
section
variable {K : PySem.W.Frag} {bx : Bx} {F G G' H H' : Hp} {ρ ρ' : Env3} {σ : L2.St} {r : R} {v : V} {p : Addr} {d : D} {P : Ends3} {DD : Ends}
theorem EndOk.mono {X : Cx} (e : EndOk X bx F G P DD) (g : Same G G') : EndOk X bx F G' P DD :=
  ⟨fun ρ σ G2 H2 h g2 st => e.nx ρ σ G2 H2 h (g.trans g2) st, fun ρ σ G2 H2 h g2 st => e.bk ρ σ G2 H2 h (g.trans g2) st, fun ρ σ G2 H2 h g2 st => e.ct ρ σ G2 H2 h (g.trans g2) st, fun r v G2 H2 h g2 st => e.rt r v G2 H2 h (g.trans g2) st, fun c ρ σ G2 H2 h g2 st => e.xc c ρ σ G2 H2 h (g.trans g2) st⟩
end

def wNext : WS := fun P ρ => P.nx ρ
def wSeq (f g : WS) : WS := fun P ρ => f { P with nx := fun ρ1 => g P ρ1 } ρ
section
variable {X : Cx} {bx : Bx} {a b c e tg : Expr} {es tgs : List Expr} {fa fb fc : WE} {fr : WA} {ft : WT} {pos : Pos} {x : Str} {p : Pos} {st : Stmt} {sts body orelse : List Stmt} {f g : WS}
theorem ss_nil : Ss3 X bx [] wNext := ⟨PSs.weaken pss_nil fun D σ H ⟨F, ρ, G, P, st, h, e⟩ => e.nx ρ σ G H h (Same.refl G) st⟩
theorem ss_cons (h1 : S3 X bx st f) (h2 : Ss3 X bx sts g) : Ss3 X bx (st :: sts) (wSeq f g) := by
  refine ⟨PSs.weaken (pss_cons h1.ps h2.pss) fun D σ H ⟨F, ρ, G, P, st, h, e⟩ => ⟨F, ρ, G, _, st, h, fun ρ1 σ1 G1 H1 h1 g1 st1 => ⟨F, ρ1, G1, P, st1, h1, e.mono g1⟩, e.bk, e.ct, e.rt, e.xc⟩⟩
theorem ss_one (h1 : S3 X bx st f) : Ss3 X bx [st] f := ⟨pss_one h1.ps⟩
theorem s_pass : S3 X bx (.Pass pos) wNext := ⟨PS.weaken ps_pass fun D σ H ⟨F, ρ, G, P, st, h, e⟩ => e.nx ρ σ G H h (Same.refl G) st⟩
def wBreak : WS := fun P ρ => P.bk ρ
def wCont : WS := fun P ρ => P.ct ρ
theorem s_break : S3 X bx (.Break pos) wBreak := ⟨PS.weaken ps_break fun D σ H ⟨F, ρ, G, P, st, h, e⟩ => e.bk ρ σ G H h (Same.refl G) st⟩
theorem s_cont : S3 X bx (.Continue pos) wCont := ⟨PS.weaken ps_continue fun D σ H ⟨F, ρ, G, P, st, h, e⟩ => e.ct ρ σ G H h (Same.refl G) st⟩
theorem s_doc {x : Str} {j pos'} : S3 X bx (.Expr (.Constant (.str x) j pos) pos') wNext := ⟨PS.weaken ps_doc fun D σ H ⟨F, ρ, G, P, st, h, e⟩ => e.nx ρ σ G H h (Same.refl G) st⟩
def wExpr (fa : WE) : WS := fun P ρ => fa ρ fun _ ρ1 => P.nx ρ1
theorem s_expr (ha : E3 X bx a fa) (hs : swapsWith a none pos.line X.env = pure false := by rfl) : S3 X bx (.Expr a pos) (wExpr fa) :=
  ⟨PS.weaken (ps_expr ha.pe hs) fun D σ H ⟨F, ρ, G, P, st, h, e⟩ => ⟨F, ρ, G, _, st, h, fun r ρ1 v G1 H1 h1 g1 st1 _ => e.nx ρ1 σ G1 H1 h1 g1 st1⟩⟩
/-- what a def hands back: owned things are given away -/
def giveR (r : R) (ρ : Env3) (k : R → Prop) : Prop :=
  match r with
  | .val d => k (.val d)
  | .new d => k (.new d)
  | .slot i => match ρ[i]? with
    | some (.val d) => k (.val d)
    | some (.own d) => k (.new d)
    | _ => False
def wRet (fa : WE) : WS := fun P ρ => fa ρ fun r ρ1 => giveR r ρ1 P.rt
theorem give_ok {K : PySem.W.Frag} {F G H : Hp} {ρ : Env3} {σ : L2.St} {r : R} {v : V} {k : R → Prop} (st : Stt K bx F ρ σ G H) (rr : RepR K bx F ρ σ G H r v) (h : giveR r ρ k) : ∃ r', k r' ∧ RetR K bx F G H r' v := by
  cases r with
  | val d => exact ⟨_, h, rr⟩
  | new d =>
    obtain ⟨p, rfl, so, _⟩ := rr
    exact ⟨_, h, p, rfl, so⟩
  | slot i =>
    have rr : σ[i]? = some (some v) := rr
    have h : match ρ[i]? with
      | some (.val d) => k (.val d)
      | some (.own d) => k (.new d)
      | _ => False := h
    split at h
    · rename_i d e
      obtain ⟨w, e1, q⟩ := st.vl i d e
      rw [rr] at e1; cases e1
      exact ⟨_, h, q⟩
    · rename_i d e
      obtain ⟨q, e1, t⟩ := st.ow i d e
      rw [rr] at e1; cases e1
      exact ⟨_, h, q, rfl, t⟩
    · exact h.elim
theorem s_ret (ha : E3 X bx a fa) : S3 X bx (.Return (some a) pos) (wRet fa) := by
  refine ⟨PS.weaken (ps_ret ha.pe) fun D σ H ⟨F, ρ, G, P, st, h, e⟩ => ⟨F, ρ, G, _, st, h, fun r ρ1 v G1 H1 h1 g1 st1 rr => ?_⟩⟩
  obtain ⟨r', h2, q⟩ := give_ok st1 rr h1
  exact e.rt r' v G1 H1 h2 g1 st1.toFr3 q
def wRetN : WS := fun P _ => P.rt (.val .non)
theorem s_retN : S3 X bx (.Return none pos) wRetN := ⟨PS.weaken ps_retN fun D σ H ⟨F, ρ, G, P, st, h, e⟩ => e.rt _ _ G H h (Same.refl G) st.toFr3 .non⟩
def wIfS (ft : WT) (f g : WS) : WS := fun P ρ => ft ρ fun c ρ1 => if c = true then f P ρ1 else g P ρ1
theorem s_if (hc : T3 X bx c ft) (h1 : Ss3 X bx body f) (h2 : Ss3 X bx orelse g) : S3 X bx (.If c body orelse pos) (wIfS ft f g) := by
  refine ⟨PS.weaken (ps_if hc.pt h1.pss h2.pss) fun D σ H ⟨F, ρ, G, P, st, h, e⟩ => ⟨F, ρ, G, _, st, h, fun k ρ1 G1 H1 h1 g1 st1 => ?_⟩⟩
  by_cases hb : k = true
  · rw [if_pos hb] at h1 ⊢
    exact ⟨F, ρ1, G1, P, st1, h1, e.mono g1⟩
  · rw [if_neg hb] at h1 ⊢
    exact ⟨F, ρ1, G1, P, st1, h1, e.mono g1⟩

/-! ### stores -/
def setSl (i : Nat) (r : R) (ρ : Env3) (k : Env3 → Prop) : Prop :=
  match r with
  | .val d => k (ρ.set i (.val d))
  | .new d => k (ρ.set i (.own d))
  | .slot j => match ρ[j]? with
    | some (.val d) => k (ρ.set i (.val d))
    | some (.own d) => k ((ρ.set j (.val d)).set i (.val d))
    | _ => False
def wSet (i : Nat) (fa : WE) : WS := fun P ρ => fa ρ fun r ρ1 => setSl i r ρ1 P.nx
theorem set_ok {K : PySem.W.Frag} {F G H : Hp} {ρ : Env3} {σ : L2.St} {r : R} {v : V} {k : Env3 → Prop} (i : Nat) (st : Stt K bx F ρ σ G H) (rr : RepR K bx F ρ σ G H r v) (h : setSl i r ρ k) : ∃ ρ' G', k ρ' ∧ Same G G' ∧ Stt K bx F ρ' (σ.set i (some v)) G' H := by
  cases r with
  | val d => exact ⟨_, G, h, Same.refl G, st.put i rr⟩
  | new d =>
    obtain ⟨p, rfl, so, no⟩ := rr
    exact ⟨_, G, h, Same.refl G, st.putOwn i so no⟩
  | slot j =>
    have rr' : σ[j]? = some (some v) := rr
    have h : match ρ[j]? with
      | some (.val d) => k (ρ.set i (.val d))
      | some (.own d) => k ((ρ.set j (.val d)).set i (.val d))
      | _ => False := h
    split at h
    · rename_i d e
      obtain ⟨w, e1, q⟩ := st.vl j d e
      rw [rr'] at e1; cases e1
      exact ⟨_, G, h, Same.refl G, st.put i q⟩
    · rename_i d e
      have h2 : fz (.slot j) ρ fun d' ρ' => d' = d ∧ ρ' = ρ.set j (.val d) := by
        show match ρ[j]? with
          | some (.val d') => d' = d ∧ ρ = ρ.set j (.val d)
          | some (.own d') => d' = d ∧ ρ.set j (.val d') = ρ.set j (.val d)
          | _ => False
        rw [e]
        exact ⟨rfl, rfl⟩
      obtain ⟨d', ρ', G', ⟨rfl, rfl⟩, g, st', q⟩ := fz_ok st rr h2
      exact ⟨_, G', h, g, st'.put i q⟩
    · exact h.elim
theorem s_set (i : Nat) (hN : X.N.Nodup) (ha : E3 X bx a fa) (hi : X.N[i]? = some x := by rfl) (hx : Loc X.env.scope x := by first | exact Or.inl rfl | exact Or.inr rfl) {pos' : Pos} (hs : swapsWith a (some (.Name x pos')) pos.line X.env = pure false := by rfl) (hf : X.fn x = true ∨ X.env.scope.names.lookup x = some .local := by first | exact .inl rfl | exact .inr rfl) :
    S3 X bx (.Assign [.Name x pos'] a pos) (wSet i fa) := by
  refine ⟨PS.weaken (ps_set hN hi hx ha.pe hs hf) fun D σ H ⟨F, ρ, G, P, st, h, e⟩ => ⟨F, ρ, G, _, st, h, fun r ρ1 v G1 H1 h1 g1 st1 rr => ?_⟩⟩
  obtain ⟨ρ', G', h2, g2, st2⟩ := set_ok i st1 rr h1
  exact e.nx ρ' _ G' H1 h2 (g1.trans g2) st2
/-- name = [..] on one line -/
theorem s_setLc (i : Nat) {py spos : Pos} {elt iter : Expr} {ifs : List Expr} {scope : Scope} {own : List (Str × Nat)} {fi : WI} {g : WG} {tt : WTs} {te : WE} {ts vs : List Nat} (hc : X.calm = true) (hN : X.N.Nodup) (hi : I3 X bx tg iter fi) (ok : BlkOk X.N X.env.scope scope own)
    (hg : ∀ (s : Shared) (H : Hp) (C : Addr) (cl : List (Str × Addr)) (fp : List Addr), G3 (X.blk s H scope (compEnvC scope cl C X.env) fp) bx tg ts g) (ht : ∀ (s : Shared) (H : Hp) (C : Addr) (cl : List (Str × Addr)) (fp : List Addr), Ts3 (X.blk s H scope (compEnvC scope cl C X.env) fp) bx ifs tt)
    (he : ∀ (s : Shared) (H : Hp) (C : Addr) (cl : List (Str × Addr)) (fp : List Addr), E3 (X.blk s H scope (compEnvC scope cl C X.env) fp) bx elt te) (hy : X.N[i]? = some x := by rfl) (hyl : X.env.scope.names.lookup x = some .local := by rfl) (hsw : swapsWith (.ListComp elt [⟨tg, iter, ifs, 0⟩] scope pos) (some (.Name x py)) spos.line X.env = pure true := by exact sw_true rfl rfl rfl (by decide +kernel))
    (hts : ∀ j ∈ ts, j ∈ own.map (·.2) := by decide) (hs : ∀ x, foldedSetIterable iter X.env x = pure x := by intro _; rfl) (hvs : own.map (·.2) = vs := by rfl) :
    S3 X bx (.Assign [.Name x py] (.ListComp elt [⟨tg, iter, ifs, 0⟩] scope pos) spos) (wSet i (wLc fi g tt te vs)) := by
  subst hvs
  refine ⟨PS.weaken (ps_setLc hc hN hy hyl hsw hi.pi ok (fun s H C cl fp => (hg s H C cl fp).pg) (fun s H C cl fp => (ht s H C cl fp).pts) (fun s H C cl fp => (he s H C cl fp).pe) hs) fun D σ H ⟨F, ρ, G, P, st, h, e⟩ => lE_lc hts σ H _ ⟨F, ρ, G, _, st, h, fun r ρ1 v G1 H1 h1 g1 st1 rr => ?_⟩⟩
  obtain ⟨ρ', G', h2, g2, st2⟩ := set_ok i st1 rr h1
  exact e.nx ρ' _ G' H1 h2 (g1.trans g2) st2
/-- target = e -/
def wAsg (fa : WE) (g : WG) : WS := fun P ρ => fa ρ fun r ρ1 => fz r ρ1 fun d ρ2 => g d ρ2 P.nx
theorem s_asg {ts : List Nat} {g : WG} (ha : E3 X bx a fa) (hg : G3 X bx tg ts g) (hs : swapsWithSole [tg] a pos.line X.env = pure false := by rfl) (hw : swappedStores [tg] a X.env = pure none := by rfl) (h1 : (assignEach [tg] X.env).map (·.2) = [assign tg X.env] := by rfl) : S3 X bx (.Assign [tg] a pos) (wAsg fa g) := by
  refine ⟨PS.weaken (ps_asg ha.pe hg.pg hs hw h1) fun D σ H ⟨F, ρ, G, P, st, h, e⟩ => ⟨F, ρ, G, _, st, h, fun r ρ1 v G1 H1 h1 g1 st1 rr => ?_⟩⟩
  obtain ⟨d, ρ2, G2, h2, g2, st2, rd⟩ := fz_ok st1 rr h1
  exact ⟨F, ρ2, G2, d, _, st2, rd, h2, fun ρ3 σ3 G3 H3 h3 g3 st3 _ => e.nx ρ3 σ3 G3 H3 h3 (g1.trans (g2.trans g3)) st3⟩
/-- a, b = x, y -/
def wPar (i j : Nat) (fa : WA) : WS := fun P ρ => fa ρ fun ds ρ1 => match ds with
  | [d1, d2] => P.nx ((ρ1.set i (.val d1)).set j (.val d2))
  | _ => False
theorem s_par (i j : Nat) {y : Str} {px py pt : Pos} {kt k2 : Nat} {pt2 : Pos} (hc : X.calm = true) (hN : X.N.Nodup) (ha : A3 X bx [a, b] fr) (hi : X.N[i]? = some x := by rfl) (hj : X.N[j]? = some y := by rfl) (hij : i ≠ j := by decide)
    (hx : X.env.scope.names.lookup x = some .local := by rfl) (hy : X.env.scope.names.lookup y = some .local := by rfl)
    (hw : swappedStores [.Tuple [.Name x px, .Name y py] kt pt] (.Tuple [a, b] k2 pt2) X.env = pure (some [x, y]) := by rfl)
    (hs : swapsWithSole [.Tuple [.Name x px, .Name y py] kt pt] (.Tuple [a, b] k2 pt2) pos.line X.env = pure false := by rfl) :
    S3 X bx (.Assign [.Tuple [.Name x px, .Name y py] kt pt] (.Tuple [a, b] k2 pt2) pos) (wPar i j fr) := by
  refine ⟨PS.weaken (ps_par (ta := lA X.K bx fr) hc hN hi hj hij hx hy ha.pa hw hs) fun D σ H ⟨F, ρ, G, P, st, h, e⟩ => ⟨F, ρ, G, _, st, h, fun ds ρ1 vs G1 H1 h1 g1 st1 rl => ?_⟩⟩
  split at h1
  · obtain ⟨v, w, rfl, r1, r2⟩ := repL2 rl
    exact ⟨v, w, rfl, e.nx _ _ G1 H1 h1 g1 ((st1.put i r1).put j r2)⟩
  · exact h1.elim
/-- x op= e at a name -/
abbrev IpD (X : Cx) (bx : Bx) (op : Operator) (dop : DOp) : Prop := OpR X (inplaceOp op) (rD X.K bx dop)
def wAug (i : Nat) (dop : DOp) (fa : WE) : WS := fun P ρ => match ρ[i]? with
  | some (.val _) => fa ρ fun r ρ1 => match ρ1[i]? with
    | some (.val d) => pk r ρ1 fun y => dop d y fun r2 => setSl i r2 ρ1 P.nx
    | _ => False
  | _ => False
theorem s_aug (i : Nat) {op : Operator} {dop : DOp} {pos' : Pos} (ho : IpD X bx op dop) (hN : X.N.Nodup) (ha : E3 X bx a fa) (hi : X.N[i]? = some x := by rfl) (hx : Loc X.env.scope x := by first | exact Or.inl rfl | exact Or.inr rfl) (hf : X.fn x = true ∨ X.env.scope.names.lookup x = some .local := by first | exact .inl rfl | exact .inr rfl) :
    S3 X bx (.AugAssign (.Name x pos') op a pos) (wAug i dop fa) := by
  refine ⟨PS.weaken (ps_aug (ti := rD X.K bx dop) hN hi hx ha.pe (fun pins s σ H x y v u Q I r1 r2 h => ho pins s σ H x y v u Q I r1 r2 h) hf) fun D σ H ⟨F, ρ, G, P, st, h, e⟩ => ?_⟩
  have h : match ρ[i]? with
    | some (.val _) => fa ρ fun r ρ1 => match ρ1[i]? with
      | some (.val d) => pk r ρ1 fun y => dop d y fun r2 => setSl i r2 ρ1 P.nx
      | _ => False
    | _ => False := h
  split at h
  · rename_i d0 ed0
    obtain ⟨v, hv, _⟩ := st.vl i d0 ed0
    refine ⟨v, hv, F, ρ, G, _, st, h, fun r ρ1 w G1 H1 h1 g1 st1 rr => ?_⟩
    split at h1
    · rename_i d ed
      obtain ⟨v', e1, q⟩ := st1.vl i d ed
      rw [hv] at e1; cases e1
      obtain ⟨y, h2, vy⟩ := pk_ok st1 rr h1
      exact ⟨G1, d, y, _, st1.gs, .inl q, vy, h2, res_of st1 fun r2 w2 G2 H2 h3 g2 st2 rr2 => by
        obtain ⟨ρ', G', h4, g4, st4⟩ := set_ok i st2 rr2 h3
        exact e.nx ρ' _ G' H2 h4 (g1.trans (g2.trans g4)) st4⟩
    · exact h1.elim
  · exact h.elim

/-! ### loops -/
def wFor (fi : WI) (g : WG) (fb : WS) : WS := fun P ρ => fi ρ fun items ρ1 => ∃ I : Nat → Env3 → Prop, I 0 ρ1 ∧ (∀ i d ρ, items[i]? = some d → I i ρ → g d ρ fun ρ1 => fb { P with nx := I (i + 1), ct := I (i + 1), bk := P.nx } ρ1) ∧ ∀ ρ, I items.length ρ → P.nx ρ
theorem s_for {iter : Expr} {fi : WI} {ts : List Nat} {g : WG} {fb : WS} (hp : PassesOwn (model X.prog X.w) X.A X.env X.xe) (hc : X.calm = true) (hi : I3 X bx tg iter fi) (hg : G3 X bx tg ts g) (hb : Ss3 X bx body fb) (hs : ∀ x, foldedSetIterable iter X.env x = pure x := by intro _; rfl) :
    S3 X bx (.For tg iter body [] pos) (wFor fi g fb) := by
  refine ⟨PS.weaken (ps_for hp hc hi.pi hg.pg hb.pss hs) fun D σ H ⟨F, ρ, G, P, st, h, e⟩ => ⟨F, ρ, G, _, st, h, fun items ρ1 G1 H1 J h1 g1 st1 it => ?_⟩⟩
  obtain ⟨I, h0, hs1, hd1⟩ := h1
  refine ⟨fun i m σ H => m = items.length - i ∧ i ≤ items.length ∧ ∃ ρ2 G2, I i ρ2 ∧ Same G1 G2 ∧ Stt X.K bx F ρ2 σ G2 H, ⟨items.length, rfl, Nat.zero_le _, ρ1, G1, h0, Same.refl G1, st1⟩, ?_⟩
  rintro i m σ2 H2 ⟨rfl, hi, ρ2, G2, hgo, g2, st2⟩
  by_cases hlt : i < items.length
  · refine .inr ⟨it.go i H2 (g2.trans st2.gs) hlt, fun σ' H' => i + 1 ≤ items.length ∧ ∃ ρ2 G2, I (i + 1) ρ2 ∧ Same G1 G2 ∧ Stt X.K bx F ρ2 σ' G2 H', fun σ' H' hN => ⟨items.length - (i + 1), by omega, rfl, hN⟩, fun x H' hy => ?_⟩
    obtain ⟨d, G3, hd, g3, st3, rd⟩ := item_st rfl it g2 st2 hlt hy
    have e3 := e.mono (g1.trans (g2.trans g3))
    refine ⟨F, ρ2, G3, d, _, st3, rd, hs1 i d ρ2 hd hgo, fun ρ4 σ4 G4 H4 h4 g4 st4 _ => ⟨F, ρ4, G4, _, st4, h4, fun ρ5 σ5 G5 H5 h5 g5 st5 => ?_, fun ρ5 σ5 G5 H5 h5 g5 st5 => e3.nx ρ5 σ5 G5 H5 h5 (g4.trans g5) st5, fun ρ5 σ5 G5 H5 h5 g5 st5 => ?_, fun r v G5 H5 h5 g5 fr5 => e3.rt r v G5 H5 h5 (g4.trans g5) fr5, fun c ρ5 σ5 G5 H5 h5 g5 st5 => e3.xc c ρ5 σ5 G5 H5 h5 (g4.trans g5) st5⟩⟩
    · exact ⟨by omega, ρ5, G5, h5, g2.trans (g3.trans (g4.trans g5)), st5⟩
    · exact ⟨by omega, ρ5, G5, h5, g2.trans (g3.trans (g4.trans g5)), st5⟩
  · have ei : i = items.length := by omega
    subst ei
    exact .inl ⟨it.stop _ H2 (g2.trans st2.gs) (Nat.le_refl _), e.nx ρ2 σ2 G2 H2 (hd1 ρ2 hgo) (g1.trans g2) st2⟩
/-- a while by its invariant and measure -/
def wWhile (ft : WT) (fb : WS) : WS := fun P ρ => ∃ W : Nat → Env3 → Prop, (∃ m, W m ρ) ∧ ∀ m ρ, W m ρ → ft ρ fun c ρ1 => if c = true then fb { P with nx := fun ρ2 => ∃ m', m' < m ∧ W m' ρ2, ct := fun ρ2 => ∃ m', m' < m ∧ W m' ρ2, bk := P.nx } ρ1 else P.nx ρ1
theorem s_while {fb : WS} (hp : PassesOwn (model X.prog X.w) X.A X.env X.xe) (hc : T3 X bx c ft) (hb : Ss3 X bx body fb) : S3 X bx (.While c body [] pos) (wWhile ft fb) := by
  refine ⟨PS.weaken (ps_while hp hc.pt hb.pss) fun D σ H ⟨F, ρ, G, P, st, ⟨W, ⟨m0, w0⟩, turn⟩, e⟩ => ?_⟩
  refine ⟨fun m σ H => ∃ ρ1 G1, W m ρ1 ∧ Same G G1 ∧ Stt X.K bx F ρ1 σ G1 H, ⟨m0, ρ, G, w0, Same.refl G, st⟩, ?_⟩
  rintro m σ1 H1 ⟨ρ1, G1, w1, g1, st1⟩
  refine ⟨F, ρ1, G1, _, st1, turn m ρ1 w1, fun k ρ2 G2 H2 h2 g2 st2 => ?_⟩
  have e2 := e.mono (g1.trans g2)
  by_cases hb : k = true
  · rw [if_pos hb] at h2
    show if k = true then _ else _
    rw [if_pos hb]
    refine ⟨fun σ' H' => ∃ m', m' < m ∧ ∃ ρ1 G1, W m' ρ1 ∧ Same G G1 ∧ Stt X.K bx F ρ1 σ' G1 H', fun σ' H' ⟨m', hm, q⟩ => ⟨m', hm, q⟩, F, ρ2, G2, _, st2, h2, ?_, ?_, ?_, ?_, ?_⟩
    · intro ρ3 σ3 G3 H3 ⟨m', hm, w3⟩ g3 st3
      exact ⟨m', hm, ρ3, G3, w3, g1.trans (g2.trans g3), st3⟩
    · exact fun ρ3 σ3 G3 H3 h3 g3 st3 => e2.nx ρ3 σ3 G3 H3 h3 g3 st3
    · intro ρ3 σ3 G3 H3 ⟨m', hm, w3⟩ g3 st3
      exact ⟨m', hm, ρ3, G3, w3, g1.trans (g2.trans g3), st3⟩
    · exact fun r v G3 H3 h3 g3 fr3 => e2.rt r v G3 H3 h3 g3 fr3
    · exact fun c ρ3 σ3 G3 H3 h3 g3 st3 => e2.xc c ρ3 σ3 G3 H3 h3 g3 st3
  · rw [if_neg hb] at h2
    show if k = true then _ else _
    rw [if_neg hb]
    exact e2.nx ρ2 σ1 G2 H2 h2 (Same.refl G2) st2

/-! ### owned lists: append, extend, pop, stores -/
def onLst (i : Nat) (ρ : Env3) (k : List D → Prop) : Prop :=
  match ρ[i]? with
  | some (.own (.lst l)) => k l
  | _ => False
/-- the list in slot i changed -/
theorem own_write {K : PySem.W.Frag} {F G H : Hp} {ρ : Env3} {σ : L2.St} {i : Nat} {l l' : List D} {p : Addr} {vs' : List V} (st : Stt K bx F ρ σ G H) (h : ρ[i]? = some (Sl.own (.lst l))) (hp : σ[i]? = some (some (V.ref p))) (r : RepL K bx.adr G vs' l') :
    Stt K bx F (ρ.set i (.own (.lst l'))) σ G (upd H p (.lst vs')) := by
  obtain ⟨q, e1, t, gp, fp, bp⟩ := st.ow i _ h
  rw [hp] at e1; cases e1
  have hi : i < ρ.length := (List.getElem?_eq_some_iff.mp h).1
  have own : ∀ j q d', (ρ.set i (.own (.lst l')))[j]? = some (Sl.own d') → σ[j]? = some (some (V.ref q)) → (j = i ∧ q = p ∧ d' = .lst l') ∨ (j ≠ i ∧ q ≠ p ∧ ρ[j]? = some (Sl.own d')) := fun j q d' e e1 => by
    rcases get_set e with ⟨rfl, e, _⟩ | ⟨hj, e⟩
    · cases e
      rw [hp] at e1; cases e1
      exact .inl ⟨rfl, rfl, rfl⟩
    · refine .inr ⟨hj, fun hq => hj ?_, e⟩
      subst hq
      exact st.dj j i q ⟨⟨_, e⟩, e1⟩ ⟨⟨_, h⟩, hp⟩
  refine ⟨⟨fun a u e => ?_, fun a u e => ?_, st.fg, bx.loc H _ (fun a ha => upd_ne (fun e => bp (e ▸ ha))) st.bi, st.bg⟩, by simp [st.len], fun j d' e => ?_, fun j d' e => ?_, fun j k q ⟨⟨d1, h1⟩, e1⟩ ⟨⟨d2, h2⟩, e2⟩ => ?_⟩
  · rw [upd_ne (ne_of_none e gp)]; exact st.gs a u e
  · rw [upd_ne (ne_of_none e fp)]; exact st.fs a u e
  · rcases get_set e with ⟨rfl, e, _⟩ | ⟨hj, e⟩
    · cases e
    · exact st.vl j d' e
  · rcases get_set e with ⟨rfl, e, _⟩ | ⟨hj, e⟩
    · cases e
      exact ⟨p, hp, .lst upd_same r, gp, fp, bp⟩
    · obtain ⟨q, e1, t1, e2⟩ := st.ow j d' e
      have hq : q ≠ p := fun hq => by
        subst hq
        exact hj (st.dj j i q ⟨⟨_, e⟩, e1⟩ ⟨⟨_, h⟩, hp⟩)
      exact ⟨q, e1, t1.heap (upd_ne hq), e2⟩
  · rcases own j q d1 h1 e1 with ⟨rfl, rfl, rfl⟩ | ⟨hj, hq, o1⟩
    · rcases own k _ d2 h2 e2 with ⟨rfl, _⟩ | ⟨_, hq2, _⟩
      · rfl
      · exact absurd rfl hq2
    · rcases own k q d2 h2 e2 with ⟨_, hq2, _⟩ | ⟨_, _, o2⟩
      · exact absurd hq2 hq
      · exact st.dj j k q ⟨⟨_, o1⟩, e1⟩ ⟨⟨_, o2⟩, e2⟩
theorem own_lst {K : PySem.W.Frag} {F G H : Hp} {ρ : Env3} {σ : L2.St} {i : Nat} {k : List D → Prop} (st : Stt K bx F ρ σ G H) (h : onLst i ρ k) : ∃ l p vs, k l ∧ ρ[i]? = some (Sl.own (.lst l)) ∧ σ[i]? = some (some (V.ref p)) ∧ H p = some (.lst vs) ∧ RepL K bx.adr G vs l := by
  unfold onLst at h
  split at h
  · rename_i l e
    obtain ⟨p, e1, t, _⟩ := st.ow i _ e
    cases t with
    | lst hp r => exact ⟨l, p, _, h, e, e1, hp, r⟩
  · exact h.elim
def wApp (i : Nat) (fa : WE) : WE := fun ρ Q => onLst i ρ fun _ => fa ρ fun r ρ1 => fz r ρ1 fun d ρ2 => onLst i ρ2 fun l => l.length < sizeLine ∧ Q (.val .non) (ρ2.set i (.own (.lst (l ++ [d]))))
theorem e_app (i : Nat) {apos cpos npos : Pos} (ha : E3 X bx a fa) (hi : X.N[i]? = some x := by rfl) (hv : Vis X.env.scope x := by first | exact Or.inl rfl | exact Or.inr (Or.inl rfl) | exact Or.inr (Or.inr rfl)) (hd : (x == ("__debug__" : Str)) = false := by decide) (hcd : (x == ("__classdict__" : Str)) = false := by decide)
    (hbase : attributeBase (.Name x npos) "append" X.env (eval (.Name x npos) X.env) = eval (.Name x npos) X.env := by rfl) (hfew : ((backTo cpos (starEach [a] X.env)).all (fun x => !x.1) && (backToKw cpos (keywordEach [] X.env)).all (fun x => x.1.isSome) && decide ([a].length + ([] : List Keyword).length + (if ([] : List Keyword).isEmpty then 0 else 1) < 30)) = true := by rfl)
    (hline : (apos.endLine == cpos.line) = true := by rfl) (hs : starEach [a] X.env = (false, eval a X.env) :: starEach [] X.env := by rfl) : E3 X bx (.Call (.Attribute (.Name x npos) "append" apos) [a] [] cpos) (wApp i fa) := by
  refine ⟨PE.weaken (pe_bm PySem.F.plainAttrs_list PySem.F.slot_list_append PySem.F.type_list_append mt_append (pv i hi hv hd hcd) (pa_cons ha.pe pa_nil hs) hbase hfew hline hs rfl) fun σ H Q ⟨F, ρ, G, P, st, h, hQ⟩ => ?_⟩
  obtain ⟨l, p, vs, h, e, e1, hp, r⟩ := own_lst st h
  refine ⟨_, e1, .inl ⟨rfl, _, .inl (.inl hp)⟩, F, ρ, G, _, st, h, fun r1 ρ1 v G1 H1 h1 g1 st1 rr => ?_⟩
  obtain ⟨d, ρ2, G2, h2, g2, st2, rd⟩ := fz_ok st1 rr h1
  obtain ⟨l2, q, vs2, ⟨h3, h4⟩, e2, e3, hq, r2⟩ := own_lst st2 h2
  rw [e1] at e3; cases e3
  refine ⟨p, vs2, v, rfl, rfl, hq, by rw [r2.length]; exact h3, ?_⟩
  exact hQ _ _ _ _ _ h4 (g1.trans g2) (own_write st2 e2 e1 (r2.append (.cons rd .nil))) .non
/-- xs.extend(list) -/
def wExt (i : Nat) (fa : WE) : WE := fun ρ Q => onLst i ρ fun _ => fa ρ fun r ρ1 => pk r ρ1 fun d => match d with
  | .lst m => onLst i ρ1 fun l => l.length + m.length ≤ sizeLine ∧ Q (.val .non) (ρ1.set i (.own (.lst (l ++ m))))
  | _ => False
theorem e_ext (i : Nat) {apos cpos npos : Pos} (ha : E3 X bx a fa) (hi : X.N[i]? = some x := by rfl) (hv : Vis X.env.scope x := by first | exact Or.inl rfl | exact Or.inr (Or.inl rfl) | exact Or.inr (Or.inr rfl)) (hd : (x == ("__debug__" : Str)) = false := by decide) (hcd : (x == ("__classdict__" : Str)) = false := by decide)
    (hbase : attributeBase (.Name x npos) "extend" X.env (eval (.Name x npos) X.env) = eval (.Name x npos) X.env := by rfl) (hfew : ((backTo cpos (starEach [a] X.env)).all (fun x => !x.1) && (backToKw cpos (keywordEach [] X.env)).all (fun x => x.1.isSome) && decide ([a].length + ([] : List Keyword).length + (if ([] : List Keyword).isEmpty then 0 else 1) < 30)) = true := by rfl)
    (hline : (apos.endLine == cpos.line) = true := by rfl) (hs : starEach [a] X.env = (false, eval a X.env) :: starEach [] X.env := by rfl) : E3 X bx (.Call (.Attribute (.Name x npos) "extend" apos) [a] [] cpos) (wExt i fa) := by
  refine ⟨PE.weaken (pe_bm PySem.F.plainAttrs_list PySem.F.slot_list_extend PySem.F.type_list_extend mt_extend (pv i hi hv hd hcd) (pa_cons ha.pe pa_nil hs) hbase hfew hline hs rfl) fun σ H Q ⟨F, ρ, G, P, st, h, hQ⟩ => ?_⟩
  obtain ⟨l, p, vs, h, e, e1, hp, r⟩ := own_lst st h
  refine ⟨_, e1, .inl ⟨rfl, _, .inl (.inl hp)⟩, F, ρ, G, _, st, h, fun r1 ρ1 v G1 H1 h1 g1 st1 rr => ?_⟩
  obtain ⟨d, h2, vd⟩ := pk_ok st1 rr h1
  split at h2
  · obtain ⟨q, ws, rfl, hq, rq⟩ := view_lst st1.gs vd
    obtain ⟨l2, q2, vs2, ⟨h3, h4⟩, e2, e3, hq2, r2⟩ := own_lst st1 h2
    rw [e1] at e3; cases e3
    refine ⟨p, q, vs2, ws, rfl, rfl, hq2, hq, by rw [r2.length, rq.length]; exact h3, ?_⟩
    exact hQ _ _ _ _ _ h4 g1 (own_write st1 e2 e1 (r2.append rq)) .non
  · exact h2.elim
/-- xs.pop() -/
def wPop (i : Nat) : WE := fun ρ Q => onLst i ρ fun l => ∃ d, l[l.length - 1]? = some d ∧ Q (.val d) (ρ.set i (.own (.lst l.dropLast)))
theorem e_pop (i : Nat) {apos cpos npos : Pos} (hi : X.N[i]? = some x := by rfl) (hv : Vis X.env.scope x := by first | exact Or.inl rfl | exact Or.inr (Or.inl rfl) | exact Or.inr (Or.inr rfl)) (hd : (x == ("__debug__" : Str)) = false := by decide) (hcd : (x == ("__classdict__" : Str)) = false := by decide)
    (hbase : attributeBase (.Name x npos) "pop" X.env (eval (.Name x npos) X.env) = eval (.Name x npos) X.env := by rfl) (hline : (apos.endLine == cpos.line) = true := by rfl) : E3 X bx (.Call (.Attribute (.Name x npos) "pop" apos) [] [] cpos) (wPop i) := by
  refine ⟨PE.weaken (pe_bm0 PySem.F.plainAttrs_list PySem.F.slot_list_pop PySem.F.type_list_pop mt_pop (pv i hi hv hd hcd) hbase hline) fun σ H Q ⟨F, ρ, G, P, st, h, hQ⟩ => ?_⟩
  obtain ⟨l, p, vs, h, e, e1, hp, r⟩ := own_lst st h
  obtain ⟨d, ed, h⟩ := h
  obtain ⟨v, hv2, q⟩ := r.get ed
  rw [← r.length] at hv2
  refine ⟨_, e1, .inl ⟨rfl, _, .inl (.inl hp)⟩, p, vs, v, rfl, rfl, hp, hv2, ?_⟩
  exact hQ _ _ _ _ _ h (Same.refl G) (own_write st e e1 r.dropLast) q
/-- xs[k] = e -/
def wPutIx (i : Nat) (fk fa : WE) : WS := fun P ρ => fa ρ fun r ρ1 => fz r ρ1 fun d ρ2 => onLst i ρ2 fun _ => fk ρ2 fun rk ρ3 => pk rk ρ3 fun k => asI k fun k => onLst i ρ3 fun l => ∃ j, ixN l.length k = some j ∧ P.nx (ρ3.set i (.own (.lst (l.set j d))))
theorem s_putIx (i : Nat) {npos tpos : Pos} (hk : E3 X bx b fb) (ha : E3 X bx a fa) (hi : X.N[i]? = some x := by rfl) (hv : Vis X.env.scope x := by first | exact Or.inl rfl | exact Or.inr (Or.inl rfl) | exact Or.inr (Or.inr rfl)) (hd : (x == ("__debug__" : Str)) = false := by decide) (hcd : (x == ("__classdict__" : Str)) = false := by decide)
    (has : ∀ v, assign (.Subscript (.Name x npos) b tpos) X.env v = (do
      let ov ← holding [v] (eval (.Name x npos) X.env)
      let iv ← holding [v, ov] (eval b X.env)
      standAt tpos
      holding [v, ov, iv] (setItem ov iv v)
      release [v, ov, iv] []) := by intro _; rfl)
    (hs : swapsWithSole [.Subscript (.Name x npos) b tpos] a pos.line X.env = pure false := by rfl) (hw : swappedStores [.Subscript (.Name x npos) b tpos] a X.env = pure none := by rfl) (h1 : (assignEach [.Subscript (.Name x npos) b tpos] X.env).map (·.2) = [assign (.Subscript (.Name x npos) b tpos) X.env] := by rfl) :
    S3 X bx (.Assign [.Subscript (.Name x npos) b tpos] a pos) (wPutIx i fb fa) := by
  refine ⟨PS.weaken (ps_asg ha.pe (pg_sub (pv i hi hv hd hcd) hk.pe set_list has) hs hw h1) fun D σ H ⟨F, ρ, G, P, st, h, e⟩ => ⟨F, ρ, G, _, st, h, fun r ρ1 v G1 H1 h1 g1 st1 rr => ?_⟩⟩
  obtain ⟨d, ρ2, G2, h2, g2, st2, rd⟩ := fz_ok st1 rr h1
  obtain ⟨l, p, vs, h2, eo, e1, hp, rl⟩ := own_lst st2 h2
  refine ⟨_, e1, F, ρ2, G2, _, st2, h2, fun rk ρ3 w G3 H3 h3 g3 st3 rr3 => ?_⟩
  obtain ⟨k, h4, vk⟩ := pk_ok st3 rr3 h3
  cases k <;> first
    | exact (show False from h4).elim
    | skip
  rename_i k
  obtain rfl := view_int vk
  have h4 : onLst i ρ3 fun l => ∃ j, ixN l.length k = some j ∧ P.nx (ρ3.set i (.own (.lst (l.set j d)))) := h4
  obtain ⟨l2, q, vs2, h5, eo2, e3, hq, r2⟩ := own_lst st3 h4
  rw [e1] at e3; cases e3
  obtain ⟨j, ej, h5⟩ := h5
  refine ⟨p, vs2, k, j, rfl, rfl, hq, by rw [r2.length]; exact ej, ?_⟩
  exact e.nx _ _ _ _ h5 (g1.trans (g2.trans g3)) (own_write st3 eo2 e1 (r2.set j (rd.mono g3)))
end

/-! ### a def keeps its promise -/
section
variable {P : Program} {w : World} {K : PySem.W.Frag} {mg : Str → Option Value} {base : Heap} {bx : Bx}
def start3 (N : List Str) (ds : List D) : Env3 := ds.map Sl.val ++ List.replicate (N.length - ds.length) Sl.un
theorem start_st {F G H : Hp} {N : List Str} {vs : List V} {ds : List D} (fr : Fr3 bx F G H) (r : RepL K bx.adr G vs ds) : Stt K bx F (start3 N ds) (start N vs) G H := by
  have hl := r.length
  have noown : ∀ (i : Nat) (d : D), (start3 N ds)[i]? ≠ some (Sl.own d) := fun i d e => by
    unfold start3 at e
    have hm := List.mem_of_getElem? e
    rcases List.mem_append.mp hm with h | h
    · obtain ⟨x, _, hx⟩ := List.mem_map.mp h
      cases hx
    · have := (List.mem_replicate.mp h).2
      cases this
  refine ⟨fr, ?_, fun i d e => ?_, fun i d e => absurd e (noown i d), fun i j p ⟨⟨d, e⟩, _⟩ _ => absurd e (noown i d)⟩
  · simp [start3, start, hl]
  · unfold start3 at e
    by_cases hi : i < ds.length
    · rw [List.getElem?_append_left (by simpa using hi), List.getElem?_map] at e
      cases ed : ds[i]? with
      | none => rw [ed] at e; cases e
      | some d' =>
        rw [ed] at e
        have : d' = d := by simpa using e
        subst this
        obtain ⟨v, hv, q⟩ := r.get ed
        refine ⟨v, ?_, q⟩
        unfold start
        rw [List.getElem?_append_left (by rw [List.length_map, hl]; exact hi), List.getElem?_map, hv]
        rfl
    · rw [List.getElem?_append_right (by simpa using hi), List.getElem?_replicate] at e
      split at e <;> cases e
theorem def3 {x qual : Str} {st : Stmt} {f : Addr} {fd : FuncData} {N ps : List Str} {k : Nat} {C : Con} (F : Fun K x qual st f fd) (S : FnScope N ps (defScope st)) (len : ∀ ds Q, C ds Q → ds.length = ps.length) {fb : WS}
    (hbody : ∀ (cdv : Value) (A : Around) (outer : List Env) (s : Shared) (H : Hp) (E : XK), Room k (A.deeper (envOfC qual (defScope st) s.heap.objs.size f cdv)) → Ss3 (cxOf CX0 P w K mg base N qual (defScope st) f cdv A outer s H E).nox bx (defBody st) fb)
    (hvc : ∀ ds Q, C ds Q → fb { nx := fun _ => Q (.val .non), rt := Q } (start3 N ds)) : FnOk P w K mg base CX0 (k + 1) f fd ps (spOf K bx C) := by
  refine F.ok S (fun vs H Q E ⟨F, G, ds, P, fr, r, h, hQ⟩ => by rw [r.length]; exact len ds P h) fun cdv A outer s H vs Q E hr ⟨Fr, G, ds, P, fr, r, h, hQ⟩ => ⟨_, (hbody cdv A outer s H E hr).pss, ?_⟩
  refine ⟨Fr, start3 N ds, G, _, start_st fr r, hvc ds P h, ⟨fun ρ σ G' H' h g st => hQ _ _ G' H' h g st.toFr3 .non, fun ρ σ G' H' h g st => h.elim, fun ρ σ G' H' h g st => h.elim, fun r v G' H' h g fr rr => hQ r v G' H' h g fr rr, fun c ρ σ G' H' h g st => h.elim⟩⟩
end
end L2.W3

/-! W3, part h: texts, more stores. -/
namespace L2.W3
open PySem PySem.Spec PyProof.Rows

/-! ### joined texts -/
def isStr : D → Bool
  | .str _ => true
  | _ => false
def strOf : D → List Nat
  | .str s => s
  | _ => []
def joinS (S : List Nat) : List (List Nat) → List Nat
  | [] => []
  | [p] => p
  | p :: q :: r => p ++ (S ++ joinS S (q :: r))
theorem joinS_nil : ∀ l : List (List Nat), joinS [] l = l.flatten
  | [] => rfl
  | [p] => by simp [joinS]
  | p :: q :: r => by rw [joinS, joinS_nil (q :: r)]; simp
theorem RepL.strs {K : PySem.W.Frag} {B : Addr} {G : Hp} : ∀ {vs : List V} {ds : List D}, RepL K B G vs ds → ds.all isStr = true → vs = (ds.map fun d => (⟨(strOf d).toArray⟩ : Str)).map V.str ∧ ∀ d ∈ ds, okS (strOf d) = true
  | _, _, .nil, _ => ⟨rfl, fun _ h => nomatch h⟩
  | _, _, .cons (d := d) a r, h => by
    rw [List.all_cons, Bool.and_eq_true] at h
    cases d <;> first
      | exact absurd (show false = true from h.1) (by decide)
      | skip
    cases a with
    | str o =>
      obtain ⟨e, f⟩ := RepL.strs r h.2
      refine ⟨by rw [e]; rfl, fun d hd => ?_⟩
      rcases List.mem_cons.mp hd with rfl | hd
      · exact o
      · exact f d hd
theorem okS_join {S : List Nat} (hS : okS S = true) : ∀ {l : List (List Nat)}, (∀ p ∈ l, okS p = true) → okS (joinS S l) = true
  | [], _ => rfl
  | [p], h => h p List.mem_cons_self
  | p :: q :: r, h => by
    rw [joinS]
    exact okS_append (h p List.mem_cons_self) (okS_append hS (okS_join hS fun x hx => h x (List.mem_cons_of_mem _ hx)))
theorem str_join (S : List Nat) : ∀ l : List (List Nat), Str.join ⟨S.toArray⟩ (l.map fun p => (⟨p.toArray⟩ : Str)) = ⟨(joinS S l).toArray⟩
  | [] => rfl
  | [p] => rfl
  | p :: q :: r => by
    have ih := str_join S (q :: r)
    show (⟨p.toArray⟩ : Str) ++ ⟨S.toArray⟩ ++ Str.join ⟨S.toArray⟩ ((q :: r).map fun p => (⟨p.toArray⟩ : Str)) = _
    rw [ih, str_app, str_app, joinS, List.append_assoc]
theorem txt_join (S : List Nat) (l : List (List Nat)) : Txt.join ⟨S.toArray⟩ (l.map fun p => (⟨p.toArray⟩ : Str)) = ⟨(joinS S l).toArray⟩ := by
  rw [TL.join_eq, str_join]
def joinD : DOp
  | .str S, .lst l, P => l.all isStr = true ∧ (l.map fun d => (strOf d).length).sum + l.length * S.length ≤ 16777216 ∧ P (.val (.str (joinS S (l.map strOf))))
  | .str S, .tup l, P => l.all isStr = true ∧ (l.map fun d => (strOf d).length).sum + l.length * S.length ≤ 16777216 ∧ P (.val (.str (joinS S (l.map strOf))))
  | _, _, _ => False
section
variable {X : Cx} {bx : Bx} {a b c e tg : Expr} {es tgs : List Expr} {fa fb fc : WE} {fr : WA} {ft : WT} {pos : Pos} {x : Str} {p : Pos}
theorem opD_join {pins : List (Addr × Obj)} {s : Shared} {σ : L2.St} {H : Hp} {x y : V} {v u : Value} {Q : VK} (I : Inv X pins σ H s) (rx : RelV x v) (ry : RelV y u) (h : rD X.K bx joinD x y H Q) : wpAny (model X.prog X.w) X.A (call (.builtin "str.join") [v, u]) (EP X pins σ Q) X.xe s := by
  obtain ⟨G, d1, d2, P, g, v1, v2, h, R⟩ := h
  have key : ∀ (S : List Nat) (l : List D) (a : Addr) (vs : List V), okS S = true → RepL X.K bx.adr G vs l → l.all isStr = true → (l.map fun d => (strOf d).length).sum + l.length * S.length ≤ 16777216 → P (.val (.str (joinS S (l.map strOf)))) → x = .str ⟨S.toArray⟩ → y = .ref a → (SqL X.K H a vs ∨ SqT X.K H a vs) →
      wpAny (model X.prog X.w) X.A (call (.builtin "str.join") [v, u]) (EP X pins σ Q) X.xe s := by
    intro S l a vs o r hs hl hp ex ey hq
    subst ex ey
    obtain ⟨ev, ok⟩ := r.strs hs
    subst ev
    refine mt_join pins s σ H _ [.ref a] v [u] Q I rx (.cons ry .nil) ⟨_, a, _, rfl, rfl, hq, ?_, ?_⟩
    · rw [List.map_map, List.length_map, str_len]
      have e : (l.map ((fun x : Str => x.length) ∘ fun d => (⟨(strOf d).toArray⟩ : Str))) = l.map fun d => (strOf d).length := List.map_congr_left fun d _ => str_len _
      rw [e]
      exact hl
    · have e : (l.map fun d => (⟨(strOf d).toArray⟩ : Str)) = (l.map strOf).map fun p => (⟨p.toArray⟩ : Str) := by rw [List.map_map]; rfl
      rw [e, txt_join]
      refine R.val _ _ hp (.str (okS_join o fun p hp => ?_))
      obtain ⟨d, hd, rfl⟩ := List.mem_map.mp hp
      exact ok d hd
  unfold joinD at h
  split at h
  · obtain ⟨ex, o⟩ := view_str v1
    obtain ⟨a, vs, ey, s1, r1⟩ := view_lst g v2
    exact key _ _ a vs o r1 h.1 h.2.1 h.2.2 ex ey (.inl (.inl (.inl s1)))
  · obtain ⟨ex, o⟩ := view_str v1
    obtain ⟨a, vs, ey, s1, r1, _⟩ := view_tup g v2
    exact key _ _ a vs o r1 h.1 h.2.1 h.2.2 ex ey (.inr s1)
  · exact h.elim
/-- a method of a text with one argument -/
def wStrM (dop : DOp) (fa fb : WE) : WE := fun ρ Q => fa ρ fun r1 ρ1 => match r1 with
  | .val (.str s) => fb ρ1 fun r2 ρ2 => pk r2 ρ2 fun y => dop (.str s) y fun r => Q r ρ2
  | _ => False
theorem e_strM1 {name : Str} {id : String} {dop : DOp} {apos cpos : Pos} (slot : Slot "str" name id) (hty : typeOf (.builtin id) = pure (.type "method_descriptor"))
    (hop : ∀ (pins : List (Addr × Obj)) (s : Shared) (σ : L2.St) (H : Hp) (x y : V) (v u : Value) (Q : VK), Inv X pins σ H s → RelV x v → RelV y u → rD X.K bx dop x y H Q → wpAny (model X.prog X.w) X.A (call (.builtin id) [v, u]) (EP X pins σ Q) X.xe s)
    (ha : E3 X bx a fa) (hb : E3 X bx b fb)
    (hbase : attributeBase a name X.env (eval a X.env) = eval a X.env := by rfl) (hfew : ((backTo cpos (starEach [b] X.env)).all (fun x => !x.1) && (backToKw cpos (keywordEach [] X.env)).all (fun x => x.1.isSome) && decide ([b].length + ([] : List Keyword).length + (if ([] : List Keyword).isEmpty then 0 else 1) < 30)) = true := by rfl)
    (hline : (apos.endLine == cpos.line) = true := by rfl) (hs : starEach [b] X.env = (false, eval b X.env) :: starEach [] X.env := by rfl) : E3 X bx (.Call (.Attribute a name apos) [b] [] cpos) (wStrM dop fa fb) := by
  refine ⟨PE.weaken (pe_bm (r := fun x xs H Q => ∃ y, xs = [y] ∧ rD X.K bx dop x y H Q) PySem.F.plainAttrs_str slot hty (fun pins s σ H x xs v us Q I rx rxs ⟨y, ey, h⟩ => ?_) ha.pe (pa_cons hb.pe pa_nil hs) hbase hfew hline hs rfl) fun σ H Q ⟨F, ρ, G, P, st, hf, hQ⟩ => ⟨F, ρ, G, _, st, hf, fun r1 ρ1 w1 G1 H1 h1 g1 st1 rr1 => ?_⟩⟩
  · subst ey
    cases rxs with
    | cons r rr =>
      cases rr
      exact hop pins s σ H x y v _ Q I rx r h
  · split at h1
    · rename_i z
      cases rr1 with
      | str o =>
        refine ⟨rfl, F, ρ1, G1, _, st1, h1, fun r2 ρ2 w2 G2 H2 h2 g2 st2 rr2 => ⟨w2, rfl, ?_⟩⟩
        obtain ⟨y, h3, vy⟩ := pk_ok st2 rr2 h2
        exact ⟨G2, .str z, y, _, st2.gs, .inl (.str o), vy, h3, res_of st2 fun r w G3 H3 h g st3 rr => hQ r ρ2 w G3 H3 h (g1.trans (g2.trans g)) st3 rr⟩
    · exact h1.elim
theorem e_join {apos cpos : Pos} (ha : E3 X bx a fa) (hb : E3 X bx b fb)
    (hbase : attributeBase a "join" X.env (eval a X.env) = eval a X.env := by rfl) (hfew : ((backTo cpos (starEach [b] X.env)).all (fun x => !x.1) && (backToKw cpos (keywordEach [] X.env)).all (fun x => x.1.isSome) && decide ([b].length + ([] : List Keyword).length + (if ([] : List Keyword).isEmpty then 0 else 1) < 30)) = true := by rfl)
    (hline : (apos.endLine == cpos.line) = true := by rfl) (hs : starEach [b] X.env = (false, eval b X.env) :: starEach [] X.env := by rfl) : E3 X bx (.Call (.Attribute a "join" apos) [b] [] cpos) (wStrM joinD fa fb) :=
  e_strM1 PySem.F.slot_str_join PySem.F.type_str_join (fun pins s σ H x y v u Q I rx ry h => opD_join I rx ry h) ha hb hbase hfew hline hs

/-! ### s.find(t, i) -/
/-- the first place from i on at which t stands in s, or -1 -/
def stands (t s : List Nat) (k : Nat) : Bool := (s.drop k).take t.length == t
def findFrom (s t : List Nat) (i : Nat) : Int := match ((List.range (s.length + 1)).filter fun k => decide (i ≤ k) && stands t s k).head? with
  | some k => (k : Int)
  | none => -1
theorem filter_head {p : Nat → Bool} {n i : Nat} (hi : i < n) (hp : p i = true) (hno : ∀ k, k < i → p k = false) : ((List.range n).filter p).head? = some i := by
  have e : List.range n = List.range i ++ (List.range' i (n - i)) := by
    have h0 : n = i + (n - i) := by omega
    rw [h0, List.range_add, List.range'_eq_map_range]
    congr 1
    rw [Nat.add_sub_cancel_left]
  have e2 : List.range' i (n - i) = i :: List.range' (i + 1) (n - i - 1) := by
    obtain ⟨m, hm⟩ : ∃ m, n - i = m + 1 := ⟨n - i - 1, by omega⟩
    rw [hm, List.range'_succ]; rfl
  rw [e, List.filter_append, e2, List.filter_cons_of_pos hp]
  have e3 : (List.range i).filter p = [] := by
    rw [List.filter_eq_nil_iff]
    intro k hk
    rw [hno k (List.mem_range.mp hk)]
    decide
  rw [e3]; rfl
theorem find3_eq (s t : List Nat) (i : Nat) (ht : t ≠ []) : Txt.find3 ⟨s.toArray⟩ ⟨t.toArray⟩ (i : Int) = findFrom s t i := by
  unfold Txt.find3
  have hf : fromIndex (⟨s.toArray⟩ : Str).length (i : Int) = i := by
    unfold fromIndex
    rw [if_neg (by omega)]
    omega
  have hat : ∀ k, StrLaws.At ⟨s.toArray⟩ ⟨t.toArray⟩ (⟨s.toArray⟩ : Str).length k ↔ stands t s k = true := fun k => by
    have := TL.at_iff (x := ⟨s.toArray⟩) (y := ⟨t.toArray⟩) (by simpa [TL.tl] using ht) k
    simpa [TL.tl, TL.pre, stands] using this
  rw [hf]
  rcases StrLaws.occ_head_from ⟨s.toArray⟩ ⟨t.toArray⟩ i 1 (Nat.le_refl _) with ⟨e, hn⟩ | ⟨k, r, e, hik, ha, hno⟩
  · rw [e]
    unfold findFrom
    have e3 : ((List.range (s.length + 1)).filter fun k => decide (i ≤ k) && stands t s k) = [] := by
      rw [List.filter_eq_nil_iff]
      intro k _ hk
      rw [Bool.and_eq_true, decide_eq_true_eq] at hk
      exact hn k hk.1 ((hat k).mpr hk.2)
    rw [e3]; rfl
  · rw [e]
    unfold findFrom
    have hk : k < s.length + 1 := by
      have := ha.1
      rw [str_len, str_len] at this
      omega
    rw [filter_head hk (by rw [Bool.and_eq_true, decide_eq_true_eq]; exact ⟨hik, (hat k).mp ha⟩) (fun j hj => by
      cases hd : decide (i ≤ j) with
      | false => rfl
      | true =>
        have h1 := hno j (of_decide_eq_true hd) hj
        cases hs : stands t s j with
        | false => rfl
        | true => exact absurd ((hat j).mpr hs) h1)]
def wFind3 (fa fb fc : WE) : WE := fun ρ Q => fa ρ fun r1 ρ1 => match r1 with
  | .val (.str s) => fb ρ1 fun r2 ρ2 => match r2 with
    | .val (.str t) => fc ρ2 fun r3 ρ3 => match r3 with
      | .val (.int i) => 0 ≤ i ∧ t ≠ [] ∧ Q (.val (.int (findFrom s t i.toNat))) ρ3
      | _ => False
    | _ => False
  | _ => False
theorem e_find3 {apos cpos : Pos} (ha : E3 X bx a fa) (hb : E3 X bx b fb) (hc : E3 X bx c fc)
    (hbase : attributeBase a "find" X.env (eval a X.env) = eval a X.env := by rfl) (hfew : ((backTo cpos (starEach [b, c] X.env)).all (fun x => !x.1) && (backToKw cpos (keywordEach [] X.env)).all (fun x => x.1.isSome) && decide ([b, c].length + ([] : List Keyword).length + (if ([] : List Keyword).isEmpty then 0 else 1) < 30)) = true := by rfl)
    (hline : (apos.endLine == cpos.line) = true := by rfl) (hs : starEach [b, c] X.env = (false, eval b X.env) :: starEach [c] X.env := by rfl) (hs2 : starEach [c] X.env = (false, eval c X.env) :: starEach [] X.env := by rfl) (hpl : (backTo cpos (starEach [c] X.env)).any (·.1) = false := by rfl) :
    E3 X bx (.Call (.Attribute a "find" apos) [b, c] [] cpos) (wFind3 fa fb fc) := by
  refine ⟨PE.weaken (pe_bm PySem.F.plainAttrs_str PySem.F.slot_str_find PySem.F.type_str_find mt_find3 ha.pe (pa_cons hb.pe (pa_cons hc.pe pa_nil hs2) hs) hbase hfew hline hs hpl) fun σ H Q ⟨F, ρ, G, P, st, hf, hQ⟩ => ⟨F, ρ, G, _, st, hf, fun r1 ρ1 w1 G1 H1 h1 g1 st1 rr1 => ?_⟩⟩
  split at h1
  · cases rr1 with
    | str o1 =>
      refine ⟨rfl, F, ρ1, G1, _, st1, h1, fun r2 ρ2 w2 G2 H2 h2 g2 st2 rr2 => ?_⟩
      split at h2
      · cases rr2 with
        | str o2 =>
          refine ⟨F, ρ2, G2, _, st2, h2, fun r3 ρ3 w3 G3 H3 h3 g3 st3 rr3 => ?_⟩
          split at h3
          · rename_i i
            cases rr3
            obtain ⟨h0, ht, h3⟩ := h3
            refine ⟨_, _, i, rfl, rfl, ?_⟩
            have e : i = ((i.toNat : Nat) : Int) := (Int.toNat_of_nonneg h0).symm
            rw [e, find3_eq _ _ _ ht]
            exact hQ _ _ _ _ _ h3 (g1.trans (g2.trans g3)) st3 (.int _)
          · exact h3.elim
      · exact h2.elim
  · exact h1.elim

/-! ### a, b = x, y: new things stay owned -/
def nz (r : R) (ρ : Env3) (k : R → Env3 → Prop) : Prop :=
  match r with
  | .val d => k (.val d) ρ
  | .new d => k (.new d) ρ
  | .slot i => match ρ[i]? with
    | some (.val d) => k (.val d) ρ
    | some (.own d) => k (.val d) (ρ.set i (.val d))
    | _ => False
def isSlot : R → Bool
  | .slot _ => true
  | _ => false
theorem nz_ok {K : PySem.W.Frag} {F G H : Hp} {ρ : Env3} {σ : L2.St} {r : R} {v : V} {k : R → Env3 → Prop} (st : Stt K bx F ρ σ G H) (rr : RepR K bx F ρ σ G H r v) (h : nz r ρ k) : ∃ r' ρ' G', k r' ρ' ∧ isSlot r' = false ∧ Same G G' ∧ Stt K bx F ρ' σ G' H ∧ RepR K bx F ρ' σ G' H r' v := by
  cases r with
  | val d => exact ⟨_, ρ, G, h, rfl, Same.refl G, st, rr⟩
  | new d => exact ⟨_, ρ, G, h, rfl, Same.refl G, st, rr⟩
  | slot i =>
    have h2 : fz (.slot i) ρ fun d ρ' => k (.val d) ρ' := h
    obtain ⟨d, ρ', G', h3, g, st', rd⟩ := fz_ok st rr h2
    exact ⟨_, ρ', G', h3, rfl, g, st', rd⟩
/-- as pend_back, the slots may have changed -/
theorem pend_back' {K : PySem.W.Frag} {F0 G0 H0 G1 H1 : Hp} {ρ0 ρ1 : Env3} {σ σ' : L2.St} {r : R} {v : V} (hr : isSlot r = false) (st0 : Stt K bx F0 ρ0 σ G0 H0) (rr : RepR K bx F0 ρ0 σ G0 H0 r v) (g : Same G0 G1) (st1 : Stt K bx (pend F0 H0 r v) ρ1 σ' G1 H1) :
    Stt K bx F0 ρ1 σ' G1 H1 ∧ RepR K bx F0 ρ1 σ' G1 H1 r v := by
  cases r with
  | val d => exact ⟨st1, Rep.mono g rr⟩
  | slot i => cases hr
  | new d =>
    obtain ⟨p, rfl, ⟨tp, gp, fp, bp⟩, no⟩ := rr
    obtain ⟨o, ho⟩ := tp.some
    have pp : pend F0 H0 (.new d) (.ref p) p = some o := by simp only [pend, if_pos]; exact ho
    have pn : ∀ a, a ≠ p → pend F0 H0 (.new d) (.ref p) a = F0 a := fun a h => by simp only [pend, if_neg h]
    have ne : ∀ a o', F0 a = some o' → a ≠ p := fun a o' e h => by subst h; rw [fp] at e; cases e
    have hp1 : H1 p = H0 p := (st1.fs p o pp).trans ho.symm
    refine ⟨⟨⟨st1.gs, fun a u e => st1.fs a u (by rw [pn a (ne a u e)]; exact e), fun a u e => st1.fg a u (by rw [pn a (ne a u e)]; exact e), st1.bi, fun a ha => ⟨(st1.bg a ha).1, (st0.bg a ha).2⟩⟩, st1.len, st1.vl, fun i d' e => ?_, st1.dj⟩,
      p, rfl, ⟨(tp.mono g).heap hp1, (st1.fg p o pp).1, fp, bp⟩, fun i hi => ?_⟩
    · obtain ⟨q, e1, t, e2, e3, e4⟩ := st1.ow i d' e
      have h : q ≠ p := fun h => by subst h; rw [pp] at e3; cases e3
      exact ⟨q, e1, t, e2, by rw [pn q h] at e3; exact e3, e4⟩
    · obtain ⟨⟨d', e⟩, e1⟩ := hi
      obtain ⟨q, e1', t, e2, e3, e4⟩ := st1.ow i d' e
      rw [e1] at e1'; cases e1'
      rw [pp] at e3; cases e3
def wPar2 (i j : Nat) (fa fb : WE) : WS := fun P ρ => fa ρ fun r1 ρ1 => nz r1 ρ1 fun r1 ρ2 => fb ρ2 fun r2 ρ3 => nz r2 ρ3 fun r2 ρ4 => setSl j r2 ρ4 fun ρ5 => setSl i r1 ρ5 P.nx
theorem s_par2 (i j : Nat) {y : Str} {px py pt : Pos} {kt k2 : Nat} {pt2 : Pos} (hc : X.calm = true) (hN : X.N.Nodup) (ha : E3 X bx a fa) (hb : E3 X bx b fb) (hi : X.N[i]? = some x := by rfl) (hj : X.N[j]? = some y := by rfl) (hij : i ≠ j := by decide)
    (hx : X.env.scope.names.lookup x = some .local := by rfl) (hy : X.env.scope.names.lookup y = some .local := by rfl)
    (hs1 : starEach [a, b] X.env = (false, eval a X.env) :: starEach [b] X.env := by rfl) (hs2 : starEach [b] X.env = (false, eval b X.env) :: starEach [] X.env := by rfl)
    (hw : swappedStores [.Tuple [.Name x px, .Name y py] kt pt] (.Tuple [a, b] k2 pt2) X.env = pure (some [x, y]) := by rfl)
    (hs : swapsWithSole [.Tuple [.Name x px, .Name y py] kt pt] (.Tuple [a, b] k2 pt2) pos.line X.env = pure false := by rfl) :
    S3 X bx (.Assign [.Tuple [.Name x px, .Name y py] kt pt] (.Tuple [a, b] k2 pt2) pos) (wPar2 i j fa fb) := by
  refine ⟨PS.weaken (ps_par hc hN hi hj hij hx hy (pa_cons ha.pe (pa_cons hb.pe pa_nil hs2) hs1) hw hs) fun D σ H ⟨F, ρ, G, P, st, h, e⟩ => ⟨F, ρ, G, _, st, h, fun r1 ρ1 v1 G1 H1 h1 g1 st1 rr1 => ?_⟩⟩
  obtain ⟨r1', ρ2, G2, h2, n1, g2, st2, rr2⟩ := nz_ok st1 rr1 h1
  refine ⟨pend F H1 r1' v1, ρ2, G2, _, pend_st st2 rr2, h2, fun r3 ρ3 v3 G3 H3 h3 g3 st3 rr3 => ?_⟩
  obtain ⟨r3', ρ4, G4, h4, n3, g4, st4, rr4⟩ := nz_ok st3 rr3 h3
  refine ⟨v1, v3, rfl, ?_⟩
  rw [List.set_comm _ _ hij]
  obtain ⟨ρ5, G5, h5, g5, st5⟩ := set_ok j st4 rr4 h4
  obtain ⟨st5', rr5⟩ := pend_back' n1 st2 rr2 (g3.trans (g4.trans g5)) st5
  obtain ⟨ρ6, G6, h6, g6, st6⟩ := set_ok i st5' rr5 h5
  exact e.nx ρ6 _ G6 H3 h6 (g1.trans (g2.trans (g3.trans (g4.trans (g5.trans g6))))) st6
def wPar3 (i j l : Nat) (fa fb fc : WE) : WS := fun P ρ => fa ρ fun r1 ρ1 => nz r1 ρ1 fun r1 ρ2 => fb ρ2 fun r2 ρ3 => nz r2 ρ3 fun r2 ρ4 => fc ρ4 fun r3 ρ5 => nz r3 ρ5 fun r3 ρ6 => setSl l r3 ρ6 fun ρ7 => setSl j r2 ρ7 fun ρ8 => setSl i r1 ρ8 P.nx
theorem s_par3 (i j l : Nat) {y z : Str} {px py pz pt : Pos} {kt k2 : Nat} {pt2 : Pos} (hc : X.calm = true) (hN : X.N.Nodup) (ha : E3 X bx a fa) (hb : E3 X bx b fb) (hcc : E3 X bx c fc) (hi : X.N[i]? = some x := by rfl) (hj : X.N[j]? = some y := by rfl) (hl : X.N[l]? = some z := by rfl) (hij : i ≠ j := by decide) (hil : i ≠ l := by decide) (hjl : j ≠ l := by decide)
    (hx : X.env.scope.names.lookup x = some .local := by rfl) (hy : X.env.scope.names.lookup y = some .local := by rfl) (hz : X.env.scope.names.lookup z = some .local := by rfl)
    (hs1 : starEach [a, b, c] X.env = (false, eval a X.env) :: starEach [b, c] X.env := by rfl) (hs2 : starEach [b, c] X.env = (false, eval b X.env) :: starEach [c] X.env := by rfl) (hs3 : starEach [c] X.env = (false, eval c X.env) :: starEach [] X.env := by rfl)
    (hw : swappedStores [.Tuple [.Name x px, .Name y py, .Name z pz] kt pt] (.Tuple [a, b, c] k2 pt2) X.env = pure (some [x, y, z]) := by rfl)
    (hs : swapsWithSole [.Tuple [.Name x px, .Name y py, .Name z pz] kt pt] (.Tuple [a, b, c] k2 pt2) pos.line X.env = pure false := by rfl) :
    S3 X bx (.Assign [.Tuple [.Name x px, .Name y py, .Name z pz] kt pt] (.Tuple [a, b, c] k2 pt2) pos) (wPar3 i j l fa fb fc) := by
  refine ⟨PS.weaken (ps_par3 hc hN hi hj hl hij hil hjl hx hy hz (pa_cons ha.pe (pa_cons hb.pe (pa_cons hcc.pe pa_nil hs3) hs2) hs1) hw hs) fun D σ H ⟨F, ρ, G, P, st, h, e⟩ => ⟨F, ρ, G, _, st, h, fun r1 ρ1 v1 G1 H1 h1 g1 st1 rr1 => ?_⟩⟩
  obtain ⟨r1', ρ2, G2, h2, n1, g2, st2, rr2⟩ := nz_ok st1 rr1 h1
  refine ⟨pend F H1 r1' v1, ρ2, G2, _, pend_st st2 rr2, h2, fun r3 ρ3 v3 G3 H3 h3 g3 st3 rr3 => ?_⟩
  obtain ⟨r3', ρ4, G4, h4, n3, g4, st4, rr4⟩ := nz_ok st3 rr3 h3
  refine ⟨pend (pend F H1 r1' v1) H3 r3' v3, ρ4, G4, _, pend_st st4 rr4, h4, fun r5 ρ5 v5 G5 H5 h5 g5 st5 rr5 => ?_⟩
  obtain ⟨r5', ρ6, G6, h6, n5, g6, st6, rr6⟩ := nz_ok st5 rr5 h5
  refine ⟨v1, v3, v5, rfl, ?_⟩
  obtain ⟨ρ7, G7, h7, g7, st7⟩ := set_ok l st6 rr6 h6
  obtain ⟨st7', rr7⟩ := pend_back' n3 st4 rr4 (g5.trans (g6.trans g7)) st7
  obtain ⟨ρ8, G8, h8, g8, st8⟩ := set_ok j st7' rr7 h7
  obtain ⟨st8', rr8⟩ := pend_back' n1 st2 rr2 (g3.trans (g4.trans (g5.trans (g6.trans (g7.trans g8))))) st8
  obtain ⟨ρ9, G9, h9, g9, st9⟩ := set_ok i st8' rr8 h8
  have e1 : (((σ.set i (some v1)).set j (some v3)).set l (some v5)) = (((σ.set l (some v5)).set j (some v3)).set i (some v1)) := by
    rw [List.set_comm _ _ hjl, List.set_comm _ _ hil, List.set_comm _ _ hij]
  rw [e1]
  exact e.nx ρ9 _ G9 H5 h9 (g1.trans (g2.trans (g3.trans (g4.trans (g5.trans (g6.trans (g7.trans (g8.trans g9)))))))) st9
end
end L2.W3

/-! W3, part i: the laws' own drawers, the law itself, the module's facts. -/
namespace L2.W3
open PySem PySem.Spec PyProof.Rows

/-- the drawer with a list of cells, a place, two numbers -/
def TapeInv (b q : Addr) (H : Hp) : Prop := ∃ (cs : List Int) (k : Nat) (x y : Int), H q = some (.lst (cs.map V.int)) ∧ H b = some (.lst [.ref q, .int (k : Int), .int x, .int y]) ∧ k ≤ cs.length
def tapeBx (b q : Addr) : Bx where
  adr := b
  fp := [b, q]
  inv := TapeInv b q
  loc := fun H H' h ⟨cs, k, x, y, h1, h2, h3⟩ => ⟨cs, k, x, y, (h q (by simp)).trans h1, (h b (by simp)).trans h2, h3⟩
  has := fun H ⟨cs, k, x, y, h1, h2, _⟩ a ha => by
    have : a = b ∨ a = q := by simpa using ha
    rcases this with rfl | rfl
    · exact ⟨_, h2, True.intro⟩
    · exact ⟨_, h1, True.intro⟩
theorem tape_ne {b q : Addr} {H : Hp} (h : TapeInv b q H) : b ≠ q := by
  obtain ⟨cs, k, x, y, h1, h2, _⟩ := h
  intro e
  subst e
  rw [h1] at h2
  cases cs with
  | nil => cases h2
  | cons c r => cases h2
theorem tape_set {b q : Addr} {F G H : Hp} (fr : Fr3 (tapeBx b q) F G H) {cs : List Int} (hq : H q = some (.lst (cs.map V.int))) (k : Nat) (x y : Int) (hk : k ≤ cs.length) : Fr3 (tapeBx b q) F G (upd H b (.lst [.ref q, .int (k : Int), .int x, .int y])) := by
  have ne := tape_ne fr.bi
  have gb := fr.bg b (by simp [tapeBx])
  refine ⟨fun a u e => ?_, fun a u e => ?_, fr.fg, ⟨cs, k, x, y, by rw [upd_ne (Ne.symm ne)]; exact hq, upd_same, hk⟩, fr.bg⟩
  · rw [upd_ne (ne_of_none e gb.1)]; exact fr.gs a u e
  · rw [upd_ne (ne_of_none e gb.2)]; exact fr.fs a u e
/-- .. with two numbers alone -/
def BoxInv (b q : Addr) (H : Hp) : Prop := ∃ (cs : List Int) (x y : Int), H q = some (.lst (cs.map V.int)) ∧ H b = some (.lst [.ref q, .int x, .int y])
def boxBx (b q : Addr) : Bx where
  adr := b
  fp := [b, q]
  inv := BoxInv b q
  loc := fun H H' h ⟨cs, x, y, h1, h2⟩ => ⟨cs, x, y, (h q (by simp)).trans h1, (h b (by simp)).trans h2⟩
  has := fun H ⟨cs, x, y, h1, h2⟩ a ha => by
    have : a = b ∨ a = q := by simpa using ha
    rcases this with rfl | rfl
    · exact ⟨_, h2, True.intro⟩
    · exact ⟨_, h1, True.intro⟩
theorem box_ne {b q : Addr} {H : Hp} (h : BoxInv b q H) : b ≠ q := by
  obtain ⟨cs, x, y, h1, h2⟩ := h
  intro e
  subst e
  rw [h1] at h2
  cases cs with
  | nil => cases h2
  | cons c r => cases h2
theorem box_set {b q : Addr} {F G H : Hp} (fr : Fr3 (boxBx b q) F G H) {cs : List Int} (hq : H q = some (.lst (cs.map V.int))) (x y : Int) : Fr3 (boxBx b q) F G (upd H b (.lst [.ref q, .int x, .int y])) := by
  have ne := box_ne fr.bi
  have gb := fr.bg b (by simp [boxBx])
  refine ⟨fun a u e => ?_, fun a u e => ?_, fr.fg, ⟨cs, x, y, by rw [upd_ne (Ne.symm ne)]; exact hq, upd_same⟩, fr.bg⟩
  · rw [upd_ne (ne_of_none e gb.1)]; exact fr.gs a u e
  · rw [upd_ne (ne_of_none e gb.2)]; exact fr.fs a u e
theorem box_setQ {b q : Addr} {F G H : Hp} (fr : Fr3 (boxBx b q) F G H) (cs : List Int) : Fr3 (boxBx b q) F G (upd H q (.lst (cs.map V.int))) := by
  have ne := box_ne fr.bi
  have gq := fr.bg q (by simp [boxBx])
  obtain ⟨_, x, y, _, h2⟩ := fr.bi
  refine ⟨fun a u e => ?_, fun a u e => ?_, fr.fg, ⟨cs, x, y, upd_same, by rw [upd_ne ne]; exact h2⟩, fr.bg⟩
  · rw [upd_ne (ne_of_none e gq.1)]; exact fr.gs a u e
  · rw [upd_ne (ne_of_none e gq.2)]; exact fr.fs a u e

/-- a drawn number below n -/
def C_draw : Con := fun ds P => ∃ n : Int, ds = [.box, .int n] ∧ 0 < n ∧ n < 2 ^ 120 ∧ ∀ r : Int, 0 ≤ r → r < n → P (.val (.int r))
def C_any1 : Con := fun ds P => ∃ i : Int, ds = [.int i] ∧ ∀ r : Int, P (.val (.int r))
def C_load : Con := fun ds P => ds = [.box] ∧ ∀ r : Int, P (.val (.int r))

theorem pss_any {X : Cx} {sts : List Stmt} {α : Type} {f : WS} (bx : α → Bx) (h : ∀ i, Ss3 X (bx i) sts f) : PSs X sts (fun D σ H => ∃ i, lS X (bx i) f D σ H) :=
  ⟨fun pins s σ H D I ⟨i, q⟩ => (h i).pss.run pins s σ H D I q⟩

/-! ### the law -/
def spLaw (K : PySem.W.Frag) : Sp := fun vs H Q _ => ∃ (a : Addr) (ns : List Int), vs = [.ref a] ∧ SqL K H a (ns.map V.int) ∧ ns.length ≤ 63 ∧ ∀ H', Q (.bl true) H'
/-- the drawer made out of the script -/
def spTape (K : PySem.W.Frag) : Sp := fun vs H Q _ => ∃ (a : Addr) (ns : List Int), vs = [.ref a] ∧ SqL K H a (ns.map V.int) ∧ ns.length ≤ 63 ∧
  ∀ b q H', Same H H' → H b = none → H q = none → TapeInv b q H' → Q (.ref b) H'
def spBox (K : PySem.W.Frag) : Sp := fun vs H Q _ => ∃ (a : Addr) (ns : List Int), vs = [.ref a] ∧ SqL K H a (ns.map V.int) ∧ ns.length ≤ 63 ∧
  ∀ b q H', Same H H' → H b = none → H q = none → BoxInv b q H' → Q (.ref b) H'
theorem law_st {K : PySem.W.Frag} {bx : Bx} {H H' : Hp} {N : List Str} {a : Addr} (sm : Same H H') (hf : ∀ x ∈ bx.fp, H x = none) (inv : bx.inv H') (h2 : 2 ≤ N.length) :
    Stt K bx (fun _ => none) ((start3 N [.non]).set 0 .un |>.set 1 (.val .box)) ((start N [.ref a]).set 1 (some (.ref bx.adr))) (fun _ => none) H' := by
  have fr : Fr3 bx (fun _ => none) (fun _ => none) H' := ⟨fun a u e => (nomatch e), fun a u e => (nomatch e), fun a u e => (nomatch e), inv, fun x hx => ⟨rfl, rfl⟩⟩
  have st0 : Stt K bx (fun _ => none) (start3 N [.non]) (start N [.non]) (fun _ => none) H' := start_st fr (.cons .non .nil)
  have st1 := (st0.forget 0 (some (.ref a))).put (d := .box) 1 .box
  have e : (start N [.non]).set 0 (some (V.ref a)) = start N [.ref a] := by
    unfold start
    rfl
  rw [e] at st1
  exact st1

/-! ### the module's facts -/
theorem fact_mk {K : PySem.W.Frag} {h : Heap} {mg : Str → Option Value} {name : Str} {st : Stmt} {f : Addr} {od an : Option Addr} {sl : Array (Option Value)} {oc kV dc pm cd ct : Value} (X : K.In h) (G : h.Ns mainGlobals mg)
    (a : PySem.W.nsIn K mainGlobals name = some (some (.ref f))) (l : K.lookup f = some ⟨oc, od, .func (PySem.W.fnOf name name (defArgs st) (defBody st) (defScope st) .none kV dc pm an cd ct), sl⟩) (c : PySem.W.codeIn K cd name = true) (k : PySem.W.keepIn K (.ref f) = true) :
    ∃ f fd, Fun K name name st f fd ∧ mg name = some (.ref f) := ⟨f, _, fun_mk l c k, PySem.W.mg_of X G a⟩
end L2.W3

/-! W3, part j: words for proofs over data. -/
namespace L2.W3
open PySem PySem.Spec PyProof.Rows

theorem FnOk.none {P : Program} {w : World} {K : PySem.W.Frag} {mg : Str → Option Value} {base : Heap} {CX : CXT} {f : Addr} {fd : FuncData} {ps : List Str} {bx : Bx} {k : Nat} : FnOk P w K mg base CX k f fd ps (spOf K bx fun _ _ => False) :=
  ⟨fun vs H Q E ⟨_, _, _, _, _, _, h, _⟩ => h.elim, fun A outer s H args us vs Q E _ _ _ _ ⟨_, _, _, _, _, _, h, _⟩ => h.elim⟩

/-! ### cuts -/
theorem sIx_of (n d k : Nat) : HT.sIx n d (some (k : Int)) = min k n := HT.sIx_nat n d k
theorem cut_to {α : Type} (l : List α) (k : Nat) : cut l none (some (k : Int)) = l.take k := by
  unfold cut
  rw [sIx_of, HT.sIx_none, List.drop_zero, Nat.sub_zero]
  rcases Nat.le_total k l.length with h | h
  · rw [Nat.min_eq_left h]
  · rw [Nat.min_eq_right h, List.take_of_length_le (Nat.le_refl _), List.take_of_length_le h]
theorem cut_from {α : Type} (l : List α) (k : Nat) : cut l (some (k : Int)) none = l.drop k := by
  unfold cut
  rw [sIx_of, HT.sIx_none]
  rcases Nat.le_total k l.length with h | h
  · rw [Nat.min_eq_left h]
    exact List.take_of_length_le (by rw [List.length_drop]; omega)
  · rw [Nat.min_eq_right h, Nat.sub_self, List.take_zero, List.drop_of_length_le h]
theorem cut_nat {α : Type} (l : List α) (i j : Nat) : cut l (some (i : Int)) (some (j : Int)) = (l.take j).drop i := by
  unfold cut
  rw [sIx_of, sIx_of, List.drop_take]
  rcases Nat.le_total i l.length with h | h
  · rw [Nat.min_eq_left h]
    rcases Nat.le_total j l.length with h2 | h2
    · rw [Nat.min_eq_left h2]
    · rw [Nat.min_eq_right h2, List.take_of_length_le (by rw [List.length_drop]; omega), List.take_of_length_le (by rw [List.length_drop]; omega)]
  · rw [Nat.min_eq_right h, List.drop_of_length_le (Nat.le_refl _), List.drop_of_length_le h, List.take_nil, List.take_nil]
theorem cut_all {α : Type} (l : List α) : cut l none none = l := by
  unfold cut
  rw [HT.sIx_none, HT.sIx_none, List.drop_zero, Nat.sub_zero, List.take_length]

/-! ### equal data -/
theorem eqv_str (a b : List Nat) : eqv (.str a) (.str b) = decide (a = b) := by
  show ((⟨a.toArray⟩ : Str) == ⟨b.toArray⟩) = _
  rw [Bool.eq_iff_iff, beq_iff_eq, decide_eq_true_eq]
  constructor
  · intro h
    have := congrArg (fun x : Str => x.cps.toList) h
    simpa using this
  · rintro rfl; rfl
theorem eqv_int (a b : Int) : eqv (.int a) (.int b) = decide (a = b) := by
  show (a == b) = _
  rw [Bool.beq_eq_decide_eq]
theorem eqv_bl (a b : Bool) : eqv (.bl a) (.bl b) = decide (a = b) := by
  show (a == b) = _
  rw [Bool.beq_eq_decide_eq]
theorem eqv_non : eqv .non .non = true := rfl
theorem eqv_tup (a b : List D) : eqv (.tup a) (.tup b) = PyData.eqvAll (toPyL a) (toPyL b) := rfl
theorem eqv_lst (a b : List D) : eqv (.lst a) (.lst b) = PyData.eqvAll (toPyL a) (toPyL b) := rfl
theorem eqvAll_cons (a b : D) (l m : List D) : PyData.eqvAll (toPyL (a :: l)) (toPyL (b :: m)) = (eqv a b && PyData.eqvAll (toPyL l) (toPyL m)) := rfl
theorem eqvAll_nil : PyData.eqvAll (toPyL []) (toPyL []) = true := rfl
theorem eqvAll_nc (a : D) (l : List D) : PyData.eqvAll (toPyL []) (toPyL (a :: l)) = false := rfl
theorem eqvAll_cn (a : D) (l : List D) : PyData.eqvAll (toPyL (a :: l)) (toPyL []) = false := rfl
theorem eqvAll_map {α : Type} [DecidableEq α] {f : α → D} (hf : ∀ a b, eqv (f a) (f b) = decide (a = b)) : ∀ l m : List α, PyData.eqvAll (toPyL (l.map f)) (toPyL (m.map f)) = decide (l = m)
  | [], [] => rfl
  | [], _ :: _ => rfl
  | _ :: _, [] => rfl
  | a :: l, b :: m => by
    rw [List.map_cons, List.map_cons, eqvAll_cons, hf, eqvAll_map hf l m]
    by_cases h1 : a = b <;> by_cases h2 : l = m <;> simp [h1, h2]

/-! ### the laws' own equality: of the same kinds -/
mutual
def sameD : D → D → Bool
  | .tup a, .tup b => sameL a b
  | .lst a, .lst b => sameL a b
  | .bl a, .bl b => a == b
  | .int a, .int b => a == b
  | .str a, .str b => a == b
  | .non, .non => true
  | _, _ => false
def sameL : List D → List D → Bool
  | [], [] => true
  | a :: l, b :: m => sameD a b && sameL l m
  | _, _ => false
end
mutual
theorem sameD_refl : ∀ {n : Nat} {d : D}, Flat n d → sameD d d = true
  | _, .non, _ => rfl
  | _, .bl b, _ => by simp [sameD]
  | _, .int b, _ => by simp [sameD]
  | _, .str b, _ => by simp [sameD]
  | _, .tup l, h => by
    obtain ⟨m, rfl, h⟩ := flat_succ h
    rw [sameD]; exact sameL_refl h
  | _, .lst l, h => by
    obtain ⟨m, rfl, h⟩ := flat_succL h
    rw [sameD]; exact sameL_refl h
  | _, .dik _, h => (not_flat_dik h).elim
  | _, .dit _, h => (not_flat_dit h).elim
  | _, .ty _, h => (not_flat_ty h).elim
  | _, .box, h => (not_flat_box h).elim
  | _, .obj _, h => (not_flat_obj h).elim
theorem sameL_refl : ∀ {n : Nat} {l : List D}, (∀ x ∈ l, Flat n x) → sameL l l = true
  | _, [], _ => rfl
  | _, d :: r, h => by
    rw [sameL, sameD_refl (h d List.mem_cons_self), sameL_refl fun x hx => h x (List.mem_cons_of_mem _ hx)]
    rfl
end
/-- such data, whose rows have no more than so many places -/
def FlatS : Nat → D → Prop
  | _, .non => True
  | _, .bl _ => True
  | _, .int _ => True
  | _, .str _ => True
  | n + 1, .tup l => l.length ≤ sizeLine ∧ ∀ x ∈ l, FlatS n x
  | n + 1, .lst l => l.length ≤ sizeLine ∧ ∀ x ∈ l, FlatS n x
  | _, _ => False
theorem FlatS.flat : ∀ {n : Nat} {d : D}, FlatS n d → Flat n d
  | 0, d, h => by cases d <;> first | exact h | trivial
  | n + 1, .tup l, h => fun x hx => (h.2 x hx).flat
  | n + 1, .lst l, h => fun x hx => (h.2 x hx).flat
  | n + 1, .non, h => trivial
  | n + 1, .bl _, h => trivial
  | n + 1, .int _, h => trivial
  | n + 1, .str _, h => trivial
  | n + 1, .dik _, h => h.elim
  | n + 1, .dit _, h => h.elim
  | n + 1, .ty _, h => h.elim
  | n + 1, .box, h => h.elim
  | n + 1, .obj _, h => h.elim
def C_same : Nat → Con
  | 0 => fun _ _ => False
  | n + 1 => fun ds P => ∃ a b, ds = [a, b] ∧ FlatS n a ∧ Flat n b ∧ P (.val (.bl (sameD a b)))

/-! ### comprehensions of one kind -/
/-- each turn gives one thing, or nothing, and leaves the slots -/
theorem lcGo_map {α : Type} {enc : α → D} {p : α → Bool} {f : α → D} {e : α → Env3} {g : WG} {tt : WTs} {te : WE} {vs : List Nat} {ρw : Env3} (hw : ∀ x, wipeE (e x) vs = ρw)
    (hg : ∀ x k, k (e x) → g (enc x) ρw k) : ∀ (xs : List α) (ρ : Env3) (acc : List D) (Q : List D → Env3 → Prop), wipeE ρ vs = ρw → acc.length + xs.length ≤ sizeLine →
    (∀ x ∈ xs, ∀ k, k (p x) (e x) → tt (e x) k) → (∀ x ∈ xs, p x = true → ∀ k, k (.val (f x)) (e x) → te (e x) k) → (∀ ρ', wipeE ρ' vs = ρw → Q (acc ++ (xs.filter p).map f) ρ') → lcGo g tt te vs (xs.map enc) ρ acc Q
  | [], ρ, acc, Q, h, hl, ht, he, hQ => by
    have := hQ ρ h
    rw [List.filter_nil, List.map_nil, List.append_nil] at this
    exact this
  | x :: xs, ρ, acc, Q, h, hl, ht, he, hQ => by
    rw [List.map_cons, lcGo, h]
    refine hg x _ (ht x List.mem_cons_self _ ?_)
    rw [List.length_cons] at hl
    by_cases hp : p x = true
    · rw [if_pos hp]
      refine he x List.mem_cons_self hp _ ⟨by omega, ?_⟩
      refine lcGo_map hw hg xs (e x) _ Q (hw x) (by rw [List.length_append]; simp only [List.length_cons, List.length_nil]; omega) (fun y hy => ht y (List.mem_cons_of_mem _ hy)) (fun y hy => he y (List.mem_cons_of_mem _ hy)) fun ρ' hρ => ?_
      have := hQ ρ' hρ
      rw [List.filter_cons_of_pos hp, List.map_cons] at this
      rw [List.append_assoc]
      exact this
    · rw [if_neg hp]
      refine lcGo_map hw hg xs (e x) acc Q (hw x) (by omega) (fun y hy => ht y (List.mem_cons_of_mem _ hy)) (fun y hy => he y (List.mem_cons_of_mem _ hy)) fun ρ' hρ => ?_
      have := hQ ρ' hρ
      rw [List.filter_cons_of_neg hp] at this
      exact this
/-- each turn gives some thing of a kind -/
theorem lcGo_all {A : D → Prop} {e : D → Env3} {g : WG} {tt : WTs} {te : WE} {vs : List Nat} {ρw : Env3} (hw : ∀ x, wipeE (e x) vs = ρw) (hg : ∀ x k, k (e x) → g x ρw k) : ∀ (xs : List D) (ρ : Env3) (acc : List D) (Q : List D → Env3 → Prop), wipeE ρ vs = ρw → acc.length + xs.length ≤ sizeLine →
    (∀ x ∈ xs, ∀ k, k true (e x) → tt (e x) k) → (∀ x ∈ xs, ∀ k, (∀ d, A d → k (.val d) (e x)) → te (e x) k) → (∀ x ∈ acc, A x) → (∀ ρ' l, wipeE ρ' vs = ρw → l.length = acc.length + xs.length → (∀ x ∈ l, A x) → Q l ρ') → lcGo g tt te vs xs ρ acc Q
  | [], ρ, acc, Q, h, hl, ht, he, ha, hQ => hQ ρ acc h rfl ha
  | x :: xs, ρ, acc, Q, h, hl, ht, he, ha, hQ => by
    rw [lcGo, h]
    refine hg x _ (ht x List.mem_cons_self _ ?_)
    rw [List.length_cons] at hl
    rw [if_pos rfl]
    refine he x List.mem_cons_self _ fun d hd => ⟨by omega, ?_⟩
    refine lcGo_all hw hg xs (e x) _ Q (hw x) (by rw [List.length_append]; simp only [List.length_cons, List.length_nil]; omega) (fun y hy => ht y (List.mem_cons_of_mem _ hy)) (fun y hy => he y (List.mem_cons_of_mem _ hy)) (fun y hy => ?_) fun ρ' l hρ hll hal => hQ ρ' l hρ (by rw [hll, List.length_append]; simp only [List.length_cons, List.length_nil]; omega) hal
    rcases List.mem_append.mp hy with hy | hy
    · exact ha y hy
    · rw [List.mem_singleton] at hy
      rw [hy]; exact hd
end L2.W3

/-! W3, part k: words for conditions; sameness. -/
namespace L2.W3
open PySem PySem.Spec PyProof.Rows

theorem start3_1 (x : Str) (N : List Str) (a : D) : start3 (x :: N) [a] = .val a :: List.replicate N.length .un := rfl
theorem start3_2 (x y : Str) (N : List Str) (a b : D) : start3 (x :: y :: N) [a, b] = .val a :: .val b :: List.replicate N.length .un := by
  show Sl.val a :: Sl.val b :: List.replicate ((N.length + 1 + 1) - 2) .un = _
  rfl
theorem ite_w {b : Bool} {x y : Prop} (h1 : b = true → x) (h2 : b = false → y) : if b = true then x else y := by
  cases b
  · exact h2 rfl
  · exact h1 rfl
theorem atI_lt {α : Type} {l : List α} {k : Nat} (h : k < l.length) : atI l (k : Int) = some l[k] := atI_nat (by rw [List.getElem?_eq_getElem h])
theorem rng_01 (n : Nat) : rng 0 1 n = (List.range n).map fun k : Nat => D.int (k : Int) := by
  unfold rng
  refine List.map_congr_left fun k _ => ?_
  rw [Int.mul_one, Int.zero_add]
theorem rng_l1 (lo : Int) (n : Nat) : rng lo 1 n = (List.range n).map fun k : Nat => D.int (lo + (k : Int)) := by
  unfold rng
  refine List.map_congr_left fun k _ => ?_
  rw [Int.mul_one]
theorem wipe1 (ρ : Env3) (i : Nat) (a : Sl) : (ρ.set i a).set i .un = ρ.set i .un := List.set_set ..
/-- a comprehension with one name -/
theorem lcN {α : Type} {xs : List α} {i : Nat} {tt : WTs} {te : WE} {ρ : Env3} {T : List D → Env3 → Prop} (enc : α → D) (p : α → Bool) (f : α → D) (hi : i < ρ.length) (hl : xs.length ≤ sizeLine)
    (ht : ∀ x ∈ xs, ∀ k, k (p x) (ρ.set i (.val (enc x))) → tt (ρ.set i (.val (enc x))) k) (he : ∀ x ∈ xs, p x = true → ∀ k, k (.val (f x)) (ρ.set i (.val (enc x))) → te (ρ.set i (.val (enc x))) k)
    (hQ : T ((xs.filter p).map f) (ρ.set i (keptE (ρ.getD i .un)))) : lcRun (wName i) tt te [i] (xs.map enc) ρ T := by
  refine lcGo_map (e := fun x => ρ.set i (.val (enc x))) (p := p) (f := f) (ρw := ρ.set i .un) (vs := [i]) (fun x => wipe1 ρ i _) (fun x k h => ⟨by rw [List.length_set]; exact hi, by rw [List.set_set]; exact h⟩) xs ρ [] _ rfl (by simpa using hl) ht he fun ρ' h' => ?_
  rw [h', List.nil_append]
  show T _ ((ρ.set i Sl.un).set i _)
  rw [List.set_set]
  exact hQ
/-- the same, without a test -/
theorem lcNY {α : Type} {xs : List α} {i : Nat} {te : WE} {ρ : Env3} {T : List D → Env3 → Prop} (enc : α → D) (f : α → D) (hi : i < ρ.length) (hl : xs.length ≤ sizeLine)
    (he : ∀ x ∈ xs, ∀ k, k (.val (f x)) (ρ.set i (.val (enc x))) → te (ρ.set i (.val (enc x))) k)
    (hQ : T (xs.map f) (ρ.set i (keptE (ρ.getD i .un)))) : lcRun (wName i) wYes te [i] (xs.map enc) ρ T := by
  refine lcN enc (fun _ => true) f hi hl (fun x _ k hk => hk) (fun x hx _ => he x hx) ?_
  rw [show xs.filter (fun _ => true) = xs from List.filter_eq_self.mpr fun _ _ => rfl]
  exact hQ
/-- each turn gives some thing of a kind -/
theorem lcNA {α : Type} {xs : List α} {i : Nat} {te : WE} {ρ : Env3} {T : List D → Env3 → Prop} (enc : α → D) (A : D → Prop) (hi : i < ρ.length) (hl : xs.length ≤ sizeLine)
    (he : ∀ x ∈ xs, ∀ k, (∀ d, A d → k (.val d) (ρ.set i (.val (enc x)))) → te (ρ.set i (.val (enc x))) k)
    (hQ : ∀ l, l.length = xs.length → (∀ d ∈ l, A d) → T l (ρ.set i (keptE (ρ.getD i .un)))) : lcRun (wName i) wYes te [i] (xs.map enc) ρ T := by
  unfold lcRun
  suffices H : ∀ (ys : List α) (ρ2 : Env3) (acc : List D), (∀ x ∈ ys, x ∈ xs) → wipeE ρ2 [i] = ρ.set i .un → acc.length + ys.length = xs.length → (∀ x ∈ acc, A x) →
      lcGo (wName i) wYes te [i] (ys.map enc) ρ2 acc fun acc ρ2 => T acc (backE (wipeE ρ2 [i]) ρ [i]) from H xs ρ [] (fun _ h => h) rfl (by simp) (by simp)
  intro ys
  induction ys with
  | nil =>
    intro ρ2 acc _ h hn ha
    show T acc _
    rw [h]
    show T _ ((ρ.set i Sl.un).set i _)
    rw [List.set_set]
    exact hQ acc hn ha
  | cons y ys ih =>
    intro ρ2 acc hm h hn ha
    rw [List.map_cons, lcGo, h]
    refine ⟨by rw [List.length_set]; exact hi, ?_⟩
    rw [List.set_set]
    refine he y (hm y List.mem_cons_self) _ fun d hd => ?_
    rw [List.length_cons] at hn
    refine ⟨by omega, ih _ _ (fun z hz => hm z (List.mem_cons_of_mem _ hz)) (wipe1 ..) (by rw [List.length_append]; simp only [List.length_cons, List.length_nil]; omega) fun z hz => ?_⟩
    rcases List.mem_append.mp hz with hz | hz
    · exact ha z hz
    · rw [List.mem_singleton] at hz
      rw [hz]; exact hd
section
variable {lo : Int} {n i : Nat} {tt : WTs} {te : WE} {ρ : Env3} {T : List D → Env3 → Prop}
/-- over a range from nought -/
theorem lc0 (p : Nat → Bool) (f : Nat → D) (hl : n ≤ sizeLine) (ht : ∀ x : Nat, x < n → ∀ k, k (p x) (ρ.set i (.val (.int (x : Int)))) → tt (ρ.set i (.val (.int (x : Int)))) k)
    (he : ∀ x : Nat, x < n → p x = true → ∀ k, k (.val (f x)) (ρ.set i (.val (.int (x : Int)))) → te (ρ.set i (.val (.int (x : Int)))) k)
    (hQ : T (((List.range n).filter p).map f) (ρ.set i (keptE (ρ.getD i .un)))) (hi : i < ρ.length := by exact Nat.le_of_ble_eq_true rfl) : lcRun (wName i) tt te [i] (rng 0 1 n) ρ T := by
  rw [rng_01]
  exact lcN _ p f hi (by rw [List.length_range]; exact hl) (fun x hx => ht x (List.mem_range.mp hx)) (fun x hx => he x (List.mem_range.mp hx)) hQ
theorem lc0Y (f : Nat → D) (hl : n ≤ sizeLine) (he : ∀ x : Nat, x < n → ∀ k, k (.val (f x)) (ρ.set i (.val (.int (x : Int)))) → te (ρ.set i (.val (.int (x : Int)))) k)
    (hQ : T ((List.range n).map f) (ρ.set i (keptE (ρ.getD i .un)))) (hi : i < ρ.length := by exact Nat.le_of_ble_eq_true rfl) : lcRun (wName i) wYes te [i] (rng 0 1 n) ρ T := by
  rw [rng_01]
  exact lcNY _ f hi (by rw [List.length_range]; exact hl) (fun x hx => he x (List.mem_range.mp hx)) hQ
theorem lc0A (A : D → Prop) (hl : n ≤ sizeLine) (he : ∀ x : Nat, x < n → ∀ k, (∀ d, A d → k (.val d) (ρ.set i (.val (.int (x : Int))))) → te (ρ.set i (.val (.int (x : Int)))) k)
    (hQ : ∀ l, l.length = n → (∀ d ∈ l, A d) → T l (ρ.set i (keptE (ρ.getD i .un)))) (hi : i < ρ.length := by exact Nat.le_of_ble_eq_true rfl) : lcRun (wName i) wYes te [i] (rng 0 1 n) ρ T := by
  rw [rng_01]
  exact lcNA _ A hi (by rw [List.length_range]; exact hl) (fun x hx => he x (List.mem_range.mp hx)) fun l h => hQ l (by rw [h, List.length_range])
/-- over a range from a -/
theorem lc1 {a : Nat} (p : Nat → Bool) (f : Nat → D) (hl : n ≤ sizeLine) (ht : ∀ x : Nat, a ≤ x → x < a + n → ∀ k, k (p x) (ρ.set i (.val (.int (x : Int)))) → tt (ρ.set i (.val (.int (x : Int)))) k)
    (he : ∀ x : Nat, a ≤ x → x < a + n → p x = true → ∀ k, k (.val (f x)) (ρ.set i (.val (.int (x : Int)))) → te (ρ.set i (.val (.int (x : Int)))) k)
    (hQ : T (((List.range' a n).filter p).map f) (ρ.set i (keptE (ρ.getD i .un)))) (hi : i < ρ.length := by exact Nat.le_of_ble_eq_true rfl) : lcRun (wName i) tt te [i] (rng (a : Int) 1 n) ρ T := by
  have e : rng (a : Int) 1 n = (List.range' a n).map fun k : Nat => D.int (k : Int) := by
    rw [rng_l1, List.range'_eq_map_range, List.map_map]
    refine List.map_congr_left fun k _ => ?_
    simp
  rw [e]
  exact lcN _ p f hi (by rw [List.length_range']; exact hl) (fun x hx => ht x (List.mem_range'_1.mp hx).1 (List.mem_range'_1.mp hx).2) (fun x hx => he x (List.mem_range'_1.mp hx).1 (List.mem_range'_1.mp hx).2) hQ
end
theorem small_nat {n : Nat} (h : n ≤ sizeLine) : SmallI (n : Int) := by
  have : sizeLine < 2 ^ 62 := by decide
  unfold SmallI
  omega

/-! ### sameness -/
def b_same (C : Con) : WS :=
  (wSeq (wIfS (wTOr (wTAnd (wTru (wIsi "tuple" (wVar 0))) (wTru (wIsi "tuple" (wVar 1)))) (wTAnd (wTru (wIsi "list" (wVar 0))) (wTru (wIsi "list" (wVar 1))))) (wRet (wAnd (wBin eqD (wUn lenD (wVar 0)) (wUn lenD (wVar 1))) (wUn allD (wLc (wRng1 (wACons (wUn lenD (wVar 0)) wANil)) (wName 2) wYes (wCall C (wACons (wBin ixD (wVar 0) (wVar 2)) (wACons (wBin ixD (wVar 1) (wVar 2)) wANil))) [2])))) wNext)
    (wSeq (wIfS (wTOr (wTru (wIsi "bool" (wVar 0))) (wTru (wIsi "bool" (wVar 1)))) (wRet (wAnd (wIsi "bool" (wVar 0)) (wAnd (wIsi "bool" (wVar 1)) (wBin eqD (wVar 0) (wVar 1))))) wNext)
    (wSeq (wIfS (wTOr (wTAnd (wTru (wIsi "int" (wVar 0))) (wTru (wIsi "int" (wVar 1)))) (wTAnd (wTru (wIsi "str" (wVar 0))) (wTru (wIsi "str" (wVar 1))))) (wRet (wBin eqD (wVar 0) (wVar 1))) wNext)
    (wRet (wAnd (wBin isD (wVar 0) (wC .non)) (wBin isD (wVar 1) (wC .non)))))))
theorem sameL_len : ∀ (a b : List D), a.length ≠ b.length → sameL a b = false
  | [], [], h => (h rfl).elim
  | [], _ :: _, _ => by simp [sameL]
  | _ :: _, [], _ => by simp [sameL]
  | a :: l, b :: m, h => by
    rw [sameL, sameL_len l m fun e => h (by rw [List.length_cons, List.length_cons, e]), Bool.and_false]
theorem sameL_all : ∀ (a b : List D), a.length = b.length → (((List.range a.length).map fun k => D.bl (sameD (a.getD k .non) (b.getD k .non))).all blOf) = sameL a b
  | [], [], _ => by simp [sameL]
  | a :: l, b :: m, h => by
    rw [List.length_cons, List.range_succ_eq_map, List.map_cons, List.map_map, List.all_cons, sameL]
    have := sameL_all l m (by simpa using h)
    rw [← this]
    rfl
theorem bls_map {α : Type} (f : α → Bool) (l : List α) : ((l.map fun k => D.bl (f k)).all isBl) = true := by
  rw [List.all_map]
  exact List.all_eq_true.mpr fun _ _ => rfl
theorem same_seq {m : Nat} {a b : List D} {mk : List D → D} {Q : R → Prop} (hmk : mk = .tup ∨ mk = .lst) (fa : ∀ x ∈ a, FlatS m x) (fb : ∀ x ∈ b, Flat m x) (ha : a.length ≤ sizeLine) (q : Q (.val (.bl (sameL a b)))) :
    wRet (wAnd (wBin eqD (wUn lenD (wVar 0)) (wUn lenD (wVar 1))) (wUn allD (wLc (wRng1 (wACons (wUn lenD (wVar 0)) wANil)) (wName 2) wYes (wCall (C_same (m + 1)) (wACons (wBin ixD (wVar 0) (wVar 2)) (wACons (wBin ixD (wVar 1) (wVar 2)) wANil))) [2])))
      { nx := fun _ => Q (.val .non), rt := Q } [.val (mk a), .val (mk b), .un] := by
  rcases hmk with rfl | rfl
  all_goals
    refine And.intro trivial (And.intro trivial ?_)
    refine ite_w (fun h => ?_) (fun h => ?_)
    · rw [eqv_int, decide_eq_true_eq] at h
      have hl : a.length = b.length := by omega
      refine And.intro (small_nat ha) ?_
      refine lc0Y (fun k => D.bl (sameD (a.getD k .non) (b.getD k .non))) (by exact ha) (fun k hk C hC => ?_) ?_
      · have hk : k < a.length := hk
        have hk2 : k < b.length := by omega
        refine Exists.intro _ (And.intro (atI_lt hk) ?_)
        refine Exists.intro _ (And.intro (atI_lt hk2) ?_)
        refine Exists.intro _ (Exists.intro _ (And.intro rfl (And.intro (fa _ (List.getElem_mem hk)) (And.intro (fb _ (List.getElem_mem hk2)) ?_))))
        have e1 : a.getD k .non = a[k] := by rw [List.getD_eq_getElem?_getD, List.getElem?_eq_getElem hk]; rfl
        have e2 : b.getD k .non = b[k] := by rw [List.getD_eq_getElem?_getD, List.getElem?_eq_getElem hk2]; rfl
        rw [e1, e2] at hC
        exact hC
      · refine And.intro (bls_map _ _) ?_
        show Q (.val (.bl _))
        rw [show ((a.length : Int)).toNat = a.length from Int.toNat_natCast _, sameL_all a b hl]
        exact q
    · rw [eqv_int, decide_eq_false_iff_not] at h
      have hl : a.length ≠ b.length := fun e => h (by rw [e])
      rw [sameL_len a b hl] at q
      exact (show eqv (.int (a.length : Int)) (.int (b.length : Int)) = false by rw [eqv_int, decide_eq_false_iff_not]; exact h) ▸ q
theorem sameD_str (a b : List Nat) : sameD (.str a) (.str b) = decide (a = b) := by
  rw [sameD]
  by_cases h : a = b <;> simp [h]
theorem vc_same : ∀ (m : Nat) (ds : List D) (Q : R → Prop), C_same (m + 1) ds Q → b_same (C_same m) { nx := fun _ => Q (.val .non), rt := Q } (start3 ["a", "b", "k"] ds) := by
  rintro m ds Q ⟨a, b, rfl, fa, fb, q⟩
  rw [start3_2]
  cases a <;> cases b
  case str.str a b => exact And.intro trivial (And.intro trivial (show Q (.val (.bl (eqv (.str a) (.str b)))) by rw [eqv_str, ← sameD_str]; exact q))
  case bl.bl a b => exact And.intro trivial (And.intro trivial (show Q (.val (.bl (eqv (.bl a) (.bl b)))) from eqv_bl a b ▸ (by simpa [sameD, Bool.beq_eq_decide_eq] using q)))
  case tup.tup a b =>
    cases m with
    | zero => exact fa.elim
    | succ m => exact same_seq (.inl rfl) fa.2 fb fa.1 (by simpa [sameD] using q)
  case lst.lst a b =>
    cases m with
    | zero => exact fa.elim
    | succ m => exact same_seq (.inr rfl) fa.2 fb fa.1 (by simpa [sameD] using q)
  all_goals first
    | exact (not_flat_dik fa.flat).elim
    | exact (not_flat_dit fa.flat).elim
    | exact (not_flat_dik fb).elim
    | exact (not_flat_dit fb).elim
    | exact (not_flat_ty fa.flat).elim
    | exact (not_flat_ty fb).elim
    | exact (not_flat_box fa.flat).elim
    | exact (not_flat_box fb).elim
    | exact (not_flat_obj fa.flat).elim
    | exact (not_flat_obj fb).elim
    | exact q
    | exact And.intro trivial (And.intro trivial (eqv_int _ _ ▸ q))
end L2.W3

/-! Words: periods, roots, commuting. -/
namespace L2.W3

/-- periods of a row without an end -/
def Per {α : Type} (f : Nat → α) (p : Nat) : Prop := ∀ i, f (i + p) = f i
section
variable {α : Type} {f : Nat → α} {p q : Nat}
theorem Per.zero : Per f 0 := fun _ => rfl
theorem Per.add (hp : Per f p) (hq : Per f q) : Per f (p + q) := fun i => by rw [← Nat.add_assoc, hq, hp]
theorem Per.mul (hp : Per f p) : ∀ n, Per f (n * p)
  | 0 => by rw [Nat.zero_mul]; exact Per.zero
  | n + 1 => by rw [Nat.succ_mul]; exact (Per.mul hp n).add hp
theorem Per.sub (hp : Per f p) (hq : Per f q) (h : q ≤ p) : Per f (p - q) := fun i => by
  rw [← hq (i + (p - q)), show i + (p - q) + q = i + p by omega, hp]
theorem Per.modP (hp : Per f p) (hq : Per f q) : Per f (p % q) := by
  have h := Nat.div_add_mod p q
  have h1 : p % q = p - (p / q) * q := by rw [Nat.mul_comm] at h; omega
  rw [h1]
  exact hp.sub (hq.mul _) (Nat.div_mul_le_self p q)
theorem Per.gcd : ∀ {p q : Nat}, Per f p → Per f q → Per f (Nat.gcd p q) := by
  intro p q
  induction p, q using Nat.gcd.induction with
  | H0 n => intro _ h; rwa [Nat.gcd_zero_left]
  | H1 m n _ ih => intro hm hn; rw [Nat.gcd_rec]; exact ih (hn.modP hm) hm
theorem Per.mod (hp : Per f p) (i : Nat) : f (i % p) = f i := by
  have h := Nat.mod_add_div i p
  conv => rhs; rw [← h, Nat.mul_comm]
  exact (hp.mul _ _).symm
end

/-- the letters of a word again and again -/
def cyc (w : List Nat) (i : Nat) : Nat := w.getD (i % w.length) 0
theorem cyc_lt {w : List Nat} {i : Nat} (h : i < w.length) : cyc w i = w.getD i 0 := by rw [cyc, Nat.mod_eq_of_lt h]
theorem cyc_per (w : List Nat) : Per (cyc w) w.length := fun i => by rw [cyc, cyc, Nat.add_mod_right]
/-- words of one length with the same letters are the same -/
theorem ext_getD {a b : List Nat} (h : a.length = b.length) (h2 : ∀ i, i < a.length → a.getD i 0 = b.getD i 0) : a = b := by
  refine List.ext_getElem h fun i h3 h4 => ?_
  have := h2 i h3
  rwa [List.getD_eq_getElem?_getD, List.getD_eq_getElem?_getD, List.getElem?_eq_getElem h3, List.getElem?_eq_getElem h4] at this
theorem ext_cyc {a b : List Nat} (h : a.length = b.length) (h2 : ∀ i, i < a.length → cyc a i = cyc b i) : a = b :=
  ext_getD h fun i hi => by rw [← cyc_lt hi, ← cyc_lt (h ▸ hi)]; exact h2 i hi
theorem getD_take {w : List Nat} {k i : Nat} (h : i < k) : (w.take k).getD i 0 = w.getD i 0 := by
  rw [List.getD_eq_getElem?_getD, List.getD_eq_getElem?_getD, List.getElem?_take_of_lt h]
theorem getD_drop {w : List Nat} {k i : Nat} : (w.drop k).getD i 0 = w.getD (k + i) 0 := by
  rw [List.getD_eq_getElem?_getD, List.getD_eq_getElem?_getD, List.getElem?_drop]
theorem getD_append {a b : List Nat} {i : Nat} : (a ++ b).getD i 0 = if i < a.length then a.getD i 0 else b.getD (i - a.length) 0 := by
  rw [List.getD_eq_getElem?_getD, List.getElem?_append]
  split <;> rw [List.getD_eq_getElem?_getD]
/-- where a word stands in itself twice -/
theorem stands_iff {w : List Nat} {k : Nat} (hw : w ≠ []) (hk : k ≤ w.length) : stands w (w ++ w) k = true ↔ Per (cyc w) k := by
  have hn : 0 < w.length := List.length_pos_iff.mpr hw
  unfold stands
  rw [beq_iff_eq]
  have hl : (((w ++ w).drop k).take w.length).length = w.length := by
    rw [List.length_take, List.length_drop, List.length_append]; omega
  have hc : ∀ i, i < w.length → (((w ++ w).drop k).take w.length).getD i 0 = cyc w (i + k) := fun i hi => by
    rw [getD_take hi, getD_drop, getD_append, cyc]
    split
    · rename_i h
      rw [Nat.mod_eq_of_lt (by omega), Nat.add_comm]
    · rename_i h
      rw [Nat.add_comm i k, Nat.mod_eq_sub_mod (by omega), Nat.mod_eq_of_lt (by omega)]
  constructor
  · intro h i
    have h1 : ∀ j, j < w.length → cyc w (j + k) = cyc w j := fun j hj => by
      rw [← hc j hj, h, cyc_lt hj]
    have h2 := h1 (i % w.length) (Nat.mod_lt _ hn)
    rw [(cyc_per w).mod i] at h2
    rw [← h2]
    have h3 : cyc w ((i + k) % w.length) = cyc w ((i % w.length + k) % w.length) := by rw [Nat.mod_add_mod]
    rwa [(cyc_per w).mod, (cyc_per w).mod] at h3
  · intro h
    exact ext_getD hl fun i hi => by
      rw [hl] at hi
      rw [hc i hi, h i, cyc_lt hi]
theorem flatten_len (v : List Nat) : ∀ n, ((List.replicate n v).flatten).length = n * v.length
  | 0 => by simp
  | n + 1 => by rw [List.replicate_succ, List.flatten_cons, List.length_append, flatten_len v n, Nat.succ_mul, Nat.add_comm]
theorem cyc_append {a b : List Nat} (h : cyc a = cyc b) : cyc (a ++ b) = cyc a := by
  funext i
  have pa := cyc_per a
  have pb : Per (cyc a) b.length := h ▸ cyc_per b
  rw [← (cyc_per (a ++ b)).mod i, ← ((pa.add pb).mod i), List.length_append]
  by_cases h0 : a.length + b.length = 0
  · have : a = [] := List.length_eq_zero_iff.mp (by omega)
    have : b = [] := List.length_eq_zero_iff.mp (by omega)
    subst a; subst b; rfl
  have hm : i % (a.length + b.length) < a.length + b.length := Nat.mod_lt _ (by omega)
  generalize i % (a.length + b.length) = j at hm
  rw [cyc_lt (by rw [List.length_append]; exact hm), getD_append]
  split
  · rename_i hj; rw [cyc_lt hj]
  · rename_i hj
    rw [← cyc_lt (w := b) (i := j - a.length) (by omega), ← h, ← pa (j - a.length)]
    congr 1; omega
theorem cyc_rep {v : List Nat} : ∀ {n : Nat}, 1 ≤ n → cyc ((List.replicate n v).flatten) = cyc v
  | 1, _ => by simp
  | n + 2, _ => by
    rw [List.replicate_succ, List.flatten_cons, cyc_append]
    exact (cyc_rep (n := n + 1) (by omega)).symm
theorem take_rep {w : List Nat} {k : Nat} (hk : k ∣ w.length) (hp : Per (cyc w) k) : (List.replicate (w.length / k) (w.take k)).flatten = w := by
  obtain ⟨m, hm⟩ := hk
  by_cases h0 : w.length = 0
  · have : w = [] := List.length_eq_zero_iff.mp h0
    subst this; simp
  have hk0 : 0 < k := Nat.pos_of_ne_zero fun h => h0 (by rw [hm, h, Nat.zero_mul])
  have hm0 : 0 < m := Nat.pos_of_ne_zero fun h => h0 (by rw [hm, h, Nat.mul_zero])
  have hd : w.length / k = m := by rw [hm, Nat.mul_div_cancel_left _ hk0]
  have hkl : k ≤ w.length := by rw [hm]; exact Nat.le_mul_of_pos_right k hm0
  have tl : (w.take k).length = k := by rw [List.length_take]; omega
  rw [hd]
  refine ext_cyc (by rw [flatten_len, tl, hm, Nat.mul_comm]) fun i _ => ?_
  rw [cyc_rep hm0, ← hp.mod i, cyc, tl, getD_take (Nat.mod_lt _ hk0), cyc_lt (by have := Nat.mod_lt i hk0; omega)]

/-! ### the root -/
def rl (w : List Nat) : Nat := (findFrom (w ++ w) w 1).toNat
theorem head_filter_some {p : Nat → Bool} : ∀ {l : List Nat} {k : Nat}, (l.filter p).head? = some k → k ∈ l ∧ p k = true := by
  intro l k h
  have := List.mem_of_head? h
  exact List.mem_filter.mp this
theorem head_filter_least {p : Nat → Bool} : ∀ {l : List Nat} {k : Nat}, l.Pairwise (· < ·) → (l.filter p).head? = some k → ∀ j ∈ l, p j = true → k ≤ j := by
  intro l k hs h j hj hp
  have hs2 : (l.filter p).Pairwise (· < ·) := hs.filter p
  have hm : j ∈ l.filter p := List.mem_filter.mpr ⟨hj, hp⟩
  cases e : l.filter p with
  | nil => rw [e] at h; cases h
  | cons a r =>
    rw [e] at h hs2 hm
    cases h
    rcases List.mem_cons.mp hm with h1 | h1
    · omega
    · exact Nat.le_of_lt (List.rel_of_pairwise_cons hs2 h1)
theorem head_filter_none {p : Nat → Bool} {l : List Nat} (h : (l.filter p).head? = none) : ∀ j ∈ l, ¬ p j = true := by
  intro j hj hp
  rw [List.head?_eq_none_iff] at h
  have hm : j ∈ l.filter p := List.mem_filter.mpr ⟨hj, hp⟩
  rw [h] at hm; cases hm
theorem rl_spec {w : List Nat} (hw : w ≠ []) : findFrom (w ++ w) w 1 = (rl w : Int) ∧ 1 ≤ rl w ∧ rl w ≤ w.length ∧ Per (cyc w) (rl w) ∧ ∀ k, 1 ≤ k → Per (cyc w) k → rl w ≤ k := by
  have hn : 0 < w.length := List.length_pos_iff.mpr hw
  have hfull : w.length ∈ List.range ((w ++ w).length + 1) := List.mem_range.mpr (by rw [List.length_append]; omega)
  have hst : stands w (w ++ w) w.length = true := (stands_iff hw (Nat.le_refl _)).mpr (cyc_per w)
  have hs : (List.range ((w ++ w).length + 1)).Pairwise (· < ·) := List.pairwise_lt_range
  cases e : ((List.range ((w ++ w).length + 1)).filter fun k => decide (1 ≤ k) && stands w (w ++ w) k).head? with
  | none => exact absurd (by simp [hst]; omega) (head_filter_none e _ hfull)
  | some k =>
    have he : findFrom (w ++ w) w 1 = (k : Int) := by unfold findFrom; rw [e]
    have hr : rl w = k := by unfold rl; rw [he]; exact Int.toNat_natCast k
    obtain ⟨_, hp⟩ := head_filter_some e
    rw [Bool.and_eq_true, decide_eq_true_eq] at hp
    have hk : k ≤ w.length := head_filter_least hs e _ hfull (by simp [hst]; omega)
    refine ⟨by rw [hr]; exact he, by rw [hr]; exact hp.1, by rw [hr]; exact hk, by rw [hr]; exact (stands_iff hw hk).mp hp.2, fun j hj hjp => ?_⟩
    rw [hr]
    by_cases hjl : j ≤ w.length
    · exact head_filter_least hs e _ (List.mem_range.mpr (by rw [List.length_append]; omega)) (by rw [Bool.and_eq_true, decide_eq_true_eq]; exact ⟨hj, (stands_iff hw hjl).mpr hjp⟩)
    · omega
theorem rl_dvd {w : List Nat} (hw : w ≠ []) : rl w ∣ w.length := by
  obtain ⟨_, h1, _, hp, hl⟩ := rl_spec hw
  have hg := hp.gcd (cyc_per w)
  have hpos : 0 < Nat.gcd (rl w) w.length := Nat.gcd_pos_of_pos_left _ h1
  have h2 := hl _ hpos hg
  have h3 : Nat.gcd (rl w) w.length ∣ rl w := Nat.gcd_dvd_left ..
  have h4 := Nat.le_of_dvd h1 h3
  have h5 : Nat.gcd (rl w) w.length = rl w := by omega
  rw [← h5]
  exact Nat.gcd_dvd_right ..
theorem rl_cyc {w v : List Nat} (hw : w ≠ []) (hv : v ≠ []) (h : cyc w = cyc v) : rl w = rl v := by
  obtain ⟨_, a1, _, a2, a3⟩ := rl_spec hw
  obtain ⟨_, b1, _, b2, b3⟩ := rl_spec hv
  have := a3 _ b1 (h ▸ b2)
  have := b3 _ a1 (h ▸ a2)
  omega
theorem take_cyc {w v : List Nat} {k : Nat} (h : cyc w = cyc v) (h1 : k ≤ w.length) (h2 : k ≤ v.length) : w.take k = v.take k := by
  refine ext_getD (by rw [List.length_take, List.length_take]; omega) fun i hi => ?_
  rw [List.length_take] at hi
  rw [getD_take (by omega), getD_take (by omega), ← cyc_lt (by omega), ← cyc_lt (w := v) (by omega), h]
/-- the law's own root -/
def lks (w : List Nat) : List Nat := (List.range' 1 w.length).filter fun k => decide (w.length / k * k = w.length) && decide ((List.replicate (w.length / k) (w.take k)).flatten = w)
theorem lks_iff {w : List Nat} {k : Nat} (hk : 1 ≤ k) (hkl : k ≤ w.length) : (decide (w.length / k * k = w.length) && decide ((List.replicate (w.length / k) (w.take k)).flatten = w)) = true ↔ k ∣ w.length ∧ Per (cyc w) k := by
  rw [Bool.and_eq_true, decide_eq_true_eq, decide_eq_true_eq]
  constructor
  · rintro ⟨h1, h2⟩
    refine ⟨⟨w.length / k, by rw [Nat.mul_comm]; exact h1.symm⟩, ?_⟩
    have h3 : cyc w = cyc (w.take k) := by
      conv => lhs; rw [← h2]
      exact cyc_rep (Nat.div_pos hkl hk)
    have h4 := cyc_per (w.take k)
    rw [List.length_take, Nat.min_eq_left hkl] at h4
    rw [h3]; exact h4
  · rintro ⟨h1, h2⟩
    exact ⟨Nat.div_mul_cancel h1, take_rep h1 h2⟩
theorem lks_head {w : List Nat} (hw : w ≠ []) : (lks w).head? = some (rl w) := by
  obtain ⟨_, a1, a0, a2, a3⟩ := rl_spec hw
  have hm : rl w ∈ List.range' 1 w.length := List.mem_range'_1.mpr ⟨a1, by omega⟩
  have ht := (lks_iff a1 a0).mpr ⟨rl_dvd hw, a2⟩
  cases e : (lks w).head? with
  | none => exact (head_filter_none e _ hm ht).elim
  | some k =>
    obtain ⟨hk, hp⟩ := head_filter_some e
    have hk := List.mem_range'_1.mp hk
    have h1 := a3 _ hk.1 ((lks_iff hk.1 (by omega)).mp hp).2
    have h2 := head_filter_least (List.pairwise_lt_range' ..) e _ hm ht
    rw [show k = rl w by omega]
/-! ### commuting -/
theorem comm_cyc : ∀ (n : Nat) {x y : List Nat}, x.length + y.length ≤ n → x ≠ [] → y ≠ [] → x ++ y = y ++ x → cyc x = cyc y
  | 0, x, y, hn, hx, _, _ => (hx (List.length_eq_zero_iff.mp (by omega))).elim
  | n + 1, x, y, hn, hx, hy, h => by
    have key : ∀ {a b : List Nat}, a.length + b.length ≤ n + 1 → a ≠ [] → b ≠ [] → a ++ b = b ++ a → a.length ≤ b.length → cyc a = cyc b := by
      intro a b hn ha hb h hl
      have hp : a <+: b := by
        have h1 : a <+: b ++ a := ⟨b, h⟩
        exact List.prefix_of_prefix_length_le h1 (List.prefix_append b a) hl
      obtain ⟨c, rfl⟩ := hp
      by_cases hc : c = []
      · subst hc; rw [List.append_nil]
      have hcc : a ++ c = c ++ a := by
        rw [List.append_assoc] at h
        exact List.append_cancel_left h
      have hal : 0 < a.length := List.length_pos_iff.mpr ha
      rw [List.length_append] at hn
      have := comm_cyc n (x := a) (y := c) (by omega) ha hc hcc
      exact (cyc_append this).symm
    rcases Nat.le_total x.length y.length with hl | hl
    · exact key hn hx hy h hl
    · exact (key (by omega) hy hx h.symm hl).symm
/-- copies of one word commute -/
theorem rep_comm (v : List Nat) (a b : Nat) : (List.replicate a v).flatten ++ (List.replicate b v).flatten = (List.replicate b v).flatten ++ (List.replicate a v).flatten := by
  rw [← List.flatten_append, ← List.flatten_append, List.replicate_append_replicate, List.replicate_append_replicate, Nat.add_comm]
theorem rl_rep {w : List Nat} (hw : w ≠ []) : (List.replicate (w.length / rl w) (w.take (rl w))).flatten = w := take_rep (rl_dvd hw) (rl_spec hw).2.2.2.1
theorem same_root_comm {x y : List Nat} (hx : x ≠ []) (hy : y ≠ []) (h : x.take (rl x) = y.take (rl y)) : x ++ y = y ++ x := by
  rw [← rl_rep hx, ← rl_rep hy, ← h]
  exact rep_comm ..
theorem comm_root {x y : List Nat} (hx : x ≠ []) (hy : y ≠ []) (h : x ++ y = y ++ x) : x.take (rl x) = y.take (rl y) := by
  have hc := comm_cyc _ (Nat.le_refl _) hx hy h
  have e := rl_cyc hx hy hc
  rw [e]
  exact take_cyc hc (e ▸ (rl_spec hx).2.2.1) (rl_spec hy).2.2.1
theorem comm_root2 {x y : List Nat} (hx : x ≠ []) (hy : y ≠ []) (h : x ++ y = y ++ x) : (x ++ y).take (rl (x ++ y)) = x.take (rl x) := by
  have hc : cyc (x ++ y) = cyc x := cyc_append (comm_cyc _ (Nat.le_refl _) hx hy h)
  have hxy : x ++ y ≠ [] := fun e => hx (List.append_eq_nil_iff.mp e).1
  have e := rl_cyc hxy hx hc
  rw [e]
  exact take_cyc hc (e ▸ (rl_spec hxy).2.2.1) (rl_spec hx).2.2.1

/-! ### two periods -/
def PerOn {α : Type} (f : Nat → α) (L p : Nat) : Prop := ∀ i, i + p < L → f (i + p) = f i
theorem PerOn.mod {α : Type} {f : Nat → α} {L p : Nat} (h : PerOn f L p) (hp : 0 < p) : ∀ i, i < L → f i = f (i % p) := by
  intro i
  induction i using Nat.strongRecOn with
  | ind i ih =>
    intro hi
    by_cases h1 : i < p
    · rw [Nat.mod_eq_of_lt h1]
    · have h2 := h (i - p) (by omega)
      rw [show i - p + p = i by omega] at h2
      rw [h2, ih (i - p) (by omega) (by omega), (Nat.mod_eq_sub_mod (a := i) (b := p) (by omega))]
theorem fine_wilf {α : Type} {f : Nat → α} : ∀ (n : Nat) {p q L : Nat}, p + q ≤ n → 0 < p → 0 < q → p + q ≤ L + Nat.gcd p q → PerOn f L p → PerOn f L q → ∀ i, i < L → f i = f (i % Nat.gcd p q)
  | 0, p, q, L, hn, hp, _, _, _, _ => by omega
  | n + 1, p, q, L, hn, hp, hq, hL, fp, fq => by
    have key : ∀ {p q : Nat}, p + q ≤ n + 1 → 0 < q → q < p → p + q ≤ L + Nat.gcd p q → PerOn f L p → PerOn f L q → ∀ i, i < L → f i = f (i % Nat.gcd p q) := by
      intro p q hn hq hqp hL fp fq i hi
      have hg : Nat.gcd (p - q) q = Nat.gcd p q := by
        conv => rhs; rw [show p = (p - q) + q by omega, Nat.gcd_add_self_left]
      have hgq : Nat.gcd p q ∣ q := Nat.gcd_dvd_right ..
      have hgd : Nat.gcd p q ∣ p - q := by rw [← hg]; exact Nat.gcd_dvd_left ..
      have hgp : 0 < Nat.gcd p q := Nat.gcd_pos_of_pos_right _ hq
      have hgl := Nat.le_of_dvd (by omega) hgd
      have f1 : PerOn f (L - q) (p - q) := fun j hj => by
        rw [← fq (j + (p - q)) (by omega), show j + (p - q) + q = j + p by omega, fp j (by omega)]
      have f2 : PerOn f (L - q) q := fun j hj => fq j (by omega)
      have ih := fine_wilf n (p := p - q) (q := q) (L := L - q) (by omega) (by omega) hq (by rw [hg]; omega) f1 f2
      rw [hg] at ih
      rw [fq.mod hq i hi]
      have hm := Nat.mod_lt i hq
      rw [ih (i % q) (by omega), Nat.mod_mod_of_dvd _ hgq]
    rcases Nat.lt_trichotomy p q with h | h | h
    · intro i hi
      have := key (p := q) (q := p) (by omega) hp h (by rw [Nat.gcd_comm]; omega) fq fp i hi
      rwa [Nat.gcd_comm] at this
    · subst h
      rw [Nat.gcd_self]
      exact fp.mod hp
    · exact key hn hq h hL fp fq
/-- two words whose joins are the same so far commute -/
theorem join_comm {x y : List Nat} (hx : x ≠ []) (hy : y ≠ []) (h : ∀ k, k + Nat.gcd x.length y.length < x.length + y.length → (x ++ y).getD k 0 = (y ++ x).getD k 0) : x ++ y = y ++ x := by
  have hp : 0 < x.length := List.length_pos_iff.mpr hx
  have hq : 0 < y.length := List.length_pos_iff.mpr hy
  have hgp : 0 < Nat.gcd x.length y.length := Nat.gcd_pos_of_pos_right _ hq
  have g1 : Nat.gcd x.length y.length ∣ x.length := Nat.gcd_dvd_left ..
  have g2 : Nat.gcd x.length y.length ∣ y.length := Nat.gcd_dvd_right ..
  have l1 := Nat.le_of_dvd hp g1
  have l2 := Nat.le_of_dvd hq g2
  generalize hg : Nat.gcd x.length y.length = g at *
  have h1 : PerOn (fun k => (x ++ y).getD k 0) (x.length + y.length - g) x.length := fun i hi => by
    show (x ++ y).getD (i + x.length) 0 = (x ++ y).getD i 0
    rw [getD_append, if_neg (by omega), h i (by omega), getD_append, if_pos (by omega)]
    congr 1; omega
  have h2 : PerOn (fun k => (x ++ y).getD k 0) (x.length + y.length - g) y.length := fun i hi => by
    show (x ++ y).getD (i + y.length) 0 = (x ++ y).getD i 0
    rw [h _ (by omega), getD_append, if_neg (by omega), getD_append (a := x), if_pos (by omega)]
    congr 1; omega
  have fw := fine_wilf _ (Nat.le_refl _) hp hq (by rw [hg]; omega) h1 h2
  rw [hg] at fw
  have cx : cyc x = fun i => (x ++ y).getD (i % g) 0 := by
    funext i
    have hm := Nat.mod_lt i hp
    have := fw (i % x.length) (by omega)
    rw [Nat.mod_mod_of_dvd _ g1, getD_append, if_pos hm] at this
    exact this
  have cy : cyc y = fun i => (x ++ y).getD (i % g) 0 := by
    funext i
    have hm := Nat.mod_lt i hq
    have := fw (i % y.length) (by omega)
    rw [Nat.mod_mod_of_dvd _ g2, h _ (by omega), getD_append, if_pos hm] at this
    exact this
  have c1 := cyc_append (cx.trans cy.symm)
  have c2 := cyc_append (cy.trans cx.symm)
  exact ext_cyc (by rw [List.length_append, List.length_append, Nat.add_comm]) fun i _ => by rw [c1, c2, cx, cy]
end L2.W3

/-! W3, part l: drawn words. -/
namespace L2.W3
open PySem PySem.Spec PyProof.Rows

theorem sL : sizeLine = 16777216 := rfl
theorem str_gD {s : List Nat} {k : Nat} (h : k < s.length) : atI s (k : Int) = some (s.getD k 0) := by
  rw [atI_lt h, List.getD_eq_getElem?_getD, List.getElem?_eq_getElem h]; rfl
theorem rng_get {lo : Int} {n i : Nat} {d : D} (h : (rng lo 1 n)[i]? = some d) : i < n ∧ d = .int (lo + (i : Int)) := by
  rw [rng_l1, List.getElem?_map] at h
  by_cases hi : i < n
  · rw [List.getElem?_range hi] at h
    cases h
    exact ⟨hi, rfl⟩
  · rw [List.getElem?_eq_none (by rw [List.length_range]; omega)] at h
    cases h
theorem rng_len {lo c : Int} {n : Nat} : (rng lo c n).length = n := by unfold rng; simp

theorem load_ix (n : Nat) : seqIndex? 0 (n + 1) = some 0 := by
  simp [seqIndex?]

/-! ### numbers mixed -/
def b_mix : WS :=
  (wSeq (wSet 0 (wBin modD (wUn intD (wBin addD (wBin mulD (wVar 0) (wC (.int 6364136223846793005))) (wC (.int 1442695040888963407)))) (wC (.int 18446744073709551616))))
    (wRet (wBin modD (wUn intD (wBin addD (wBin fdivD (wBin mulD (wVar 0) (wVar 0)) (wC (.int 4294967296))) (wBin mulD (wVar 0) (wC (.int 69621))))) (wC (.int 18446744073709551557)))))
theorem vc_mix : ∀ ds Q, C_any1 ds Q → b_mix { nx := fun _ => Q (.val .non), rt := Q } (start3 ["number"] ds) := by
  rintro ds Q ⟨i, rfl, q⟩
  refine And.intro (.inl (.inr ⟨by decide, by decide⟩)) (And.intro (by decide) ?_)
  have hb := Int.emod_nonneg (i * 6364136223846793005 + 1442695040888963407) (show (18446744073709551616 : Int) ≠ 0 by decide)
  have hb2 := Int.emod_lt_of_pos (i * 6364136223846793005 + 1442695040888963407) (show (0 : Int) < 18446744073709551616 by decide)
  have m1 : MulI ((i * 6364136223846793005 + 1442695040888963407) % 18446744073709551616) ((i * 6364136223846793005 + 1442695040888963407) % 18446744073709551616) := .inl (.inl ⟨by omega, by omega⟩)
  refine And.intro m1 (And.intro (wide_div (b := 64) (by decide) (by decide) (by decide) (by decide)) (And.intro (.inl (.inr ⟨by decide, by decide⟩)) (And.intro (by decide) ?_)))
  exact q _

/-! ### a word of drawn letters -/
/-- at most m of the first k letters -/
def Wd (m k : Nat) (s : List Nat) : Prop := s.length ≤ m ∧ ∀ c ∈ s, 97 ≤ c ∧ c < 97 + k
theorem Wd.mono {m k m2 k2 : Nat} {s : List Nat} (h : Wd m k s) (h1 : m ≤ m2) (h2 : k ≤ k2) : Wd m2 k2 s := ⟨Nat.le_trans h.1 h1, fun c hc => ⟨(h.2 c hc).1, by have := (h.2 c hc).2; omega⟩⟩
def abc : List Nat := [97, 98, 99, 100, 101, 102, 103, 104, 105, 106, 107, 108, 109, 110, 111, 112, 113, 114, 115, 116, 117, 118, 119, 120, 121, 122]
theorem abc_get : ∀ j : Nat, j < 26 → atI abc (j : Int) = some ((97 + j : Nat)) := by decide
def C_letters : Con := fun ds P => ∃ m k : Nat, ds = [.box, .int m, .int k] ∧ m ≤ 1000 ∧ 1 ≤ k ∧ k ≤ 26 ∧ ∀ s, Wd m k s → P (.val (.str s))
def b_letters : WS :=
  (wRet (wStrM joinD (wC (.str [])) (wLc (wRng1 (wACons (wCall C_draw (wACons (wVar 0) (wACons (wBin addD (wVar 1) (wC (.int 1))) wANil))) wANil)) (wName 3) wYes (wBin ixD (wC (.str [97, 98, 99, 100, 101, 102, 103, 104, 105, 106, 107, 108, 109, 110, 111, 112, 113, 114, 115, 116, 117, 118, 119, 120, 121, 122])) (wCall C_draw (wACons (wVar 0) (wACons (wVar 2) wANil)))) [3])))
/-- the letters of single texts -/
theorem flat_letters {m k : Nat} {l : List D} (hl : l.length ≤ m) (h : ∀ d ∈ l, ∃ c, 97 ≤ c ∧ c < 97 + k ∧ d = .str [c]) : l.all isStr = true ∧ (l.map fun d => (strOf d).length).sum = l.length ∧ Wd m k ((l.map strOf).flatten) := by
  induction l generalizing m with
  | nil => exact ⟨rfl, rfl, Nat.zero_le _, fun c hc => by cases hc⟩
  | cons d r ih =>
    obtain ⟨c, c1, c2, rfl⟩ := h d List.mem_cons_self
    rw [List.length_cons] at hl
    obtain ⟨h1, h2, h3, h4⟩ := ih (m := m - 1) (by omega) fun x hx => h x (List.mem_cons_of_mem _ hx)
    refine ⟨by rw [List.all_cons, h1]; rfl, by rw [List.map_cons, List.sum_cons, h2, List.length_cons]; show 1 + r.length = r.length + 1; omega, ?_, fun x hx => ?_⟩
    · rw [List.map_cons, List.flatten_cons, List.length_append]
      show 1 + _ ≤ m
      omega
    · rw [List.map_cons, List.flatten_cons] at hx
      rcases List.mem_append.mp hx with hx | hx
      · have hx : x ∈ [c] := hx
        rw [List.mem_singleton] at hx
        subst hx; exact ⟨c1, c2⟩
      · exact h4 x hx
theorem vc_letters : ∀ ds Q, C_letters ds Q → b_letters { nx := fun _ => Q (.val .non), rt := Q } (start3 ["tape", "most", "k", "turn"] ds) := by
  rintro ds Q ⟨m, k, rfl, hm, hk, hk2, q⟩
  refine Exists.intro _ (And.intro rfl (And.intro (by omega) (And.intro (by omega) fun r h0 h1 => ?_)))
  refine And.intro (by unfold SmallI; omega) ?_
  refine lc0A (fun d => ∃ c, 97 ≤ c ∧ c < 97 + k ∧ d = .str [c]) (by rw [sL]; show r.toNat ≤ _; omega) (fun x hx C hC => ?_) fun l hl hA => ?_
  · refine Exists.intro _ (And.intro rfl (And.intro (by omega) (And.intro (by omega) fun z z0 z1 => ?_)))
    refine And.intro (by exact Nat.le_of_ble_eq_true rfl) (Exists.intro (97 + z.toNat) (And.intro ?_ (hC _ ⟨_, by omega, by omega, rfl⟩)))
    have := abc_get z.toNat (by omega)
    rw [Int.toNat_of_nonneg z0] at this
    exact this
  · have hl : l.length = r.toNat := hl
    obtain ⟨f1, f2, f3⟩ := flat_letters (m := m) (k := k) (l := l) (by omega) hA
    refine And.intro f1 (And.intro (by rw [f2]; show l.length + l.length * 0 ≤ _; omega) ?_)
    show Q (.val (.str (joinS [] _)))
    rw [joinS_nil]
    exact q _ f3

/-! ### a word, or one that repeats a short one -/
def C_word : Con := fun ds P => ∃ m k : Nat, ds = [.box, .int m, .int k] ∧ 1 ≤ m ∧ m ≤ 1000 ∧ 1 ≤ k ∧ k ≤ 26 ∧ ∀ s, Wd m k s → P (.val (.str s))
def b_word : WS :=
  (wSeq (wIfS (wTB (wBin eqD (wCall C_draw (wACons (wVar 0) (wACons (wC (.int 2)) wANil))) (wC (.int 0)))) (wRet (wCall C_letters (wACons (wVar 0) (wACons (wVar 1) (wACons (wVar 2) wANil))))) wNext)
    (wSeq (wSet 3 (wBin addD (wCall C_letters (wACons (wVar 0) (wACons (wBin max2D (wC (.int 1)) (wBin fdivD (wVar 1) (wC (.int 3)))) (wACons (wVar 2) wANil)))) (wC (.str [97]))))
    (wSeq (wSet 4 (wSl (wBin mulD (wVar 3) (wVar 1)) wONone (wOSome (wCall C_draw (wACons (wVar 0) (wACons (wBin addD (wVar 1) (wC (.int 1))) wANil))))))
    (wSeq (wIfS (wTAnd (wTB (wBin neD (wVar 4) (wC (.str [])))) (wTB (wBin eqD (wCall C_draw (wACons (wVar 0) (wACons (wC (.int 4)) wANil))) (wC (.int 0))))) (wSeq (wSet 5 (wCall C_draw (wACons (wVar 0) (wACons (wUn lenD (wVar 4)) wANil))))
    (wSet 4 (wBin addD (wBin addD (wSl (wVar 4) wONone (wOSome (wVar 5))) (wBin ixD (wC (.str [97, 98, 99])) (wCall C_draw (wACons (wVar 0) (wACons (wBin min2D (wVar 2) (wC (.int 3))) wANil))))) (wSl (wVar 4) (wOSome (wBin addD (wVar 5) (wC (.int 1)))) wONone)))) wNext)
    (wRet (wVar 4))))))
theorem repN_mem {n : Int} {l : List Nat} {c : Nat} (h : c ∈ repN n l) : c ∈ l := by
  unfold repN at h
  obtain ⟨a, ha, hc⟩ := List.mem_flatten.mp h
  rw [List.eq_of_mem_replicate ha] at hc
  exact hc
theorem repN_len {n : Int} {l : List Nat} : (repN n l).length = n.toNat * l.length := by unfold repN; exact flatten_len ..
theorem vc_word : ∀ ds Q, C_word ds Q → b_word { nx := fun _ => Q (.val .non), rt := Q } (start3 ["tape", "most", "k", "short", "word", "at"] ds) := by
  rintro ds Q ⟨m, k, rfl, hm0, hm, hk, hk2, q⟩
  refine Exists.intro _ (And.intro rfl (And.intro (by decide) (And.intro (by decide) fun r _ _ => ?_)))
  refine And.intro trivial (And.intro trivial (ite_w (fun _ => ?_) fun _ => ?_))
  · exact Exists.intro m (Exists.intro k (And.intro rfl (And.intro hm (And.intro hk (And.intro hk2 q)))))
  refine And.intro (wide_div (b := 2) (by decide) (by decide) (by decide) (by decide)) ?_
  have e1 : ((max 1 (m / 3) : Nat) : Int) = max 1 ((m : Int) / 3) := by omega
  refine Exists.intro (max 1 (m / 3)) (Exists.intro k (And.intro (by rw [e1]) (And.intro (by omega) (And.intro hk (And.intro hk2 fun s hs => ?_)))))
  have hs1 : s.length ≤ 1000 := by have := hs.1; omega
  have hsa : (s ++ [97]).length = s.length + 1 := List.length_append
  have hmul : s.length * m ≤ 1000 * 1000 := Nat.mul_le_mul hs1 hm
  refine And.intro (by show s.length + 1 ≤ _; rw [sL]; omega) ?_
  refine And.intro (by omega) (And.intro (by omega) (And.intro (by rw [hsa, Int.toNat_natCast, Nat.succ_mul]; omega) ?_))
  refine Exists.intro _ (And.intro rfl (And.intro (by omega) (And.intro (by omega) fun r2 r20 r21 => ?_)))
  have hrl : (repN (m : Int) (s ++ [97])).length ≤ sizeLine := by rw [repN_len, hsa, Int.toNat_natCast, Nat.mul_succ, Nat.mul_comm, sL]; omega
  refine And.intro hrl ?_
  have ht : Wd m k (cut (repN (m : Int) (s ++ [97])) none (some r2)) := by
    obtain ⟨j, rfl⟩ := Int.eq_ofNat_of_zero_le r20
    rw [cut_to]
    refine ⟨by rw [List.length_take]; omega, fun c hc => ?_⟩
    rcases List.mem_append.mp (repN_mem (List.mem_of_mem_take hc)) with h | h
    · exact hs.2 c h
    · rw [List.mem_singleton] at h; omega
  generalize cut (repN (m : Int) (s ++ [97])) none (some r2) = t at ht ⊢
  have htl := ht.1
  refine And.intro trivial (And.intro trivial (ite_w (fun h => ?_) fun _ => ?_))
  · rw [eqv_str, Bool.not_eq_true', decide_eq_false_iff_not] at h
    have hpos : 0 < t.length := List.length_pos_iff.mpr h
    refine Exists.intro _ (And.intro rfl (And.intro (by decide) (And.intro (by decide) fun r3 _ _ => And.intro trivial (And.intro trivial (ite_w (fun _ => ?_) fun _ => ?_)))))
    · refine And.intro (by rw [sL]; omega) (Exists.intro _ (And.intro rfl (And.intro (by omega) (And.intro (by omega) fun r4 h40 h41 => ?_))))
      refine And.intro (by rw [sL]; omega) (Exists.intro _ (And.intro rfl (And.intro (by omega) (And.intro (by omega) fun r5 h50 h51 => ?_))))
      obtain ⟨j, rfl⟩ := Int.eq_ofNat_of_zero_le h40
      obtain ⟨z, rfl⟩ := Int.eq_ofNat_of_zero_le h50
      have hz : z < 3 := by omega
      refine And.intro (by exact Nat.le_of_ble_eq_true rfl) (Exists.intro (97 + z) (And.intro ((show ∀ z, z < 3 → atI [97, 98, 99] ((z : Nat) : Int) = some ((97 + z : Nat)) by decide) z hz) ?_))
      have l1 : (cut t none (some (j : Int))).length = j := by rw [cut_to, List.length_take]; omega
      have l2 : (cut t none (some (j : Int)) ++ [97 + z]).length = j + 1 := by rw [List.length_append, l1]; rfl
      have l3 : (cut t (some ((j : Int) + 1)) none).length = t.length - (j + 1) := by rw [show (j : Int) + 1 = ((j + 1 : Nat) : Int) by omega, cut_from, List.length_drop]
      refine And.intro (by rw [l1, sL]; show j + 1 ≤ _; omega) (And.intro (by rw [sL]; omega) (And.intro (by rw [l2, l3, sL]; omega) ?_))
      refine q _ ⟨by rw [List.length_append, l2, l3]; omega, fun c hc => ?_⟩
      rcases List.mem_append.mp hc with hc | hc
      · rcases List.mem_append.mp hc with hc | hc
        · exact ht.2 c (cut_mem hc)
        · rw [List.mem_singleton] at hc; omega
      · exact ht.2 c (cut_mem hc)
    · exact q _ ht
  · exact q _ ht
end L2.W3

/-! W3, part n: more that is walked. -/
namespace L2.W3
open PySem PySem.Spec PyProof.Rows

/-! ### enumerate(text) -/
def Itse (x : Str) : It := ⟨fun i _ => i < x.cps.size, fun i H v H' => ∃ T c, v = .ref T ∧ H T = none ∧ H' = upd H T (.tup [.int (i : Nat), .str ⟨#[c]⟩]) ∧ x.cps[i]? = some c, fun i _ => x.cps.size ≤ i⟩
theorem turn_enumS {P : Program} {w : World} {K : PySem.W.Frag} {elts : List Expr} {kk : Nat} {tpos : Pos} (x : Str) (t : Tok) (e it : Addr) :
    Turn P w K (.Tuple elts kk tpos) (Itse x) [e, it] e (fun i h => (∃ old, IsEnum h e it ((i : Nat) : Int) old) ∧ h.IsStrIter it (strIterType x) x t i ∧ e ≠ it) where
  mem := by simp
  obj := fun i h st b hb => by
    obtain ⟨⟨old, he⟩, ⟨o, ho, hc, hd⟩, _⟩ := st
    have e' : b = e ∨ b = it := by simpa using hb
    rcases e' with z | z
    · rw [z]; exact ⟨_, he, fun v q => nomatch q⟩
    · rw [z]; exact ⟨o, ho, fun v q => by rw [hd] at q; cases q⟩
  keep := fun i h h' st k => let ⟨⟨old, he⟩, ⟨o, ho, r⟩, hne⟩ := st; ⟨⟨old, k e (by simp) _ he⟩, ⟨o, k it (by simp) o ho, r⟩, hne⟩
  item := by
    intro X hP hw hK hc i pins s σ H E I hf st hg
    subst hP hw hK
    obtain ⟨⟨old, he⟩, hit, hne⟩ := st
    have hel : e < s.heap.objs.size := Heap.lt_size he
    have hil : it < s.heap.objs.size := by obtain ⟨_, q, _⟩ := hit; exact Heap.lt_size q
    have hd : X.A.in1.handled = none := I.ok.hd hc
    have D : Draws X.prog X.w X.A.in1 it [it] x.cps.size (fun i v => ∃ c u, x.cps[i]? = some c ∧ v = .str ⟨#[c]⟩ u) (fun i h => h.IsStrIter it (strIterType x) x t i) := by
      unfold strIterType
      split
      · exact Draws.strAscii hd it x t
      · exact Draws.strWide hd it x t
    refine wpAny_pyNext_enum_itemD D he hit hg hne (by simpa using hne) fun v h' tk hv ho hit' hT hsz hk => ?_
    obtain ⟨c, u, hcx, rfl⟩ := hv
    refine ⟨_, rfl, wpAny_letOwnedTupleGo_enum (s := { s with heap := h', toks := tk + 1 }) ho fun h'' he' sb => ?_⟩
    have hT2 : h''.get? s.heap.objs.size = some { cls := .type "tuple", data := .seq #[.int i tk, .str ⟨#[c]⟩ u] } := (sb.2 _ (Nat.ne_of_gt hel)).trans hT
    have new : ObjOk X.prog X.w (upd H s.heap.objs.size (.tup [.int (i : Nat), .str ⟨#[c]⟩])) h'' s.heap.objs.size (.tup [.int (i : Nat), .str ⟨#[c]⟩]) :=
      ⟨by show 2 ≤ sizeLine; decide, [.int i tk, .str ⟨#[c]⟩ u], .cons ⟨_, rfl⟩ (.cons ⟨_, rfl⟩ .nil), ⟨_, hT2, rfl, _, rfl⟩⟩
    have I1 : Inv X pins σ (upd H s.heap.objs.size (.tup [.int (i : Nat), .str ⟨#[c]⟩])) { s with heap := h'', toks := tk + 1 } :=
      I.turnedNew (ch := [e, it]) (fun b ob hb q => (sb.2 b (fun z => hb (by simp [z]))).trans (hk b ob (fun z => hb (by simp [z])) (fun z => hb (by simp [z])) q)) hf (Nat.le_refl _) new
    refine ⟨.ref s.heap.objs.size, _, I1, rfl, ⟨_, c, rfl, I.hok.fresh (Nat.le_refl _), rfl, hcx⟩, ⟨⟨.str ⟨#[c]⟩ u, ?_⟩, ?_, hne⟩, fun b hb => ?_⟩
    · have e1 : ((i + 1 : Nat) : Int) = (i : Int) + 1 := by omega
      rw [e1]; exact he'
    · obtain ⟨o, q1, q2⟩ := hit'
      exact ⟨o, (sb.2 it (Ne.symm hne)).trans q1, q2⟩
    · have hb' : b < s.heap.objs.size := by
        have e' : b = e ∨ b = it := by simpa using hb
        rcases e' with z | z
        · rw [z]; exact hel
        · rw [z]; exact hil
      rw [upd_ne (Nat.ne_of_lt hb')]
      exact (hf b hb).1
  done := by
    intro X hP hw hK hc i pins s σ H E I hf st hg
    subst hP hw hK
    obtain ⟨⟨old, he⟩, hit, hne⟩ := st
    have hd : X.A.in1.handled = none := I.ok.hd hc
    have hx : x.cps[i]? = none := Array.getElem?_eq_none hg
    obtain ⟨f0, f1, f2, f3, f4, f5⟩ := hf it (by simp)
    have D : Draws X.prog X.w X.A.in1 it [it] i (fun _ _ => True) (fun j h => i ≤ j ∧ h.IsStrIter it (strIterType x) x t j) := by
      refine ⟨fun _ _ st => ?_, fun _ _ _ st hk => ?_, fun j s Q E hi st hQ => absurd st.1 (by omega), fun s Q E st hE => ?_⟩
      · obtain ⟨_, o, ho, _⟩ := st; exact ⟨o, ho⟩
      · obtain ⟨q, o, ho, r⟩ := st; exact ⟨q, o, hk it (by simp) o ho, r⟩
      · have st := st.2
        cases ha : x.cps.all (· < 128)
        · rw [show strIterType x = "str_iterator" by simp [strIterType, ha]] at st
          exact wpAny_nextOf_wide_end hd st hx hE
        · rw [show strIterType x = "str_ascii_iterator" by simp [strIterType, ha]] at st
          exact wpAny_nextOf_ascii_end hd st hx hE
    exact wpAny_pyNext_enum_endD D he ⟨Nat.le_refl _, hit⟩ fun h' eb => ⟨rfl, I.turned (t' := s.toks) (fun b o hb q => eb b o hb q) f0 f1 f3 f4 f5⟩
  self := fun A i s Q E st h => let ⟨⟨_, he⟩, _⟩ := st; wpAny_pyIter_enum he h
def iEnumA (K : PySem.W.Frag) (ta : TA) : TI := fun σ H R => ta σ H fun vs H1 => (∃ a xs, vs = [.ref a] ∧ SqL K H1 a xs ∧ R (Ite K a) H1) ∨ ∃ x, vs = [.str x] ∧ R (Itse x) H1
theorem pi_enumA {X : Cx} {e : Expr} {ta : TA} {p pos tpos : Pos} {elts : List Expr} {kk : Nat} (hg : Gl X "enumerate") (hm : X.mg "enumerate" = none) (ha : PA X [e] ta) (hs : starEach [e] X.env = [(false, eval e X.env)] := by rfl) :
    PI X (.Tuple elts kk tpos) (.Call (.Name "enumerate" p) [e] [] pos) (iEnumA X.K ta) := by
  refine ⟨fun pins s σ H R I h => ?_⟩
  refine Call_ (ld_blt I hg hm boot_enumerate (PyProof.Rows.callWith_type1 (thn (ha.run pos pins s σ H _ I h) fun us s1 ⟨vs, H1, I1, r1, q1⟩ => ?_) hs rfl))
  rcases q1 with ⟨a, xs, ex, hq, q⟩ | ⟨x, ex, q⟩
  · subst ex
    cases r1 with
    | cons r rr =>
      cases rr
      cases r
      obtain ⟨its, rv, p', hz⟩ := I1.list hq
      refine call_enumerate_list p'.isList fun h' he hit hsz hk => wpAny_pyIter_enum he ?_
      have I2 : Inv X pins σ H1 { s1 with heap := h' } := I1.kept (t' := s1.toks) hk
      refine ⟨s1.heap.objs.size + 1, [s1.heap.objs.size + 1, s1.heap.objs.size], _, _, H1, rfl, I2, turn_enum a (s1.heap.objs.size + 1) s1.heap.objs.size, ⟨⟨.none, he⟩, hit, Nat.succ_ne_self _⟩, fun b hb => ?_, q⟩
      have e' : b = s1.heap.objs.size + 1 ∨ b = s1.heap.objs.size := by simpa using hb
      have hle : s1.heap.objs.size ≤ b := by
        rcases e' with z | z
        · rw [z]; exact Nat.le_add_right _ _
        · rw [z]; exact Nat.le_refl _
      exact I1.fpOk hle (I1.hok.fresh hle)
  · subst ex
    cases r1 with
    | cons r rr =>
      cases rr
      obtain ⟨t, rfl⟩ := r
      refine call_enumerate_str fun h' he hit hsz hk => wpAny_pyIter_enum he ?_
      have I2 : Inv X pins σ H1 { s1 with heap := h' } := I1.kept (t' := s1.toks) hk
      refine ⟨s1.heap.objs.size + 1, [s1.heap.objs.size + 1, s1.heap.objs.size], _, _, H1, rfl, I2, turn_enumS x t (s1.heap.objs.size + 1) s1.heap.objs.size, ⟨⟨.none, he⟩, hit, Nat.succ_ne_self _⟩, fun b hb => ?_, q⟩
      have e' : b = s1.heap.objs.size + 1 ∨ b = s1.heap.objs.size := by simpa using hb
      have hle : s1.heap.objs.size ≤ b := by
        rcases e' with z | z
        · rw [z]; exact Nat.le_add_right _ _
        · rw [z]; exact Nat.le_refl _
      exact I1.fpOk hle (I1.hok.fresh hle)
def enumD : Nat → List D → List D
  | _, [] => []
  | n, d :: l => .tup [.int (n : Nat), d] :: enumD (n + 1) l
theorem enumD_get : ∀ {l : List D} {n i : Nat} {d : D}, (enumD n l)[i]? = some d → ∃ x, l[i]? = some x ∧ d = .tup [.int ((n + i : Nat) : Int), x]
  | [], _, _, _, h => by cases h
  | x :: l, n, 0, d, h => by cases h; exact ⟨x, rfl, rfl⟩
  | x :: l, n, i + 1, d, h => by
    obtain ⟨y, h1, h2⟩ := enumD_get (l := l) (n := n + 1) (i := i) h
    exact ⟨y, h1, by rw [h2, show n + 1 + i = n + (i + 1) by omega]⟩
theorem enumD_getI : ∀ {l : List D} {n i : Nat} {x : D}, l[i]? = some x → (enumD n l)[i]? = some (.tup [.int ((n + i : Nat) : Int), x])
  | [], _, _, _, h => by cases h
  | x :: l, n, 0, d, h => by cases h; rfl
  | x :: l, n, i + 1, d, h => by
    have := enumD_getI (l := l) (n := n + 1) (i := i) h
    rw [show n + 1 + i = n + (i + 1) by omega] at this
    exact this
theorem enumD_len : ∀ {l : List D} {n : Nat}, (enumD n l).length = l.length
  | [], _ => rfl
  | x :: l, n => by rw [enumD, List.length_cons, List.length_cons, enumD_len]
/-- the pairs of a place and a thing -/
def wEnum (fa : WE) : WI := fun ρ Q => fa ρ fun r ρ1 => fz r ρ1 fun d ρ2 => match d with
  | .lst l => Q (enumD 0 l) ρ2
  | .str s => s.length ≤ sizeLine ∧ Q (enumD 0 (s.map fun c => .str [c])) ρ2
  | _ => False
section
variable {K : PySem.W.Frag} {B : Addr} {G H : Hp}
theorem itok_enum {a : Addr} {vs : List V} {l : List D} (h : G a = some (.lst vs)) (r : RepL K B G vs l) : ItOk K B G (Ite K a) (enumD 0 l) := by
  refine ⟨fun i H g hi => ?_, fun i H g hi => ⟨vs, .inl (.inl (g _ _ h)), by rw [r.length, ← enumD_len]; exact hi⟩, fun i H x H' g hi hy => ?_⟩
  · rw [enumD_len] at hi
    obtain ⟨v, hv, _⟩ := r.get (List.getElem?_eq_getElem hi)
    exact ⟨vs, v, .inl (.inl (g _ _ h)), hv⟩
  · obtain ⟨T, x, rfl, hT, rfl, hx⟩ := hy
    obtain ⟨d, hd, q⟩ := r.getV (hx vs (.inl (.inl (g _ _ h))))
    refine ⟨_, enumD_getI hd, .inl (.inr ⟨T, _, _, rfl, hT, rfl, rfl, .cons ?_ (.cons q .nil)⟩)⟩
    rw [Nat.zero_add]; exact .int _
theorem itok_enumS {s : List Nat} (o : okS s = true) : ItOk K B G (Itse ⟨s.toArray⟩) (enumD 0 (s.map fun c => .str [c])) := by
  refine ⟨fun i H g hi => ?_, fun i H g hi => ?_, fun i H x H' g hi hy => ?_⟩
  · show i < (s.toArray).size
    rw [enumD_len] at hi
    simpa using hi
  · show (s.toArray).size ≤ i
    rw [enumD_len] at hi
    simpa using hi
  · obtain ⟨T, c, rfl, hT, rfl, hc⟩ := hy
    have hc : s[i]? = some c := by simpa using hc
    refine ⟨_, enumD_getI (x := .str [c]) (by rw [List.getElem?_map, hc]; rfl), .inl (.inr ⟨T, _, _, rfl, hT, rfl, rfl, .cons ?_ (.cons (.str (s := [c]) ?_) .nil)⟩)⟩
    · rw [Nat.zero_add]; exact .int _
    · exact okS_sub (fun c' h => by rw [List.mem_singleton] at h; rw [h]; exact List.mem_of_getElem? hc) o
end
section
variable {X : Cx} {bx : Bx} {a b c e tg : Expr} {es elts : List Expr} {fa fb fc : WE} {fr : WA} {pos tpos : Pos} {x : Str} {p : Pos} {kk : Nat}
theorem i_enum (ha : E3 X bx a fa) (hm : X.mg "enumerate" = none) (hg : Gl X "enumerate" := by rfl) (hs : starEach [a] X.env = (false, eval a X.env) :: starEach [] X.env := by rfl) (hs2 : starEach [a] X.env = [(false, eval a X.env)] := by rfl) :
    I3 X bx (.Tuple elts kk tpos) (.Call (.Name "enumerate" p) [a] [] pos) (wEnum fa) := by
  refine ⟨PI.weaken (pi_enumA hg hm (pa_cons ha.pe pa_nil hs) hs2) fun σ H R ⟨F, ρ, G, P, st, h, hQ⟩ => ⟨F, ρ, G, _, st, h, fun r ρ1 v G1 H1 h1 g1 st1 rr1 => ?_⟩⟩
  obtain ⟨d, ρ2, G2, h2, g2, st2, rd⟩ := fz_ok st1 rr1 h1
  cases d with
  | lst l =>
    cases rd with
    | lst hg r => exact .inl ⟨_, _, rfl, .inl (.inl (st2.gs _ _ hg)), hQ _ ρ2 G2 _ _ h2 (g1.trans g2) st2 (itok_enum hg r)⟩
  | str s =>
    cases rd with
    | str o => exact .inr ⟨_, rfl, hQ _ ρ2 G2 _ _ h2.2 (g1.trans g2) st2 (itok_enumS o)⟩
  | tup _ => exact (show False from h2).elim
  | non => exact (show False from h2).elim
  | bl _ => exact (show False from h2).elim
  | int _ => exact (show False from h2).elim
  | dik _ => exact (show False from h2).elim
  | dit _ => exact (show False from h2).elim
  | ty _ => exact (show False from h2).elim
  | box => exact (show False from h2).elim
  | obj _ => exact (show False from h2).elim
end
/-! ### i += .. -/
def addA : DOp
  | .int i, .int j, P => P (.val (.int (i + j)))
  | .str a, .str b, P => a.length + b.length ≤ sizeLine ∧ P (.val (.str (a ++ b)))
  | _, _, _ => False
def subA : DOp
  | .int i, .int j, P => P (.val (.int (i - j)))
  | _, _, _ => False
def mulA : DOp
  | .int i, .int j, P => CMul i j ∧ P (.val (.int (i * j)))
  | _, _, _ => False
section
variable {X : Cx} {bx : Bx}
theorem ipA_add : IpD X bx .Add addA := by
  intro pins s σ H x y v u Q I rx ry ⟨G, d1, d2, P, g, v1, v2, h, R⟩
  unfold addA at h
  split at h
  · obtain rfl := view_int v1
    obtain rfl := view_int v2
    exact iop_add pins s σ H _ _ v u Q I rx ry ⟨_, _, rfl, rfl, R.val _ _ h (.int _)⟩
  · obtain ⟨rfl, o1⟩ := view_str v1
    obtain ⟨rfl, o2⟩ := view_str v2
    refine iop_add_str pins s σ H _ _ v u Q I rx ry ⟨_, _, rfl, rfl, by rw [str_len, str_len]; exact h.1, ?_⟩
    rw [str_app]
    exact R.val _ _ h.2 (.str (okS_append o1 o2))
  · exact h.elim
theorem ipA_sub : IpD X bx .Sub subA := by
  intro pins s σ H x y v u Q I rx ry ⟨G, d1, d2, P, g, v1, v2, h, R⟩
  unfold subA at h
  split at h
  · obtain rfl := view_int v1
    obtain rfl := view_int v2
    exact iop_sub pins s σ H _ _ v u Q I rx ry ⟨_, _, rfl, rfl, R.val _ _ h (.int _)⟩
  · exact h.elim
theorem ipA_mul : IpD X bx .Mult mulA := by
  intro pins s σ H x y v u Q I rx ry ⟨G, d1, d2, P, g, v1, v2, h, R⟩
  unfold mulA at h
  split at h
  · obtain rfl := view_int v1
    obtain rfl := view_int v2
    exact iop_mul pins s σ H _ _ v u Q I rx ry ⟨_, _, rfl, rfl, h.1, R.val _ _ h.2 (.int _)⟩
  · exact h.elim
end
end L2.W3

/-! W3, part o: rows made of ranges. -/
namespace PySem
open Sem (wp)
open AutoSeq1 (wpAny_loadPart')
section
variable {prog : Program} {w : World} {A : Around} {E : Value → Shared → Prop} {s : Shared}
theorem w3_collect_range {Q : List Value → Shared → Prop} (hh : A.handled = none) {r : Addr} {a b c : Int} {t u v : Tok} {n : Nat} (hr : IsRange s.heap r a b c t u v) (hsmall : Builtin.Range.small a b c = true)
    (hn : Builtin.Range.rangeSize a b c = n) (hlen : n ≤ 2 ^ 24)
    (hQ : ∀ h' tk acc, (∀ b o, s.heap.get? b = some o → h'.get? b = some o) → ItemsOf (fun i v => ∃ t, v = .int (a + i * c) t) acc n → Q acc.toList { s with heap := h', toks := tk }) :
    wpAny (model prog w) A (collect (.ref r)) Q E s := by
  have H : ∀ R : Result → Shared → Prop, (∀ h' tk acc' c', (∀ b o, s.heap.get? b = some o → h'.get? b = some o) →
      h'.get? s.heap.objs.size = some { cls := .type "list", dict := none, data := .seq acc' c', slots := #[] } → ItemsOf (fun i v => ∃ t, v = .int (a + i * c) t) acc' n → R (.ok (.ret (.ref s.heap.objs.size))) { s with heap := h', toks := tk }) →
      codeAny (model prog w) A (.builtin "proto.collect" ⟨[.ref r], []⟩) R s := by
    intro R hR
    refine codeAny_builtin F.entry_proto_collect ?_
    rw [Around.under_plainId F.plain_proto_collect _]
    show wpAny _ A.in1 (newList [] >>= fun l => again (.builtin "list.__iadd__" ⟨[l, .ref r], []⟩)) _ _ s
    refine wpAny_bind (wpAny_newObj_type ?_)
    refine wpAny_pure ⟨plainId_quiet F.plain_list_iadd _, codeAny_builtin F.entry_list_iadd ?_⟩
    rw [Around.under_plainId F.plain_list_iadd _]
    have hS : (s.heap.push { cls := .type "list", data := .seq ([] : List Value).toArray }).get? s.heap.objs.size = some { cls := .type "list", data := .seq ([] : List Value).toArray } := Heap.get?_push_size _ rfl
    exact wpAny_extend_range (A := A) (s := { s with heap := s.heap.push { cls := .type "list", data := .seq ([] : List Value).toArray } }) hh (Heap.get?_push_of_some _ hr) hsmall hn hlen s.heap.objs.size _ _ hS fun h' tk acc' c' hk hS' hacc =>
      hR h' tk acc' c' (fun b o e => hk b o (Nat.ne_of_lt (Heap.lt_size e)) (Heap.get?_push_of_some _ e)) hS' hacc
  unfold collect
  refine wpAny_bind (wpAny_runValue (H _ fun h' tk acc' c' hk hS' hacc => ?_))
  show wpAny _ A (load s.heap.objs.size >>= _) _ _ _
  refine wpAny_bind (wpAny_load hS' ?_)
  exact wpAny_pure (hQ h' tk acc' hk hacc)
end
theorem w3_tuple_range {r : Addr} {a b c : Int} {t u v : Tok} {n : Nat} (hsmall : Builtin.Range.small a b c = true) (hn : Builtin.Range.rangeSize a b c = n) (hlen : n ≤ 2 ^ 24) :
    Meets (Builtin.«tuple.__new__» ⟨[.type "tuple", .ref r], []⟩)
      (fun A R s => A.handled = none ∧ IsRange s.heap r a b c t u v ∧ ∀ (h' : Heap) (tk : Nat) (acc : Array Value), (∀ b o, s.heap.get? b = some o → h'.get? b = some o) → ItemsOf (fun i v => ∃ t, v = .int (a + i * c) t) acc n →
        R (.ok (.ret (.ref h'.objs.size))) { s with heap := h'.push { cls := .type "tuple", data := .seq acc }, toks := tk }) :=
  .of_wp fun prog w A R s h => by
    obtain ⟨hh, hr, h⟩ := h
    have hsub := sub_tuple_self
    have hinit := init_tuple_lookup
    have hmh := madeHere_tuple
    have hT : s.TypeIs (.ref r) "range" := ⟨_, hr, rfl⟩
    have hh1 : A.in1.handled = none := hh
    wp_walk using wpAny_typeOf hT, w3_collect_range hh1 hr hsmall hn hlen
    intro h' tk acc hk hacc
    show wpAny _ _ (Builtin.Tuple.tupleExact acc.toList.toArray >>= fun v => ret v) _ _ _
    unfold Builtin.Tuple.tupleExact
    refine wpAny_bind (wpAny_newObj_type ?_ (show acc.toList.toArray.size ≤ sizeLine by simp only [Array.toArray_toList]; rw [hacc.1]; exact hlen))
    refine wpAny_pure ⟨_, rfl, ?_⟩
    have e : acc.toList.toArray = acc := by simp
    rw [e]
    exact h h' tk acc hk hacc
section
variable {prog : Program} {w : World} {A : Around} {E : Value → Shared → Prop} {s : Shared}
theorem w3_call_tuple_range {Q : Value → Shared → Prop} (hh : A.handled = none) {r : Addr} {a b c : Int} {t u v : Tok} {n : Nat} (hr : IsRange s.heap r a b c t u v) (hsmall : Builtin.Range.small a b c = true)
    (hn : Builtin.Range.rangeSize a b c = n) (hlen : n ≤ 2 ^ 24)
    (hQ : ∀ (h' : Heap) (tk : Nat) (acc : Array Value), (∀ b o, s.heap.get? b = some o → h'.get? b = some o) → ItemsOf (fun i v => ∃ t, v = .int (a + i * c) t) acc n → Q (.ref h'.objs.size) { s with heap := h'.push { cls := .type "tuple", data := .seq acc }, toks := tk }) :
    wpAny (model prog w) A (call (.type "tuple") [.ref r]) Q E s := by
  refine callType_new F.called_tuple (by decide) (F.typeCall_tuple_1 _) (F.newCall_tuple_1 _) (fun obj => F.args_object_init_2 obj _) F.entry_tuple_new
    (w3_tuple_range hsmall hn hlen) ⟨hh, hr, fun h' tk acc hk hacc => ⟨⟨_, Heap.get?_push_size _ rfl, rfl⟩, ?_⟩⟩
  exact hQ h' tk acc hk hacc
end
end PySem
namespace L2.W3
open PySem PySem.Spec PyProof.Rows
theorem items_vals {lo : Int} {n : Nat} {acc : Array Value} (h : ItemsOf (fun i v => ∃ t, v = .int (lo + i * 1) t) acc n) : Vals ((List.range n).map fun k : Nat => V.int (lo + (k : Int) * 1)) acc.toList := by
  obtain ⟨hl, hi⟩ := h
  have key : ∀ (m : Nat), m ≤ n → Vals ((List.range m).map fun k : Nat => V.int (lo + (k : Int) * 1)) (acc.toList.take m) := by
    intro m
    induction m with
    | zero => intro _; simp; exact .nil
    | succ m ih =>
      intro hm
      have hlt : m < acc.toList.length := by rw [Array.length_toList, hl]; omega
      rw [List.range_succ, List.map_append, List.take_succ_eq_append_getElem hlt]
      refine (ih (by omega)).append (.cons ?_ .nil)
      obtain ⟨v, e, t, ht⟩ : ∃ v, acc[m]? = some v ∧ ∃ t, v = Value.int (lo + (m : Int) * 1) t := by
        have e : acc[m]? = some acc[m] := by simp
        exact ⟨_, e, hi m _ e⟩
      have e2 : acc.toList[m] = v := by
        have : acc.toList[m]? = some v := by rw [Array.getElem?_toList]; exact e
        rw [List.getElem?_eq_getElem hlt] at this
        exact Option.some.inj this
      rw [e2, ht]
      exact ⟨t, rfl⟩
  have := key n (Nat.le_refl _)
  rwa [List.take_of_length_le (by rw [Array.length_toList, hl]; exact Nat.le_refl _)] at this
section
variable {X : Cx} {bx : Bx} {a b c e tg : Expr} {es elts : List Expr} {fa fb fc : WE} {fr : WA} {pos pos2 : Pos} {x : Str} {p p2 : Pos} {ta : TA}
/-- tuple(range(n)) -/
def tTupR (ta : TA) : TE := fun σ H Q => ta σ H fun vs H1 => ∃ j : Int, vs = [.int j] ∧ -(2 ^ 62) ≤ j ∧ j.toNat ≤ sizeLine ∧ ∀ T, H1 T = none → Q (.ref T) (upd H1 T (.tup ((List.range j.toNat).map fun k : Nat => V.int (0 + (k : Int) * 1))))
theorem pe_tupR (hc : X.calm = true) (ha : PA X [a] ta) (hmT : X.mg "tuple" = none) (hm : X.mg "range" = none) (hgT : Gl X "tuple" := by rfl) (hg : Gl X "range" := by rfl)
    (hsT : starEach [Expr.Call (.Name "range" p2) [a] [] pos2] X.env = (false, eval (.Call (.Name "range" p2) [a] [] pos2) X.env) :: starEach [] X.env := by rfl) (hs : starEach [a] X.env = [(false, eval a X.env)] := by rfl) :
    PE X (.Call (.Name "tuple" p) [.Call (.Name "range" p2) [a] [] pos2] [] pos) (tTupR ta) := by
  refine ⟨fun pins s σ H Q I h => ?_⟩
  refine Call_ (ld_blt I hgT hmT boot_tuple (PyProof.Rows.callWith_type1 ?_ hsT rfl))
  rw [hsT]
  show wpAny _ _ (spliced ((false, eval (.Call (.Name "range" p2) [a] [] pos2) X.env) :: backTo pos (starEach [] X.env))) _ _ s
  refine Calls.spliced_cons ?_
  refine Call_ (ld_blt I hg hm boot_range (PyProof.Rows.callWith_type1 (thn (ha.run pos2 pins s σ H _ I h) fun us s1 ⟨vs, H1, I1, r1, q1⟩ => ?_) hs rfl))
  obtain ⟨j, e, h1, h2, q⟩ := q1
  subst e
  cases r1 with
  | cons r rr =>
    cases rr
    obtain ⟨t, rfl⟩ := r
    have hj : j < 2 ^ 62 := by
      have : sizeLine = 16777216 := rfl
      omega
    refine call_range_1 (Calls.spliced_nil ?_)
    have hn : Builtin.Range.rangeSize 0 j 1 = ((j.toNat : Nat) : Int) := by rw [rangeSize_one]; split <;> omega
    refine w3_call_tuple_range (I1.ok.hd hc) (IsRange.new ..) (small_one (by omega) (by omega) h1 hj) hn h2 fun h' tk acc hk hacc => ?_
    have I2 : Inv X pins σ H1 { s1 with heap := h', toks := tk } := I1.kept fun b o q => hk b o (Heap.get?_push_of_some _ q)
    have rv := items_vals hacc
    have hz : ((List.range j.toNat).map fun k : Nat => V.int (0 + (k : Int) * 1)).length ≤ sizeLine := by rw [List.length_map, List.length_range]; exact h2
    have I3 : Inv X pins σ (upd H1 h'.objs.size (.tup ((List.range j.toNat).map fun k : Nat => V.int (0 + (k : Int) * 1)))) { s1 with heap := h'.push { cls := .type "tuple", data := .seq acc }, toks := tk } := by
      have e : acc = acc.toList.toArray := by simp
      rw [e]
      exact I2.laid (t' := tk) (fun b o q => Heap.get?_push_of_some _ q) (Nat.le_refl _) (show ObjOk X.prog X.w _ _ _ (.tup _) from ⟨hz, acc.toList, rv, IsTup.new _ _⟩)
    exact ⟨.ref h'.objs.size, _, I3, rfl, q _ (I2.hok.fresh (Nat.le_refl _))⟩
def wTupleRng1 (fa : WA) : WE := fun ρ Q => fa ρ fun ds ρ1 => match ds with
  | [.int j] => -(2 ^ 62) ≤ j ∧ j.toNat ≤ sizeLine ∧ Q (.val (.tup (rng 0 1 j.toNat))) ρ1
  | _ => False
theorem rng_rep {K : PySem.W.Frag} {B : Addr} {G : Hp} (n : Nat) : RepL K B G ((List.range n).map fun k : Nat => V.int (0 + (k : Int) * 1)) (rng 0 1 n) := by
  unfold rng
  have : ∀ l : List Nat, RepL K B G (l.map fun k : Nat => V.int (0 + (k : Int) * 1)) (l.map fun k : Nat => D.int (0 + (k : Int) * 1)) := by
    intro l
    induction l with
    | nil => exact .nil
    | cons a l ih => exact .cons (.int _) ih
  exact this _
theorem e_tupleRng1 (ha : A3 X bx [a] fr) (hmT : X.mg "tuple" = none) (hm : X.mg "range" = none) (hc : X.calm = true := by rfl) (hgT : Gl X "tuple" := by rfl) (hg : Gl X "range" := by rfl)
    (hsT : starEach [Expr.Call (.Name "range" p2) [a] [] pos2] X.env = (false, eval (.Call (.Name "range" p2) [a] [] pos2) X.env) :: starEach [] X.env := by rfl) (hs : starEach [a] X.env = [(false, eval a X.env)] := by rfl) :
    E3 X bx (.Call (.Name "tuple" p) [.Call (.Name "range" p2) [a] [] pos2] [] pos) (wTupleRng1 fr) := by
  refine ⟨PE.weaken (pe_tupR hc ha.pa hmT hm hgT hg hsT hs) fun σ H Q ⟨F, ρ, G, P, st, h, hQ⟩ => ⟨F, ρ, G, _, st, h, fun ds ρ1 vs G1 H1 h1 g1 st1 rl => ?_⟩⟩
  cases ds with
  | nil => exact (show False from h1).elim
  | cons d r =>
    cases r with
    | cons d2 r => cases d <;> exact (show False from h1).elim
    | nil =>
      cases d <;> first
        | exact (show False from h1).elim
        | skip
      rename_i j
      have h1 : -(2 ^ 62) ≤ j ∧ j.toNat ≤ sizeLine ∧ P (.val (.tup (rng 0 1 j.toNat))) ρ1 := h1
      cases rl with
      | cons r rr =>
        cases rr
        cases r
        refine ⟨j, rfl, h1.1, h1.2.1, fun T hT => ?_⟩
        have st2 : Stt X.K bx F ρ1 σ G1 (upd H1 T (.tup ((List.range j.toNat).map fun k : Nat => V.int (0 + (k : Int) * 1)))) := st1.alloc hT
        obtain ⟨g2, st3⟩ := freeze_at st2 upd_same (st1.nG hT) (st1.nF hT) (st1.nfp hT) (st1.notown hT)
        exact hQ _ _ _ _ _ h1.2.2 (g1.trans g2) st3 (Rep.tup upd_same (rng_rep _))
end
end L2.W3

/-! W3, part p: drawn words of the box family. -/
namespace L2.W3
open PySem PySem.Spec PyProof.Rows
def b_wordB : WS :=
  (wSeq (wSet 3 (wStrM joinD (wC (.str [])) (wLc (wRng1 (wACons (wCall C_draw (wACons (wVar 0) (wACons (wBin addD (wVar 1) (wC (.int 1))) wANil))) wANil)) (wName 4) wYes (wBin ixD (wC (.str [97, 98, 99, 100, 101, 102, 103, 104, 105, 106, 107, 108, 109, 110, 111, 112, 113, 114, 115, 116, 117, 118, 119, 120, 121, 122])) (wCall C_draw (wACons (wVar 0) (wACons (wVar 2) wANil)))) [4])))
    (wSeq (wIfS (wTAnd (wTB (wBin neD (wVar 3) (wC (.str [])))) (wTB (wBin eqD (wCall C_draw (wACons (wVar 0) (wACons (wC (.int 3)) wANil))) (wC (.int 0))))) (wSet 3 (wSl (wBin mulD (wSl (wVar 3) wONone (wOSome (wBin addD (wC (.int 1)) (wCall C_draw (wACons (wVar 0) (wACons (wC (.int 5)) wANil)))))) (wVar 1)) wONone (wOSome (wUn lenD (wVar 3))))) wNext)
    (wRet (wVar 3))))
theorem vc_wordB : ∀ ds Q, C_letters ds Q → b_wordB { nx := fun _ => Q (.val .non), rt := Q } (start3 ["box", "most", "many", "word", "k"] ds) := by
  rintro ds Q ⟨m, k, rfl, hm, hk, hk2, q⟩
  refine Exists.intro _ (And.intro rfl (And.intro (by omega) (And.intro (by omega) fun r h0 h1 => ?_)))
  refine And.intro (by unfold SmallI; omega) ?_
  refine lc0A (fun d => ∃ c, 97 ≤ c ∧ c < 97 + k ∧ d = .str [c]) (by rw [sL]; show r.toNat ≤ _; omega) (fun x hx C hC => ?_) fun l hl hA => ?_
  · refine Exists.intro _ (And.intro rfl (And.intro (by omega) (And.intro (by omega) fun z z0 z1 => ?_)))
    refine And.intro (by exact Nat.le_of_ble_eq_true rfl) (Exists.intro (97 + z.toNat) (And.intro ?_ (hC _ ⟨_, by omega, by omega, rfl⟩)))
    have := abc_get z.toNat (by omega)
    rw [Int.toNat_of_nonneg z0] at this
    exact this
  · have hl : l.length = r.toNat := hl
    obtain ⟨f1, f2, f3⟩ := flat_letters (m := m) (k := k) (l := l) (by omega) hA
    refine And.intro f1 (And.intro (by rw [f2]; show l.length + l.length * 0 ≤ _; omega) ?_)
    rw [joinS_nil]
    generalize (l.map strOf).flatten = s at f3 ⊢
    have sl := f3.1
    refine And.intro trivial (And.intro trivial (ite_w (fun _ => ?_) fun _ => ?_))
    · refine Exists.intro _ (And.intro rfl (And.intro (by decide) (And.intro (by decide) fun z _ _ => And.intro trivial (And.intro trivial (ite_w (fun _ => ?_) fun _ => ?_)))))
      · refine Exists.intro _ (And.intro rfl (And.intro (by decide) (And.intro (by decide) fun o o0 o1 => ?_)))
        obtain ⟨o, rfl⟩ := Int.eq_ofNat_of_zero_le o0
        have eo : (1 : Int) + (o : Int) = ((o + 1 : Nat) : Int) := by omega
        refine And.intro (by rw [sL]; omega) ?_
        rw [eo, cut_to]
        have tl : (s.take (o + 1)).length ≤ 5 := by rw [List.length_take]; omega
        have ml : (s.take (o + 1)).length * m ≤ 5 * 1000 := Nat.mul_le_mul tl hm
        refine And.intro (by omega) (And.intro (by omega) (And.intro (by rw [Int.toNat_natCast]; omega) (And.intro (by rw [sL]; omega) (And.intro (by rw [repN_len, Int.toNat_natCast, Nat.mul_comm, sL]; omega) ?_))))
        refine q _ ⟨?_, fun c hc => f3.2 c (List.mem_of_mem_take (repN_mem (cut_mem hc)))⟩
        rw [cut_to, List.length_take]; omega
      · exact q _ f3
    · exact q _ f3
end L2.W3

/-! W3, part q: backwards; index; greatest of a tuple; pop(k). -/
namespace L2.W3
open PySem PySem.Spec PyProof.Rows PySem.Builtin.Str

/-! ### x[::-1] -/
theorem pick_all {α : Type} : ∀ l : List α, (List.range l.length).filterMap (fun k => l[k]?) = l
  | [] => rfl
  | a :: l => by
    rw [List.length_cons, List.range_succ_eq_map, List.filterMap_cons]
    show a :: List.filterMap _ (List.map Nat.succ _) = _
    rw [List.filterMap_map]
    congr 1
    exact pick_all l
theorem fm_congr {α β : Type} {f g : α → Option β} : ∀ l : List α, (∀ x ∈ l, f x = g x) → l.filterMap f = l.filterMap g
  | [], _ => rfl
  | a :: l, h => by
    rw [List.filterMap_cons, List.filterMap_cons, h a List.mem_cons_self, fm_congr l fun x hx => h x (List.mem_cons_of_mem _ hx)]
theorem pick_rev {α : Type} (l : List α) : (strSliceIndices none none (-1) l.length).filterMap (fun k => l.toArray[k]?) = l.reverse := by
  rw [PyProof.Rows.picked_rev, List.filterMap_map]
  have e := pick_all l.reverse
  rw [List.length_reverse] at e
  conv => rhs; rw [← e]
  refine fm_congr _ fun k hk => ?_
  have hk := List.mem_range.mp hk
  show l.toArray[l.length - 1 - k]? = _
  rw [List.getElem?_reverse hk]
  simp
section
open HT
variable {prog : Program} {w : World} {A : Around} {E : Value → Shared → Prop} {s : Shared}
theorem adjust_rev (n : Nat) : Builtin.Slice.sliceAdjust none none (-1) (n : Int) = ((n : Int) - 1, -1) := rfl
theorem places_rev (n : Nat) : Builtin.Slice.slicePlaces ((n : Int) - 1) (-1) (-1) = n := by
  unfold Builtin.Slice.slicePlaces
  have h1 : ¬ ((-1 : Int) > 0) := by omega
  have h2 : -(-1 : Int) = 1 := rfl
  simp only [h1, if_false, h2, Int.ediv_one]
  split <;> omega
theorem pick_back (xs : Array Value) : ((List.range xs.size).filterMap fun (m : Nat) => xs[(((xs.size : Nat) : Int) - 1 + (m : Int) * (-1)).toNat]?).toArray = xs.toList.reverse.toArray := by
  congr 1
  have e := pick_all xs.toList.reverse
  rw [List.length_reverse, Array.length_toList] at e
  rw [← e]
  refine fm_congr _ fun k hk => ?_
  have hk := List.mem_range.mp hk
  have e1 : (((xs.size : Nat) : Int) - 1 + (k : Int) * (-1)).toNat = xs.size - 1 - k := by omega
  rw [e1]
  show _ = xs.toList.reverse[k]?
  rw [List.getElem?_reverse (by rw [Array.length_toList]; exact hk), Array.length_toList, Array.getElem?_toList]
theorem getItem_tuple_rev {t sl : Addr} {items : Array Value} {tk : Tok} {Q : Value → Shared → Prop} (ht : IsTup s.heap t items) (hs : s.heap.IsSliceOf sl .none .none (.int (-1) tk))
    (h : Q (.ref s.heap.objs.size) { s with heap := s.heap.push { cls := .type "tuple", data := .seq items.toList.reverse.toArray } })
    (hsz : items.size ≤ sizeLine) : wpAny (model prog w) A (getItem (.ref t) (.ref sl)) Q E s := by
  have htake : sizeOk (.seq items.toList.reverse.toArray) := by
    show items.toList.reverse.toArray.size ≤ sizeLine
    rw [List.size_toArray, List.length_reverse, Array.length_toList]
    exact hsz
  obtain ⟨os, hos, hcs, hds⟩ := id hs
  have hTs : s.TypeIs (.ref sl) "slice" := ⟨os, hos, hcs⟩
  unfold getItem
  try with_reducible refine wpAny_holding ?_
  first | refine wpAny_bind (wpAny_pure ?_) | skip
  refine wpAny_bind (wpAny_sequenceKey ht.typeIs (by decide) ?_)
  refine wpAny_bind (wpAny_callSpecial?_slot (name := Str.ofString "__getitem__") ht.typeIs PyProof.Rows.slot_tuple_getitem
    (wpAny_call_entry PyProof.Rows.slot_tuple_getitem ht.typeIs entry_tuple_getitem ?_ (args_tuple_getitem _ _)))
  show wpAny _ _ (Builtin.Tuple.tupleItemsOf (.ref t) >>= _) _ _ s
  refine wpAny_bind (tupleItemsOf_ ht ?_)
  refine wpAny_bind (wpAny_typeOf hTs ?_)
  rw [if_pos (by decide)]
  have happ : ∀ {A2 : Around} {Q2 : Int × Int × Nat → Shared → Prop}, Q2 (((items.size : Nat) : Int) - 1, -1, items.size) s → wpAny (model prog w) A2 (Builtin.Slice.sliceApplied (.ref sl) (pure ((items.size : Nat) : Int))) Q2 E s := by
    intro A2 Q2 h
    unfold Builtin.Slice.sliceApplied Builtin.Slice.sliceFields
    refine wpAny_bind (wpAny_bind (wpAny_field hos hds (x := .none) rfl (wpAny_bind (wpAny_field hos hds (x := .none) rfl (wpAny_bind (wpAny_field hos hds (x := .int (-1) tk) rfl (wpAny_pure ?_)))))))
    refine wpAny_bind (slicePart_int ?_)
    show wpAny _ _ (if ((-1 : Int) == 0) = true then _ else _) _ _ s
    rw [if_neg (by decide)]
    refine wpAny_bind (slicePart_none (wpAny_bind (slicePart_none (wpAny_bind (wpAny_pure ?_)))))
    show wpAny _ _ (match Builtin.Slice.sliceAdjust none none (-1) ((items.size : Nat) : Int) with | (lo, hi) => pure (lo, (-1 : Int), Builtin.Slice.slicePlaces lo hi (-1))) _ _ s
    rw [adjust_rev]
    show wpAny _ _ (pure (((items.size : Nat) : Int) - 1, (-1 : Int), Builtin.Slice.slicePlaces (((items.size : Nat) : Int) - 1) (-1) (-1))) _ _ s
    rw [places_rev]
    exact wpAny_pure h
  refine wpAny_bind (happ ?_)
  show wpAny _ _ (if ((((items.size : Nat) : Int) - 1) == 0 && (-1 : Int) == 1 && items.size == items.size) = true then _ else _) _ _ s
  rw [if_neg (by simp), pick_back]
  first
    | exact wpAny_bind (m := Builtin.Tuple.tupleExact _) (wpAny_newObj_type (wpAny_pure ⟨_, rfl, wpAny_pure h⟩) htake)
    | exact wpAny_bind (m := Builtin.Tuple.tupleExact _) (wpAny_newObj_type (wpAny_bind (wpAny_pure (wpAny_pure ⟨_, rfl, wpAny_pure h⟩))) htake)
    | exact wpAny_bind (wpAny_bind (m := Builtin.Tuple.tupleExact _) (wpAny_newObj_type (wpAny_pure (wpAny_pure ⟨_, rfl, wpAny_pure h⟩)) htake))
    | exact wpAny_bind (wpAny_bind (m := Builtin.Tuple.tupleExact _) (wpAny_newObj_type (wpAny_pure ⟨_, rfl, wpAny_pure h⟩) htake))
end
section
variable {X : Cx} {bx : Bx} {a b c e st tg : Expr} {es elts : List Expr} {fa fb fc : WE} {fr : WA} {pos p2 : Pos} {x : Str} {p : Pos} {te ts : TE}
def tRev (K : PySem.W.Frag) (te ts : TE) : TE := fun σ H Q => te σ H fun v H1 => ts σ H1 fun u H2 => u = .int (-1) ∧
  ((∃ x : Str, v = .str x ∧ x.length ≤ sizeLine ∧ Q (.str ⟨x.cps.toList.reverse.toArray⟩) H2) ∨ (∃ l xs, v = .ref l ∧ SqL K H2 l xs ∧ ∀ q, H2 q = none → Q (.ref q) (upd H2 q (.lst xs.reverse))) ∨ ∃ l xs, v = .ref l ∧ SqT K H2 l xs ∧ ∀ q, H2 q = none → Q (.ref q) (upd H2 q (.tup xs.reverse)))
theorem pe_rev (he : PE X e te) (hs : PE X st ts) : PE X (.Subscript e (.Slice none none (some st) p2) pos) (tRev X.K te ts) := by
  refine ⟨fun pins s σ H Q I h => ?_⟩
  refine Subscript_ (thn (he.run pins s σ H _ I h) fun v s1 ⟨x, H1, I1, r1, q1⟩ => ?_)
  refine wpAny_Slice ?_
  rw [evalPart_none]
  refine wpAny_pure ?_
  refine wpAny_pure ?_
  rw [evalPart_some]
  refine thn (hs.run pins s1 σ H1 _ I1 q1) fun vs s2 ⟨u, H2, I2, r2, hu, q2⟩ => ?_
  subst hu
  obtain ⟨tk, rfl⟩ := r2
  have I4 : Inv X pins σ H2 { s2 with heap := s2.heap.push { cls := .type "slice", data := .fields #[.none, .none, .int (-1) tk] } } := I2.kept (t' := s2.toks) fun b ob q => Heap.get?_push_of_some _ q
  show wpAny (model X.prog X.w) X.A (subscriptTail e (.Slice none none (some st) p2) v (.ref s2.heap.objs.size)) (EP X pins σ Q) X.xe { s2 with heap := s2.heap.push { cls := .type "slice", data := .fields #[.none, .none, .int (-1) tk] } }
  rcases q2 with ⟨z, rfl, hz, q⟩ | ⟨l, xs, rfl, hl, q⟩ | ⟨l, xs, rfl, hl, q⟩
  · obtain ⟨t, rfl⟩ := r1
    refine tail_any (ops := [.str z t, .ref s2.heap.objs.size]) (T := "str") (typeIs_str _ z t) F.slot_str_getitem.lookup ?_ (by with_unfolding_all rfl)
    refine wpAny_getItem_str_slice (l := none) (u := none) (st := some (-1, tk)) ⟨_, Heap.get?_push_size _ rfl, rfl, rfl⟩ rfl ?_
    have e : sliceMade z t none none (some (-1, tk)) = .str ⟨z.cps.toList.reverse.toArray⟩ := by
      unfold sliceMade
      rw [if_neg (by simp)]
      congr 2
      congr 1
      have := pick_rev z.cps.toList
      rw [show z.cps.toList.length = z.cps.size by simp] at this
      exact this
    rw [e]
    exact ⟨by show z.cps.toList.reverse.toArray.size ≤ _; simp; exact hz, .str ⟨z.cps.toList.reverse.toArray⟩, H2, I4.tok _, ⟨_, rfl⟩, q⟩
  · obtain rfl : v = Value.ref l := r1
    obtain ⟨its, rv, pl, hzl⟩ := I4.list hl
    refine tail_any (ops := [.ref l, .ref s2.heap.objs.size]) (T := "list") pl.isList.typeIs list_getitem_lookup ?_ (by with_unfolding_all rfl)
    refine wpAny_getItem_list_slice pl.isList (Heap.IsSliceOf.new ..) .none .none (.int (-1) tk) (by decide) ?_ (by rw [List.size_toArray, ← rv.length]; exact hzl)
    have e : slicePick its.toArray none none (some (-1)) = its.reverse.toArray := by
      have := pick_rev its
      show (List.filterMap _ _).toArray = _
      congr 1
    rw [e]
    refine ⟨.ref _, _, I4.laid (t' := s2.toks) (o := .lst xs.reverse) (fun b ob q => Heap.get?_push_of_some _ q) (Nat.le_refl _) ?_, rfl, q _ (I4.hok.fresh (Nat.le_refl _))⟩
    exact ⟨by rw [List.length_reverse]; exact hzl, its.reverse, 0, rv.reverse, Heap.get?_push_size _ rfl⟩
  · obtain rfl : v = Value.ref l := r1
    obtain ⟨its, rv, pl, hzl⟩ := I4.tuple hl
    refine tail_any (ops := [.ref l, .ref s2.heap.objs.size]) (T := "tuple") pl.typeIs PyProof.Rows.slot_tuple_getitem.lookup ?_ (by with_unfolding_all rfl)
    refine getItem_tuple_rev (tk := tk) pl (Heap.IsSliceOf.new ..) ?_ (by rw [List.size_toArray, ← rv.length]; exact hzl)
    refine ⟨.ref _, _, I4.laid (t' := s2.toks) (o := .tup xs.reverse) (fun b ob q => Heap.get?_push_of_some _ q) (Nat.le_refl _) ?_, rfl, q _ (I4.hok.fresh (Nat.le_refl _))⟩
    exact ⟨by rw [List.length_reverse]; exact hzl, its.reverse, rv.reverse, IsTup.new _ _⟩
def revD : UOp
  | .str s, P => s.length ≤ sizeLine ∧ P (.val (.str s.reverse))
  | .lst l, P => P (.new (.lst l.reverse))
  | .tup l, P => P (.val (.tup l.reverse))
  | _, _ => False
theorem e_rev {j : Nat} {p3 p4 : Pos} (ha : E3 X bx a fa) : E3 X bx (.Subscript a (.Slice none none (some (.UnaryOp .USub (.Constant (.int 1) j p3) p4)) p2) pos) (wUn revD fa) := by
  refine ⟨PE.weaken (pe_rev ha.pe (pe_un un_neg pe_int)) fun σ H Q h => ?_⟩
  obtain ⟨F, ρ, G, P, st, hf, hQ⟩ := h
  refine ⟨F, ρ, G, _, st, hf, fun r1 ρ1 w1 G1 H1 h1 g1 st1 rr1 => ?_⟩
  obtain ⟨d, h2, vd⟩ := pk_ok st1 rr1 h1
  refine ⟨1, rfl, rfl, ?_⟩
  unfold revD at h2
  split at h2
  · obtain ⟨rfl, o⟩ := view_str vd
    refine .inl ⟨_, rfl, by rw [str_len]; exact h2.1, ?_⟩
    exact hQ _ ρ1 _ G1 _ h2.2 g1 st1 (.str (okS_sub (fun c hc => List.mem_reverse.mp hc) o))
  · obtain ⟨l, vs, rfl, s1, r1⟩ := view_lst st1.gs vd
    refine .inr (.inl ⟨l, vs, rfl, .inl (.inl s1), fun q hq => ?_⟩)
    have R := res_of (P := fun r => P r ρ1) st1 fun r w G2 H2 h g st2 rr => hQ r ρ1 w G2 H2 h (g1.trans g) st2 rr
    exact R.lst _ _ q h2 hq (RepL.reverse r1)
  · obtain ⟨l, vs, rfl, s1, r1, q1⟩ := view_tup st1.gs vd
    refine .inr (.inr ⟨l, vs, rfl, s1, fun q hq => ?_⟩)
    have R := res_of (P := fun r => P r ρ1) st1 fun r w G2 H2 h g st2 rr => hQ r ρ1 w G2 H2 h (g1.trans g) st2 rr
    exact R.tup _ _ q h2 hq (RepL.reverse r1)
  · exact h2.elim
end
/-! ### max, min of a tuple of ints -/
section
variable {prog : Program} {w : World} {A : Around} {E : Value → Shared → Prop} {s : Shared} {l : Addr} {its : List Value} {ns : List Int} {Q : Value → Shared → Prop}
theorem max_rawT (hh : A.handled = none) (hl : s.heap.IsTuple l its.toArray) (hi : IntsAre its ns) (hne : 0 < ns.length)
    (h : ∀ h' tk M t', (∀ b o, s.heap.get? b = some o → h'.get? b = some o) → M ∈ ns → (∀ a, a ∈ ns → a ≤ M) → Q (.int M t') { s with heap := h', toks := tk }) : wpAny (model prog w) A (call (.builtin "max") [.ref l]) Q E s := by
  obtain ⟨xs, e⟩ := hi.allInts.items
  have hn : numsOf (intItems xs).toList = ns := by rw [← e]; exact hi.numsOf
  rw [nums_intItems] at hn
  subst hn
  rw [e] at hl
  have hsz : 0 < xs.size := by simpa using hne
  have hlt : l < s.heap.objs.size := by obtain ⟨o, ho, _⟩ := hl; exact Heap.lt_size ho
  refine call_max_walk (wpAny_pyIter_tuple hl ?_)
  refine ⟨_, _, _, _, _, _, _, rfl, Walks.tuple (A := A.in1) hh s.heap.objs.size l (Nat.ne_of_lt hlt) (intItems xs), ⟨⟨_, Heap.get?_push_size _ rfl, rfl, rfl⟩, hl.at fun o q => Heap.get?_push_of_some _ q⟩, fun b hb => ?_, by simpa [intItems] using hsz, CmpOf.ints_gt (numAt xs) (fun _ _ => intItems_at), fun v h' tk hP hk => ?_⟩
  · have e' : b = s.heap.objs.size ∨ b = l := by simpa using hb
    rw [Heap.size_push]
    rcases e' with z | z
    · rw [z]; exact Nat.lt_succ_self _
    · rw [z]; exact Nat.lt_succ_of_lt hlt
  · have hv : (intItems xs)[argBest (fun i j => decide (numAt xs i > numAt xs j)) (xs.size - 1)]? = some v := by simpa [intItems] using hP
    obtain ⟨t, rfl⟩ := intItems_at hv
    obtain ⟨h1, h2⟩ := argBest_gt (numAt xs) (xs.size - 1)
    refine h h' tk _ t (fun b o q => hk b o (fun z => ?_) (Heap.get?_push_of_some _ q)) ?_ fun a ha => ?_
    · have z : b = s.heap.objs.size := by simpa using z
      exact absurd (Heap.lt_size q) (by rw [z]; exact Nat.lt_irrefl _)
    · rw [numAt_eq]; exact PySem.getD_mem (by rw [List.length_map, Array.length_toList]; omega)
    · obtain ⟨j, hj, rfl⟩ := mem_getD ha
      rw [List.length_map, Array.length_toList] at hj
      rw [← numAt_eq]; exact h2 j (by omega)
theorem min_rawT (hh : A.handled = none) (hl : s.heap.IsTuple l its.toArray) (hi : IntsAre its ns) (hne : 0 < ns.length)
    (h : ∀ h' tk M t', (∀ b o, s.heap.get? b = some o → h'.get? b = some o) → M ∈ ns → (∀ a, a ∈ ns → M ≤ a) → Q (.int M t') { s with heap := h', toks := tk }) : wpAny (model prog w) A (call (.builtin "min") [.ref l]) Q E s := by
  obtain ⟨xs, e⟩ := hi.allInts.items
  have hn : numsOf (intItems xs).toList = ns := by rw [← e]; exact hi.numsOf
  rw [nums_intItems] at hn
  subst hn
  rw [e] at hl
  have hsz : 0 < xs.size := by simpa using hne
  have hlt : l < s.heap.objs.size := by obtain ⟨o, ho, _⟩ := hl; exact Heap.lt_size ho
  refine call_min_walk (wpAny_pyIter_tuple hl ?_)
  refine ⟨_, _, _, _, _, _, _, rfl, Walks.tuple (A := A.in1) hh s.heap.objs.size l (Nat.ne_of_lt hlt) (intItems xs), ⟨⟨_, Heap.get?_push_size _ rfl, rfl, rfl⟩, hl.at fun o q => Heap.get?_push_of_some _ q⟩, fun b hb => ?_, by simpa [intItems] using hsz, CmpOf.ints_lt (numAt xs) (fun _ _ => intItems_at), fun v h' tk hP hk => ?_⟩
  · have e' : b = s.heap.objs.size ∨ b = l := by simpa using hb
    rw [Heap.size_push]
    rcases e' with z | z
    · rw [z]; exact Nat.lt_succ_self _
    · rw [z]; exact Nat.lt_succ_of_lt hlt
  · have hv : (intItems xs)[argBest (fun i j => decide (numAt xs i < numAt xs j)) (xs.size - 1)]? = some v := by simpa [intItems] using hP
    obtain ⟨t, rfl⟩ := intItems_at hv
    obtain ⟨h1, h2⟩ := argBest_lt (numAt xs) (xs.size - 1)
    refine h h' tk _ t (fun b o q => hk b o (fun z => ?_) (Heap.get?_push_of_some _ q)) ?_ fun a ha => ?_
    · have z : b = s.heap.objs.size := by simpa using z
      exact absurd (Heap.lt_size q) (by rw [z]; exact Nat.lt_irrefl _)
    · rw [numAt_eq]; exact PySem.getD_mem (by rw [List.length_map, Array.length_toList]; omega)
    · obtain ⟨j, hj, rfl⟩ := mem_getD ha
      rw [List.length_map, Array.length_toList] at hj
      rw [← numAt_eq]; exact h2 j (by omega)
end
section
variable {X : Cx} {bx : Bx} {a b c e tg : Expr} {es elts : List Expr} {fa fb fc : WE} {fr : WA} {pos : Pos} {x : Str} {p : Pos}
def maxA : UOp
  | .lst l, P => l.all isInt = true ∧ l ≠ [] ∧ P (.val (.int (maxI (l.map intOf))))
  | .tup l, P => l.all isInt = true ∧ l ≠ [] ∧ P (.val (.int (maxI (l.map intOf))))
  | _, _ => False
def minA : UOp
  | .lst l, P => l.all isInt = true ∧ l ≠ [] ∧ P (.val (.int (minI (l.map intOf))))
  | .tup l, P => l.all isInt = true ∧ l ≠ [] ∧ P (.val (.int (minI (l.map intOf))))
  | _, _ => False
theorem c_maxA (hc : X.calm = true) : Call1 X bx (.builtin "max") maxA := by
  rintro pins s σ H xs us Q I r ⟨v, rfl, G, d, P, g, v1, h, R⟩
  unfold maxA at h
  split at h
  · rename_i l
    obtain ⟨a, vs, rfl, s1, r1⟩ := view_lst g v1
    have e := r1.ints h.1
    subst e
    have hne : l.map intOf ≠ [] := fun e => h.2.1 (List.map_eq_nil_iff.mp e)
    refine cr_max hc pins s σ H _ us Q I r ⟨a, _, rfl, .inl (.inl s1), List.length_pos_iff.mpr hne, fun m hm hy => ?_⟩
    obtain ⟨h1, h2⟩ := maxI_spec hne
    have e : m = maxI (l.map intOf) := Int.le_antisymm (h2 m hm) (hy _ h1)
    rw [e]
    exact R.val _ _ h.2.2 (.int _)
  · rename_i l
    obtain ⟨a, vs, rfl, s1, r1, _⟩ := view_tup g v1
    have e := r1.ints h.1
    subst e
    have hne : l.map intOf ≠ [] := fun e => h.2.1 (List.map_eq_nil_iff.mp e)
    obtain ⟨its, rv, hl, _⟩ := I.tuple s1
    rw [Vals.ref1 r]
    refine max_rawT (I.ok.hd hc) hl rv.ints (List.length_pos_iff.mpr hne) fun h' tk m t' hk h1 h2 => ?_
    obtain ⟨h3, h4⟩ := maxI_spec hne
    have e : m = maxI (l.map intOf) := Int.le_antisymm (h4 m h1) (h2 _ h3)
    rw [e]
    exact ⟨.int _, H, I.kept hk, ⟨_, rfl⟩, R.val _ _ h.2.2 (.int _)⟩
  · exact h.elim
theorem c_minA (hc : X.calm = true) : Call1 X bx (.builtin "min") minA := by
  rintro pins s σ H xs us Q I r ⟨v, rfl, G, d, P, g, v1, h, R⟩
  unfold minA at h
  split at h
  · rename_i l
    obtain ⟨a, vs, rfl, s1, r1⟩ := view_lst g v1
    have e := r1.ints h.1
    subst e
    have hne : l.map intOf ≠ [] := fun e => h.2.1 (List.map_eq_nil_iff.mp e)
    refine cr_min hc pins s σ H _ us Q I r ⟨a, _, rfl, .inl (.inl s1), List.length_pos_iff.mpr hne, fun m hm hy => ?_⟩
    obtain ⟨h1, h2⟩ := minI_spec hne
    have e : m = minI (l.map intOf) := Int.le_antisymm (hy _ h1) (h2 m hm)
    rw [e]
    exact R.val _ _ h.2.2 (.int _)
  · rename_i l
    obtain ⟨a, vs, rfl, s1, r1, _⟩ := view_tup g v1
    have e := r1.ints h.1
    subst e
    have hne : l.map intOf ≠ [] := fun e => h.2.1 (List.map_eq_nil_iff.mp e)
    obtain ⟨its, rv, hl, _⟩ := I.tuple s1
    rw [Vals.ref1 r]
    refine min_rawT (I.ok.hd hc) hl rv.ints (List.length_pos_iff.mpr hne) fun h' tk m t' hk h1 h2 => ?_
    obtain ⟨h3, h4⟩ := minI_spec hne
    have e : m = minI (l.map intOf) := Int.le_antisymm (h2 _ h3) (h4 m h1)
    rw [e]
    exact ⟨.int _, H, I.kept hk, ⟨_, rfl⟩, R.val _ _ h.2.2 (.int _)⟩
  · exact h.elim
/-! ### t.index(k) -/
theorem flat_intsV (ys : List Int) : (ys.map V.int).all flatV = true := by
  rw [List.all_map]
  exact List.all_eq_true.mpr fun _ _ => rfl
theorem mt_tup_indexI : MtR X "tuple.index" (fun x xs H Q => ∃ p, ∃ ys : List Int, ∃ z j, x = .ref p ∧ xs = [.int z] ∧ SqT X.K H p (ys.map V.int) ∧ ys[j]? = some z ∧ (∀ m, m < j → ys[m]? ≠ some z) ∧ Q (.int (j : Nat)) H) := by
  intro pins s σ H x xs v us Q I rx rs h
  obtain ⟨p, ys, z, j, rfl, rfl, hq, hy, hno, q⟩ := h
  cases rx
  obtain ⟨u, rfl, t, rfl⟩ := vals1 rs
  obtain ⟨its, r, pl, hz⟩ := I.tuple hq
  obtain ⟨⟨cls, dd, dt, sl⟩, ho, hc, n, hd⟩ := pl
  simp only at hc hd
  subst hc
  subst hd
  have hl : its.toArray.size = ys.length := by rw [List.size_toArray, ← r.length, List.length_map]
  have hj : j < its.toArray.size := by rw [hl]; exact (List.getElem?_eq_some_iff.mp hy).1
  have at' : ∀ (m : Nat) (hm : m < its.toArray.size), ∃ y t', ys[m]? = some y ∧ its.toArray[m] = Value.int y t' := fun m hm => by
    have hm' : m < ys.length := by rw [← hl]; exact hm
    obtain ⟨w, hw, t', hw'⟩ := r.get (i := m) (x := .int ys[m]) (by simp [hm'])
    refine ⟨ys[m], t', List.getElem?_eq_getElem hm', ?_⟩
    have e := (List.getElem?_eq_some_iff.mp hw).2
    rw [← hw', ← e]
    simp
  refine call_meets PySem.F.slot_tuple_index ⟨_, ho, rfl⟩ PySem.F.entry_tuple_index (PySem.F.args_tuple_index_2 _ _) (_root_.TI.tuple_indexAt p its.toArray n dd sl (.int z t) (eqU (.int z)) j hj ?_ ?_)
    ⟨ho, fun w hw => mem_eqAt (x := .int z) ⟨t, rfl⟩ rfl r (flat_intsV ys) w (by simpa using hw), ⟨.int (j : Nat), H, I.tok _, ⟨_, rfl⟩, q⟩⟩
  · obtain ⟨y, t', h1, h2⟩ := at' j hj
    rw [hy] at h1
    cases h1
    rw [h2]
    show (z == z) = true
    exact beq_self_eq_true z
  · intro m hm hmj
    obtain ⟨y, t', h1, h2⟩ := at' m hm
    rw [h2]
    show (y == z) = false
    exact beq_eq_false_iff_ne.mpr fun e => hno m hmj (e ▸ h1)
/-- the first place of a number in a tuple -/
def wIndex (fa fb : WE) : WE := fun ρ Q => fa ρ fun r1 ρ1 => pk r1 ρ1 fun x => match x with
  | .tup l => fb ρ1 fun r2 ρ2 => pk r2 ρ2 fun y => asI y fun k => l.all isInt = true ∧ ∃ j : Nat, (l.map intOf)[j]? = some k ∧ (∀ m, m < j → (l.map intOf)[m]? ≠ some k) ∧ Q (.val (.int (j : Nat))) ρ2
  | _ => False
end
end L2.W3

/-! W3, part r: enumerate(tuple). -/
namespace PySem
open Sem (wp)
open AutoSeq1 (wpAny_loadPart')
section
variable {prog : Program} {w : World} {A : Around} {E : Value → Shared → Prop} {s : Shared}
theorem w3_nextOf_tuple_item {it l : Addr} {i : Nat} {items} {x : Value} {Q : Value → Shared → Prop} (hit : s.heap.IsTupleIter it l i)
    (hl : s.heap.IsTuple l items) (hx : items[i]? = some x)
    (hQ : ∀ h', h'.IsTupleIter it l (i + 1) → Heap.SameBut it s.heap h' → Q x { s with heap := h' }) :
    wpAny (model prog w) A (Builtin.SmallTypes.nextOf (.ref it)) Q E s := by
  obtain ⟨o, ho, hc, hd⟩ := id hit
  obtain ⟨ol, hol, _, nl, hdl⟩ := hl
  unfold Builtin.SmallTypes.nextOf
  refine wpAny_bind (wpAny_callSpecial?_slot (name := Str.ofString "__next__") hit.typeIs F.slot_tuple_iterator_next
    (wpAny_call_entry F.slot_tuple_iterator_next hit.typeIs F.entry_tuple_iterator_next ?_ (F.args_tuple_iterator_next_1 _)))
  show wpAny _ _ (field (.ref it) 0 >>= _) _ _ s
  refine wpAny_bind (wpAny_field ho hd (x := .ref l) rfl ?_)
  show wpAny _ _ (if (Value.ref l == Value.none) = true then _ else _) _ _ s
  rw [if_neg (show ¬ ((Value.ref l == Value.none) = true) from Bool.false_ne_true)]
  show wpAny _ _ (field (.ref it) 1 >>= _) _ _ s
  refine wpAny_bind (wpAny_field ho hd (x := .int i 0) rfl ?_)
  show wpAny _ _ (seqItems? (.ref l) >>= _) _ _ s
  refine wpAny_bind (wpAny_seqItems hol hdl ?_)
  simp only [Int.toNat_natCast, hx]
  refine wpAny_bind (wpAny_setField ho hd (by simp) (wpAny_pure ⟨x, rfl, wpAny_pure (hQ _ ?_ (Heap.SameBut.update ..))⟩))
  exact ⟨_, Heap.get?_update_self _ ho (Obj.isFreed_of_fields (Obj.data_mapFields hd _)), (Obj.cls_mapFields ..).trans hc, by
    rw [Obj.data_mapFields hd]; simp [rawInt]⟩

theorem w3_nextOf_tuple_end {it l : Addr} {i : Nat} {items} {Q : Value → Shared → Prop} (hh : A.handled = none)
    (hit : s.heap.IsTupleIter it l i) (hl : s.heap.IsTuple l items) (hx : items[i]? = none)
    (hE : ∀ h' e, Heap.ExtBut it s.heap h' → (∃ o, h'.get? e = some o ∧ o.cls = .type "StopIteration") → E (.ref e) { s with heap := h' }) :
    wpAny (model prog w) A (Builtin.SmallTypes.nextOf (.ref it)) Q E s := by
  obtain ⟨o, ho, hc, hd⟩ := id hit
  obtain ⟨ol, hol, _, nl, hdl⟩ := hl
  unfold Builtin.SmallTypes.nextOf
  refine wpAny_bind (wpAny_callSpecial?_slot (name := Str.ofString "__next__") hit.typeIs F.slot_tuple_iterator_next
    (wpAny_call_entry F.slot_tuple_iterator_next hit.typeIs F.entry_tuple_iterator_next ?_ (F.args_tuple_iterator_next_1 _)))
  show wpAny _ _ (field (.ref it) 0 >>= _) _ _ s
  refine wpAny_bind (wpAny_field ho hd (x := .ref l) rfl ?_)
  show wpAny _ _ (if (Value.ref l == Value.none) = true then _ else _) _ _ s
  rw [if_neg (show ¬ ((Value.ref l == Value.none) = true) from Bool.false_ne_true)]
  show wpAny _ _ (field (.ref it) 1 >>= _) _ _ s
  refine wpAny_bind (wpAny_field ho hd (x := .int i 0) rfl ?_)
  show wpAny _ _ (seqItems? (.ref l) >>= _) _ _ s
  refine wpAny_bind (wpAny_seqItems hol hdl ?_)
  simp only [Int.toNat_natCast, hx]
  refine wpAny_bind (wpAny_rule (wpAny_bind (wpAny_setField ho hd (by simp) ?_)))
  show wpAny _ _ (newExc (.type "StopIteration") [] >>= _) _ _ _
  refine wpAny_bind ?_
  simp only [newExc, newTuple]
  refine wpAny_bind (wpAny_newObj_type ?_ (by size_fits))
  refine wpAny_bind (m := firstArgMember _ _) (wpAny_of_eq (a := Value.none) (by first | rfl | (simp only [firstArgMember]; rfl)) ?_)
  refine wpAny_newObj_type ?_ (by size_fits)
  simp only [raiseNew]
  refine wpAny_bind (wpAny_handled ?_)
  first | rw [show A.in1.handled = none from hh] | rw [hh]
  refine wpAny_bind (wpAny_pure (wpAny_throw ?_))
  exact hE _ _ (((Heap.SameBut.update ..).extBut.push _).push _) ⟨_, Heap.get?_push_size _ rfl, rfl⟩

end
theorem w3_enumerate_newT (l : Addr) (items : Array Value) (n : Nat) (dct : Option Addr) (sl : Array (Option Value)) :
    Meets (Builtin.«enumerate.__new__» ⟨[.type "enumerate", .ref l], []⟩) (fun _ R s => s.heap.get? l = some { cls := .type "tuple", dict := dct, data := .seq items n, slots := sl } ∧
      R (.ok (.ret (.ref (s.heap.push { cls := .type "tuple_iterator", data := .fields #[.ref l, .int 0 0] }).objs.size)))
        { s with heap := (s.heap.push { cls := .type "tuple_iterator", data := .fields #[.ref l, .int 0 0] }).push { cls := .type "enumerate", data := .fields #[.none, .bool false, .ref s.heap.objs.size, rawInt 0, .none, .none] } }) :=
  .of_wp fun prog w A R s h => by
    obtain ⟨hp, g, d, tk, os⟩ := s; obtain ⟨hl, h⟩ := h
    have hsub := sub_enumerate
    have hL : Heap.IsTuple (Shared.heap ⟨hp, g, d, tk, os⟩) l items := ⟨_, hl, rfl, n, rfl⟩
    wp_walk using wpAny_loadPart' hl
    refine wpAny_stack_any fun st => wpAny_pure ?_
    split
    · rename_i c _ _ _ _ _
      cases (c == Value.type "enumerate")
      · wp_walk using wpAny_loadPart' hl, wpAny_pyIter_tuple hL
        exact ⟨_, rfl, h⟩
      · wp_walk using wpAny_loadPart' hl, wpAny_pyIter_tuple hL
        exact ⟨_, rfl, h⟩
    · wp_walk using wpAny_loadPart' hl, wpAny_pyIter_tuple hL
      exact ⟨_, rfl, h⟩


section
variable {prog : Program} {w : World} {A : Around} {E : Value → Shared → Prop} {s : Shared}
theorem w3_call_enumerate_tuple {l : Addr} {items : Array Value} {Q : Value → Shared → Prop} (hL : s.heap.IsTuple l items)
    (h : ∀ h', IsEnum h' (s.heap.objs.size + 1) s.heap.objs.size 0 .none → h'.IsTupleIter s.heap.objs.size l 0 → h'.objs.size = s.heap.objs.size + 2 →
      (∀ b o, s.heap.get? b = some o → h'.get? b = some o) → Q (.ref (s.heap.objs.size + 1)) { s with heap := h' }) :
    wpAny (model prog w) A (call (.type "enumerate") [.ref l]) Q E s := by
  obtain ⟨⟨c, dct, dt, sl⟩, hl, hc, n, hd⟩ := hL
  replace hc : c = .type "tuple" := hc
  replace hd : dt = .seq items n := hd
  subst hc hd
  refine callType_new F.called_enumerate (by decide) (F.typeCall_enumerate_1 _) (F.newCall_enumerate_1 _) (fun obj => F.args_object_init_2 obj _) F.entry_enumerate_new
    (w3_enumerate_newT l items n dct sl) ⟨hl, ?_⟩
  have hz : (s.heap.push { cls := .type "tuple_iterator", data := .fields #[.ref l, .int 0 0] }).objs.size = s.heap.objs.size + 1 := Heap.size_push ..
  show _ ∧ _
  rw [hz]
  have he : IsEnum ((s.heap.push { cls := .type "tuple_iterator", data := .fields #[.ref l, .int 0 0] }).push
      { cls := .type "enumerate", data := .fields #[.none, .bool false, .ref s.heap.objs.size, rawInt 0, .none, .none] }) (s.heap.objs.size + 1) s.heap.objs.size 0 .none := by
    have := Heap.get?_push_size (s.heap.push { cls := .type "tuple_iterator", data := .fields #[.ref l, .int 0 0] })
      (o := { cls := .type "enumerate", data := .fields #[.none, .bool false, .ref s.heap.objs.size, rawInt 0, .none, .none] }) rfl
    rw [hz] at this; exact this
  refine ⟨⟨_, he, rfl⟩, h _ he ⟨_, Heap.get?_push_of_some _ (Heap.get?_push_size _ rfl), rfl, rfl⟩ (by rw [Heap.size_push, hz]) fun b o x => Heap.get?_push_of_some _ (Heap.get?_push_of_some _ x)⟩


end
end PySem
namespace L2.W3
open PySem PySem.Spec PyProof.Rows
/-- the tuple at a as it stands, each item in a new pair -/
def IteT (K : PySem.W.Frag) (a : Addr) : It :=
  ⟨fun i H => ∃ (xs : List V) (x : V), SqT K H a xs ∧ xs[i]? = some x, fun i H v H' => ∃ T x, v = .ref T ∧ H T = none ∧ H' = upd H T (.tup [.int (i : Nat), x]) ∧ ∀ xs, SqT K H a xs → xs[i]? = some x, fun i H => ∃ xs : List V, SqT K H a xs ∧ xs.length ≤ i⟩
theorem turn_enumT {P : Program} {w : World} {K : PySem.W.Frag} {elts : List Expr} {kk : Nat} {tpos : Pos} (a e it : Addr) :
    Turn P w K (.Tuple elts kk tpos) (IteT K a) [e, it] e (fun i h => (∃ old, IsEnum h e it ((i : Nat) : Int) old) ∧ h.IsTupleIter it a i ∧ e ≠ it ∧ a ≠ it) where
  mem := by simp
  obj := fun i h st b hb => by
    obtain ⟨⟨old, he⟩, ⟨o, ho, hc, hd⟩, _⟩ := st
    have e' : b = e ∨ b = it := by simpa using hb
    rcases e' with z | z
    · rw [z]; exact ⟨_, he, fun v q => nomatch q⟩
    · rw [z]; exact ⟨o, ho, fun v q => by rw [hd] at q; cases q⟩
  keep := fun i h h' st k => let ⟨⟨old, he⟩, hi, hne⟩ := st; ⟨⟨old, k e (by simp) _ he⟩, hi.at fun o q => k it (by simp) o q, hne⟩
  item := by
    intro X hP hw hK hc i pins s σ H E I hf st hg
    subst hP hw hK
    obtain ⟨⟨old, he⟩, hit, hne, hai⟩ := st
    obtain ⟨xs, x, hq, hx⟩ := hg
    obtain ⟨its, rv, p, hz⟩ := I.tuple hq
    obtain ⟨u, hu, ru⟩ := rv.get hx
    have hel : e < s.heap.objs.size := Heap.lt_size he
    have hil : it < s.heap.objs.size := by obtain ⟨_, q, _⟩ := hit; exact Heap.lt_size q
    have hd : X.A.in1.handled = none := I.ok.hd hc
    have D : Draws X.prog X.w X.A.in1 it [it, a] its.length (fun j v => its[j]? = some v) (fun j h => h.IsTupleIter it a j ∧ h.IsTuple a its.toArray) := by
      refine ⟨fun _ _ st => ?_, fun _ _ _ st hk => ⟨st.1.at fun o q => hk it (by simp) o q, st.2.at fun o q => hk a (by simp) o q⟩, fun j s Q E hj st hQ => ?_, fun s Q E st hE => ?_⟩
      · obtain ⟨⟨o, ho, _⟩, _⟩ := st; exact ⟨o, ho⟩
      · refine w3_nextOf_tuple_item st.1 st.2 (x := its[j]) (by simp [hj]) fun h' hit' hs' => ?_
        exact hQ _ h' s.toks (by simp [hj]) ⟨hit', st.2.at fun o q => (hs'.2 a hai).trans q⟩ hs'
      · exact w3_nextOf_tuple_end hd st.1 st.2 (by simp) hE
    have hlt : i < its.length := (List.getElem?_eq_some_iff.mp hu).1
    have hea : e ≠ a := fun z => by
      obtain ⟨o, ho, hc, _⟩ := p
      rw [← z] at ho
      have := he.symm.trans ho
      cases this
      exact absurd (show Value.type "enumerate" = Value.type "tuple" from hc) (by decide)
    refine wpAny_pyNext_enum_itemD D he ⟨hit, p⟩ hlt hne (by simp [hne, hea]) fun v h' tk hv ho hit' hT hsz hk => ?_
    have hv : v = u := Option.some.inj (hv.symm.trans hu)
    subst hv
    refine ⟨_, rfl, wpAny_letOwnedTupleGo_enum (s := { s with heap := h', toks := tk + 1 }) ho fun h'' he' sb => ?_⟩
    have hT2 : h''.get? s.heap.objs.size = some { cls := .type "tuple", data := .seq #[.int i tk, v] } := (sb.2 _ (Nat.ne_of_gt hel)).trans hT
    have new : ObjOk X.prog X.w (upd H s.heap.objs.size (.tup [.int (i : Nat), x])) h'' s.heap.objs.size (.tup [.int (i : Nat), x]) :=
      ⟨by show 2 ≤ sizeLine; decide, [.int i tk, v], .cons ⟨_, rfl⟩ (.cons ru .nil), ⟨_, hT2, rfl, _, rfl⟩⟩
    have I1 : Inv X pins σ (upd H s.heap.objs.size (.tup [.int (i : Nat), x])) { s with heap := h'', toks := tk + 1 } :=
      I.turnedNew (ch := [e, it]) (fun b ob hb q => (sb.2 b (fun z => hb (by simp [z]))).trans (hk b ob (fun z => hb (by simp [z])) (fun z => hb (by simp [z])) q)) hf (Nat.le_refl _) new
    refine ⟨.ref s.heap.objs.size, _, I1, rfl, ⟨_, x, rfl, I.hok.fresh (Nat.le_refl _), rfl, fun ys hy => by rw [I.tuple_inj hy hq]; exact hx⟩, ⟨⟨v, ?_⟩, hit'.1.at fun o q => (sb.2 it (Ne.symm hne)).trans q, hne, hai⟩, fun b hb => ?_⟩
    · have e1 : ((i + 1 : Nat) : Int) = (i : Int) + 1 := by omega
      rw [e1]; exact he'
    · have hb' : b < s.heap.objs.size := by
        have e' : b = e ∨ b = it := by simpa using hb
        rcases e' with z | z
        · rw [z]; exact hel
        · rw [z]; exact hil
      rw [upd_ne (Nat.ne_of_lt hb')]
      exact (hf b hb).1
  done := by
    intro X hP hw hK hc i pins s σ H E I hf st hg
    subst hP hw hK
    obtain ⟨⟨old, he⟩, hit, hne, hai⟩ := st
    obtain ⟨xs, hq, hx⟩ := hg
    obtain ⟨its, rv, p, hz⟩ := I.tuple hq
    obtain ⟨f0, f1, f2, f3, f4, f5⟩ := hf it (by simp)
    have hl := rv.length
    have hd : X.A.in1.handled = none := I.ok.hd hc
    have D : Draws X.prog X.w X.A.in1 it [it, a] i (fun _ _ => True) (fun j h => h.IsTupleIter it a j ∧ h.IsTuple a its.toArray ∧ i ≤ j) := by
      refine ⟨fun _ _ st => ?_, fun _ _ _ st hk => ⟨st.1.at fun o q => hk it (by simp) o q, st.2.1.at fun o q => hk a (by simp) o q, st.2.2⟩, fun j s Q E hj st hQ => absurd st.2.2 (by omega), fun s Q E st hE => ?_⟩
      · obtain ⟨⟨o, ho, _⟩, _⟩ := st; exact ⟨o, ho⟩
      · exact w3_nextOf_tuple_end hd st.1 st.2.1 (by simp; omega) hE
    exact wpAny_pyNext_enum_endD D he ⟨hit, p, Nat.le_refl _⟩ fun h' eb => ⟨rfl, I.turned (t' := s.toks) (fun b o hb q => eb b o hb q) f0 f1 f3 f4 f5⟩
  self := fun A i s Q E st h => let ⟨⟨_, he⟩, _⟩ := st; wpAny_pyIter_enum he h
def iEnumB (K : PySem.W.Frag) (ta : TA) : TI := fun σ H R => ta σ H fun vs H1 => (∃ a xs, vs = [.ref a] ∧ SqL K H1 a xs ∧ R (Ite K a) H1) ∨ (∃ x, vs = [.str x] ∧ R (Itse x) H1) ∨ ∃ a xs, vs = [.ref a] ∧ SqT K H1 a xs ∧ R (IteT K a) H1
theorem pi_enumB {X : Cx} {e : Expr} {ta : TA} {p pos tpos : Pos} {elts : List Expr} {kk : Nat} (hg : Gl X "enumerate") (hm : X.mg "enumerate" = none) (ha : PA X [e] ta) (hs : starEach [e] X.env = [(false, eval e X.env)] := by rfl) :
    PI X (.Tuple elts kk tpos) (.Call (.Name "enumerate" p) [e] [] pos) (iEnumB X.K ta) := by
  refine ⟨fun pins s σ H R I h => ?_⟩
  refine Call_ (ld_blt I hg hm boot_enumerate (PyProof.Rows.callWith_type1 (thn (ha.run pos pins s σ H _ I h) fun us s1 ⟨vs, H1, I1, r1, q1⟩ => ?_) hs rfl))
  have fp : ∀ b : Addr, b ∈ [s1.heap.objs.size + 1, s1.heap.objs.size] → s1.heap.objs.size ≤ b := fun b hb => by
    have e' : b = s1.heap.objs.size + 1 ∨ b = s1.heap.objs.size := by simpa using hb
    rcases e' with z | z
    · rw [z]; exact Nat.le_add_right _ _
    · rw [z]; exact Nat.le_refl _
  rcases q1 with ⟨a, xs, ex, hq, q⟩ | ⟨x, ex, q⟩ | ⟨a, xs, ex, hq, q⟩
  · subst ex
    obtain ⟨u, rfl, r⟩ := vals1 r1
    cases r
    obtain ⟨its, rv, p', hz⟩ := I1.list hq
    refine call_enumerate_list p'.isList fun h' he hit hsz hk => wpAny_pyIter_enum he ?_
    have I2 : Inv X pins σ H1 { s1 with heap := h' } := I1.kept (t' := s1.toks) hk
    exact ⟨_, [s1.heap.objs.size + 1, s1.heap.objs.size], _, _, H1, rfl, I2, turn_enum a (s1.heap.objs.size + 1) s1.heap.objs.size, ⟨⟨.none, he⟩, hit, Nat.succ_ne_self _⟩, fun b hb => I1.fpOk (fp b hb) (I1.hok.fresh (fp b hb)), q⟩
  · subst ex
    obtain ⟨u, rfl, r⟩ := vals1 r1
    obtain ⟨t, rfl⟩ := r
    refine call_enumerate_str fun h' he hit hsz hk => wpAny_pyIter_enum he ?_
    have I2 : Inv X pins σ H1 { s1 with heap := h' } := I1.kept (t' := s1.toks) hk
    exact ⟨_, [s1.heap.objs.size + 1, s1.heap.objs.size], _, _, H1, rfl, I2, turn_enumS x t (s1.heap.objs.size + 1) s1.heap.objs.size, ⟨⟨.none, he⟩, hit, Nat.succ_ne_self _⟩, fun b hb => I1.fpOk (fp b hb) (I1.hok.fresh (fp b hb)), q⟩
  · subst ex
    obtain ⟨u, rfl, r⟩ := vals1 r1
    cases r
    obtain ⟨its, rv, p', hz⟩ := I1.tuple hq
    have hlt : a < s1.heap.objs.size := by obtain ⟨o, ho, _⟩ := p'; exact Heap.lt_size ho
    refine w3_call_enumerate_tuple (show s1.heap.IsTuple a its.toArray from p') fun h' he hit hsz hk => wpAny_pyIter_enum he ?_
    have I2 : Inv X pins σ H1 { s1 with heap := h' } := I1.kept (t' := s1.toks) hk
    exact ⟨_, [s1.heap.objs.size + 1, s1.heap.objs.size], _, _, H1, rfl, I2, turn_enumT a (s1.heap.objs.size + 1) s1.heap.objs.size, ⟨⟨.none, he⟩, hit, Nat.succ_ne_self _, Nat.ne_of_lt hlt⟩, fun b hb => I1.fpOk (fp b hb) (I1.hok.fresh (fp b hb)), q⟩
/-- the pairs of a place and a thing -/
def wEnumB (fa : WE) : WI := fun ρ Q => fa ρ fun r ρ1 => fz r ρ1 fun d ρ2 => match d with
  | .lst l => Q (enumD 0 l) ρ2
  | .tup l => Q (enumD 0 l) ρ2
  | .str s => s.length ≤ sizeLine ∧ Q (enumD 0 (s.map fun c => .str [c])) ρ2
  | _ => False
theorem itok_enumT {K : PySem.W.Frag} {B : Addr} {G : Hp} {a : Addr} {vs : List V} {l : List D} (h : SqT K G a vs) (r : RepL K B G vs l) : ItOk K B G (IteT K a) (enumD 0 l) := by
  refine ⟨fun i H g hi => ?_, fun i H g hi => ⟨vs, sqT_mono g h, by rw [r.length, ← enumD_len]; exact hi⟩, fun i H x H' g hi hy => ?_⟩
  · rw [enumD_len] at hi
    obtain ⟨v, hv, _⟩ := r.get (List.getElem?_eq_getElem hi)
    exact ⟨vs, v, sqT_mono g h, hv⟩
  · obtain ⟨T, x, rfl, hT, rfl, hx⟩ := hy
    obtain ⟨d, hd, q⟩ := r.getV (hx vs (sqT_mono g h))
    refine ⟨_, enumD_getI hd, .inl (.inr ⟨T, _, _, rfl, hT, rfl, rfl, .cons ?_ (.cons q .nil)⟩)⟩
    rw [Nat.zero_add]; exact .int _
section
variable {X : Cx} {bx : Bx} {a b c e tg : Expr} {es elts : List Expr} {fa fb fc : WE} {fr : WA} {pos tpos : Pos} {x : Str} {p : Pos} {kk : Nat}
theorem i_enumB (ha : E3 X bx a fa) (hm : X.mg "enumerate" = none) (hg : Gl X "enumerate" := by rfl) (hs : starEach [a] X.env = (false, eval a X.env) :: starEach [] X.env := by rfl) (hs2 : starEach [a] X.env = [(false, eval a X.env)] := by rfl) :
    I3 X bx (.Tuple elts kk tpos) (.Call (.Name "enumerate" p) [a] [] pos) (wEnumB fa) := by
  refine ⟨PI.weaken (pi_enumB hg hm (pa_cons ha.pe pa_nil hs) hs2) fun σ H R ⟨F, ρ, G, P, st, h, hQ⟩ => ⟨F, ρ, G, _, st, h, fun r ρ1 v G1 H1 h1 g1 st1 rr1 => ?_⟩⟩
  obtain ⟨d, ρ2, G2, h2, g2, st2, rd⟩ := fz_ok st1 rr1 h1
  cases d with
  | lst l =>
    cases rd with
    | lst hg r => exact .inl ⟨_, _, rfl, .inl (.inl (st2.gs _ _ hg)), hQ _ ρ2 G2 _ _ h2 (g1.trans g2) st2 (itok_enum hg r)⟩
  | tup l =>
    cases rd with
    | tup hg r => exact .inr (.inr ⟨_, _, rfl, .inl (.inl (st2.gs _ _ hg)), hQ _ ρ2 G2 _ _ h2 (g1.trans g2) st2 (itok_enumT (.inl (.inl hg)) r)⟩)
  | str s =>
    cases rd with
    | str o => exact .inr (.inl ⟨_, rfl, hQ _ ρ2 G2 _ _ h2.2 (g1.trans g2) st2 (itok_enumS o)⟩)
  | non => exact (show False from h2).elim
  | bl _ => exact (show False from h2).elim
  | int _ => exact (show False from h2).elim
  | dik _ => exact (show False from h2).elim
  | dit _ => exact (show False from h2).elim
  | ty _ => exact (show False from h2).elim
  | box => exact (show False from h2).elim
  | obj _ => exact (show False from h2).elim
end
/-! ### //= -/
def fdivA : DOp
  | .int i, .int j, P => CDivW i j ∧ P (.val (.int (i / j)))
  | _, _, _ => False
theorem ipA_fdiv {X : Cx} {bx : Bx} : IpD X bx .FloorDiv fdivA := by
  intro pins s σ H x y v u Q I rx ry ⟨G, d1, d2, P, g, v1, v2, h, R⟩
  unfold fdivA at h
  split at h
  · obtain rfl := view_int v1
    obtain rfl := view_int v2
    exact iop_fdivW pins s σ H _ _ v u Q I rx ry ⟨_, _, rfl, rfl, h.1, R.val _ _ h.2 (.int _)⟩
  · exact h.elim
end L2.W3

/-! W3, part s: comprehensions with two fors. -/
namespace L2.W3
open PySem PySem.Spec PyProof.Rows
/-- the turns of a comprehension with two fors, what is made so far -/
def lc2Go (g : WG) (tt : WTs) (fi1 : WI) (g1 : WG) (tt1 : WTs) (te : WE) (vs vs1 : List Nat) : List D → Env3 → List D → (List D → Env3 → Prop) → Prop
  | [], ρ, acc, Q => Q acc ρ
  | d :: r, ρ, acc, Q => g d (wipeE ρ vs) fun ρ1 => tt ρ1 fun b ρ2 => if b = true then fi1 ρ2 fun items ρ3 => lcGo g1 tt1 te vs1 items ρ3 acc fun acc1 ρ4 => lc2Go g tt fi1 g1 tt1 te vs vs1 r ρ4 acc1 Q else lc2Go g tt fi1 g1 tt1 te vs vs1 r ρ2 acc Q
def lc2Run (g : WG) (tt : WTs) (fi1 : WI) (g1 : WG) (tt1 : WTs) (te : WE) (vs vs1 : List Nat) (items : List D) (ρ : Env3) (T : List D → Env3 → Prop) : Prop := lc2Go g tt fi1 g1 tt1 te vs vs1 items ρ [] fun acc ρ2 => T acc (backE (wipeE ρ2 vs) ρ vs)
def wLc2 (fi : WI) (g : WG) (tt : WTs) (fi1 : WI) (g1 : WG) (tt1 : WTs) (te : WE) (vs vs1 : List Nat) : WE := fun ρ Q => fi ρ fun items ρ1 => lc2Run g tt fi1 g1 tt1 te vs vs1 items ρ1 fun acc ρ2 => Q (.new (.lst acc)) ρ2
section
variable {K : PySem.W.Frag} {bx : Bx} {F G G' H H' : Hp} {ρ ρ' : Env3} {σ : L2.St} {r : R} {v : V} {p : Addr} {d : D}
theorem wipeE_in {j : Nat} : ∀ {vs : List Nat}, j ∈ vs → j < ρ.length → (wipeE ρ vs)[j]? = some .un
  | v :: vs, h, hl => by
    rw [wipeE]
    by_cases hv : v = j
    · subst hv
      rw [List.getElem?_set_self (by rw [wipeE_len]; exact hl)]
    · rw [List.getElem?_set_ne hv]
      exact wipeE_in ((List.mem_cons.mp h).resolve_left (Ne.symm hv)) hl
theorem wipe_in {j : Nat} : ∀ {vs : List Nat}, j ∈ vs → j < σ.length → (L2.wipe σ vs)[j]? = some none
  | v :: vs, h, hl => by
    unfold L2.wipe
    by_cases hv : v = j
    · subst hv
      rw [List.getElem?_set_self (by rw [wipe_length]; exact hl)]
    · rw [List.getElem?_set_ne hv]
      exact wipe_in ((List.mem_cons.mp h).resolve_left (Ne.symm hv)) hl
theorem wipeE_twice {vs vs1 : List Nat} (h : ∀ j ∈ vs1, j ∈ vs) : wipeE (wipeE ρ vs1) vs = wipeE ρ vs := by
  refine List.ext_getElem? fun j => ?_
  by_cases hj : j < ρ.length
  · by_cases hv : j ∈ vs
    · rw [wipeE_in hv (by rw [wipeE_len]; exact hj), wipeE_in hv hj]
    · rw [wipeE_out hv, wipeE_out hv, wipeE_out fun z => hv (h j z)]
  · rw [List.getElem?_eq_none (by rw [wipeE_len, wipeE_len]; omega), List.getElem?_eq_none (by rw [wipeE_len]; omega)]
theorem wipe_twice {vs vs1 : List Nat} (h : ∀ j ∈ vs1, j ∈ vs) : L2.wipe (L2.wipe σ vs1) vs = L2.wipe σ vs := by
  refine List.ext_getElem? fun j => ?_
  by_cases hj : j < σ.length
  · by_cases hv : j ∈ vs
    · rw [wipe_in hv (by rw [wipe_length]; exact hj), wipe_in hv hj]
    · rw [wipe_out hv, wipe_out hv, wipe_out fun z => hv (h j z)]
  · rw [List.getElem?_eq_none (by rw [wipe_length, wipe_length]; omega), List.getElem?_eq_none (by rw [wipe_length]; omega)]
theorem lE_lc2 {fi : WI} {g : WG} {tt : WTs} {fi1 : WI} {g1 : WG} {tt1 : WTs} {te : WE} {ts ts1 vs vs1 : List Nat} (hs : ∀ j ∈ ts, j ∈ vs) (hs1 : ∀ j ∈ ts1, j ∈ vs1) (hv : ∀ j ∈ vs1, j ∈ vs) (σ : L2.St) (H : Hp) (Q : VK)
    (h : lE K bx (wLc2 fi g tt fi1 g1 tt1 te vs vs1) σ H Q) : tLc2 (lI K bx fi) (lG K bx ts g) (lT K bx tt) (lI K bx fi1) (lG K bx ts1 g1) (lT K bx tt1) (lE K bx te) vs vs1 σ H Q := by
  obtain ⟨F, ρ, G, P, st, h, hQ⟩ := h
  refine ⟨F, ρ, G, _, st, h, fun items ρ1 G1 H1 J h1 g1' st1 it => fun Da hD => ?_⟩
  have fD : F Da = none := st1.nF hD
  refine ⟨fun i m H => m = items.length - i ∧ i ≤ items.length ∧ ∃ ρ2 G2 acc accV, lc2Go g tt fi1 g1 tt1 te vs vs1 (items.drop i) ρ2 acc (fun acc ρ2 => P (.new (.lst acc)) (backE (wipeE ρ2 vs) ρ1 vs)) ∧ Same G1 G2 ∧
    Stt K bx (W3.addF F Da (.lst accV)) (wipeE ρ2 vs) (L2.wipe σ vs) G2 H ∧ RepL K bx.adr G2 accV acc, ⟨items.length, rfl, Nat.zero_le _, ρ1, G1, [], [], h1, Same.refl G1, (st1.addF hD).wipe vs, .nil⟩, ?_⟩
  rintro i m H2 ⟨rfl, hi, ρ2, G2, acc, accV, hgo, g2, st2, rl⟩
  by_cases hlt : i < items.length
  · refine .inr ⟨it.go i H2 (g2.trans st2.gs) hlt, fun H' => i + 1 ≤ items.length ∧ ∃ ρ2 G2 acc accV, lc2Go g tt fi1 g1 tt1 te vs vs1 (items.drop (i + 1)) ρ2 acc (fun acc ρ2 => P (.new (.lst acc)) (backE (wipeE ρ2 vs) ρ1 vs)) ∧ Same G1 G2 ∧
      Stt K bx (W3.addF F Da (.lst accV)) (wipeE ρ2 vs) (L2.wipe σ vs) G2 H' ∧ RepL K bx.adr G2 accV acc, fun H' hN => ⟨items.length - (i + 1), by omega, rfl, hN⟩, fun x H' hy => ?_⟩
    obtain ⟨d, G3, hd, g3, st3, rd⟩ := item_st rfl it g2 st2 hlt hy
    rw [List.drop_eq_getElem_cons hlt] at hgo
    have ed : items[i] = d := by rw [List.getElem?_eq_getElem hlt] at hd; exact Option.some.inj hd
    rw [ed] at hgo
    refine ⟨_, _, G3, d, _, st3, rd, hgo, fun ρ4 σ4 G4 H4 h4 g4 st4 b4 => ⟨but_wipe hs b4, ?_⟩⟩
    have ew := but_wipe hs b4
    refine ⟨_, ρ4, G4, _, st4, h4, fun b ρ5 G5 H5 h5 g5 st5 => ?_⟩
    by_cases hb : b = true
    · rw [if_pos hb] at h5 ⊢
      refine ⟨_, ρ5, G5, _, st5, h5, fun items1 ρ6 G6 H6 J1 h6 g6 st6 it1 => ?_⟩
      have gg : Same G1 G6 := g2.trans (g3.trans (g4.trans (g5.trans g6)))
      refine ⟨fun j k H => k = items1.length - j ∧ j ≤ items1.length ∧ ∃ ρ7 G7 acc1 accV1, lcGo g1 tt1 te vs1 (items1.drop j) ρ7 acc1 (fun acc1 ρ4 => lc2Go g tt fi1 g1 tt1 te vs vs1 (items.drop (i + 1)) ρ4 acc1 (fun acc ρ2 => P (.new (.lst acc)) (backE (wipeE ρ2 vs) ρ1 vs))) ∧ Same G6 G7 ∧
        Stt K bx (W3.addF F Da (.lst accV1)) (wipeE ρ7 vs1) (L2.wipe σ4 vs1) G7 H ∧ RepL K bx.adr G7 accV1 acc1, ⟨items1.length, rfl, Nat.zero_le _, ρ6, G6, acc, accV, h6, Same.refl G6, st6.wipe vs1, rl.mono (g3.trans (g4.trans (g5.trans g6)))⟩, ?_⟩
      rintro j k H7 ⟨rfl, hj, ρ7, G7, acc1, accV1, hgo1, g7, st7, rl1⟩
      by_cases hlt1 : j < items1.length
      · refine .inr ⟨it1.go j H7 (g7.trans st7.gs) hlt1, fun H' => j + 1 ≤ items1.length ∧ ∃ ρ7 G7 acc1 accV1, lcGo g1 tt1 te vs1 (items1.drop (j + 1)) ρ7 acc1 (fun acc1 ρ4 => lc2Go g tt fi1 g1 tt1 te vs vs1 (items.drop (i + 1)) ρ4 acc1 (fun acc ρ2 => P (.new (.lst acc)) (backE (wipeE ρ2 vs) ρ1 vs))) ∧ Same G6 G7 ∧
          Stt K bx (W3.addF F Da (.lst accV1)) (wipeE ρ7 vs1) (L2.wipe σ4 vs1) G7 H' ∧ RepL K bx.adr G7 accV1 acc1, fun H' hN => ⟨items1.length - (j + 1), by omega, rfl, hN⟩, fun x1 H' hy1 => ?_⟩
        obtain ⟨d1, G8, hd1, g8, st8, rd1⟩ := item_st rfl it1 g7 st7 hlt1 hy1
        rw [List.drop_eq_getElem_cons hlt1] at hgo1
        have ed1 : items1[j] = d1 := by rw [List.getElem?_eq_getElem hlt1] at hd1; exact Option.some.inj hd1
        rw [ed1] at hgo1
        refine ⟨_, _, G8, d1, _, st8, rd1, hgo1, fun ρ9 σ9 G9 H9 h9 g9 st9 b9 => ⟨but_wipe hs1 b9, ?_⟩⟩
        have ew1 := but_wipe hs1 b9
        refine ⟨_, ρ9, G9, _, st9, h9, fun b2 ρa Ga Ha ha ga sta => ?_⟩
        by_cases hb2 : b2 = true
        · rw [if_pos hb2] at ha ⊢
          refine ⟨_, ρa, Ga, _, sta, ha, fun r ρb v Gb Hb hb' gb stb rrb => ?_⟩
          obtain ⟨y, ρc, Gc, hc, gc, stc, ry⟩ := fz_ok stb rrb hb'
          have g8c : Same G7 Gc := g8.trans (g9.trans (ga.trans (gb.trans gc)))
          refine ⟨accV1, stc.fs Da _ addF_same, by rw [rl1.length]; exact hc.1, by omega, ρc, Gc, _, _, hc.2, g7.trans g8c, ?_, (rl1.mono g8c).append (.cons ry .nil)⟩
          have := (stc.setF (o' := .lst (accV1 ++ [v]))).wipe vs1
          rw [ew1] at this
          exact this
        · rw [if_neg hb2] at ha ⊢
          have g8a : Same G7 Ga := g8.trans (g9.trans ga)
          refine ⟨by omega, ρa, Ga, acc1, accV1, ha, g7.trans g8a, ?_, rl1.mono g8a⟩
          have := sta.wipe vs1
          rw [ew1] at this
          exact this
      · have ej : j = items1.length := by omega
        subst ej
        refine .inl ⟨it1.stop _ H7 (g7.trans st7.gs) (Nat.le_refl _), ?_⟩
        rw [List.drop_length] at hgo1
        refine ⟨by omega, ρ7, G7, acc1, accV1, hgo1, gg.trans g7, ?_, rl1⟩
        have := st7.wipe vs
        rw [wipeE_twice hv, wipe_twice hv, ew] at this
        exact this
    · rw [if_neg hb] at h5 ⊢
      refine ⟨by omega, ρ5, G5, acc, accV, h5, g2.trans (g3.trans (g4.trans g5)), ?_, rl.mono (g3.trans (g4.trans g5))⟩
      have := st5.wipe vs
      rw [ew] at this
      exact this
  · have ei : i = items.length := by omega
    subst ei
    refine .inl ⟨it.stop _ H2 (g2.trans st2.gs) (Nat.le_refl _), ?_⟩
    rw [List.drop_length] at hgo
    obtain ⟨st5, hD5, gD5, nD5, no5⟩ := st2.dropF fD
    have stU := st1.unwipe g2 st5
    refine hQ _ _ _ G2 H2 hgo (g1'.trans g2) stU ⟨Da, rfl, ⟨.lst hD5 rl, gD5, fD, nD5⟩, fun j ⟨⟨d', e⟩, e1⟩ => ?_⟩
    by_cases h : j ∈ vs
    · exact keptE_own (backE_in h e).symm
    · rw [backE_out h] at e
      exact no5 j ⟨⟨d', e⟩, by rw [wipe_out h]; exact e1⟩
end
section
variable {X : Cx} {bx : Bx} {elt tg iter tg1 iter1 : Expr} {ifs ifs1 : List Expr} {pos : Pos}
theorem e_lc2 {scope : Scope} {own : List (Str × Nat)} {fi fi1 : WI} {g g1 : WG} {tt tt1 : WTs} {te : WE} {ts ts1 vs vs1 : List Nat} (hc : X.calm = true) (hN : X.N.Nodup) (hi : I3 X bx tg iter fi) (ok : BlkOk X.N X.env.scope scope own)
    (hg : ∀ (s : Shared) (H : Hp) (C : Addr) (cl : List (Str × Addr)) (fp : List Addr), G3 (X.blk s H scope (compEnvC scope cl C X.env) fp) bx tg ts g) (ht : ∀ (s : Shared) (H : Hp) (C : Addr) (cl : List (Str × Addr)) (fp : List Addr), Ts3 (X.blk s H scope (compEnvC scope cl C X.env) fp) bx ifs tt)
    (hi1 : ∀ (s : Shared) (H : Hp) (C : Addr) (cl : List (Str × Addr)) (fp : List Addr), I3 (X.blk s H scope (compEnvC scope cl C X.env) fp) bx tg1 iter1 fi1)
    (hg1 : ∀ (s : Shared) (H : Hp) (C : Addr) (cl : List (Str × Addr)) (fp : List Addr), G3 (X.blk s H scope (compEnvC scope cl C X.env) fp) bx tg1 ts1 g1) (ht1 : ∀ (s : Shared) (H : Hp) (C : Addr) (cl : List (Str × Addr)) (fp : List Addr), Ts3 (X.blk s H scope (compEnvC scope cl C X.env) fp) bx ifs1 tt1)
    (he : ∀ (s : Shared) (H : Hp) (C : Addr) (cl : List (Str × Addr)) (fp : List Addr), E3 (X.blk s H scope (compEnvC scope cl C X.env) fp) bx elt te) (hts : ∀ j ∈ ts, j ∈ own.map (·.2) := by decide) (hts1 : ∀ j ∈ ts1, j ∈ vs1 := by decide) (hv : ∀ j ∈ vs1, j ∈ own.map (·.2) := by decide)
    (hs : ∀ x, foldedSetIterable iter X.env x = pure x := by intro _; rfl) (hs1 : ∀ env x, foldedSetIterable iter1 env x = pure x := by intro _ _; rfl) (hvs : own.map (·.2) = vs := by rfl) :
    E3 X bx (.ListComp elt [⟨tg, iter, ifs, 0⟩, ⟨tg1, iter1, ifs1, 0⟩] scope pos) (wLc2 fi g tt fi1 g1 tt1 te vs vs1) :=
  hvs ▸ ⟨PE.weaken (pe_lc2 hc hN hi.pi ok hv (fun s H C cl fp => (hg s H C cl fp).pg) (fun s H C cl fp => (ht s H C cl fp).pts) (fun s H C cl fp => (hi1 s H C cl fp).pi) (fun s H C cl fp => (hg1 s H C cl fp).pg) (fun s H C cl fp => (ht1 s H C cl fp).pts)
    (fun s H C cl fp => (he s H C cl fp).pe) hs hs1) (lE_lc2 hts hts1 hv)⟩
theorem s_setLc2 (i : Nat) {x : Str} {py spos : Pos} {scope : Scope} {own : List (Str × Nat)} {fi fi1 : WI} {g g1 : WG} {tt tt1 : WTs} {te : WE} {ts ts1 vs vs1 : List Nat} (hc : X.calm = true) (hN : X.N.Nodup) (hi : I3 X bx tg iter fi) (ok : BlkOk X.N X.env.scope scope own)
    (hg : ∀ (s : Shared) (H : Hp) (C : Addr) (cl : List (Str × Addr)) (fp : List Addr), G3 (X.blk s H scope (compEnvC scope cl C X.env) fp) bx tg ts g) (ht : ∀ (s : Shared) (H : Hp) (C : Addr) (cl : List (Str × Addr)) (fp : List Addr), Ts3 (X.blk s H scope (compEnvC scope cl C X.env) fp) bx ifs tt)
    (hi1 : ∀ (s : Shared) (H : Hp) (C : Addr) (cl : List (Str × Addr)) (fp : List Addr), I3 (X.blk s H scope (compEnvC scope cl C X.env) fp) bx tg1 iter1 fi1)
    (hg1 : ∀ (s : Shared) (H : Hp) (C : Addr) (cl : List (Str × Addr)) (fp : List Addr), G3 (X.blk s H scope (compEnvC scope cl C X.env) fp) bx tg1 ts1 g1) (ht1 : ∀ (s : Shared) (H : Hp) (C : Addr) (cl : List (Str × Addr)) (fp : List Addr), Ts3 (X.blk s H scope (compEnvC scope cl C X.env) fp) bx ifs1 tt1)
    (he : ∀ (s : Shared) (H : Hp) (C : Addr) (cl : List (Str × Addr)) (fp : List Addr), E3 (X.blk s H scope (compEnvC scope cl C X.env) fp) bx elt te) (hy : X.N[i]? = some x := by rfl) (hyl : X.env.scope.names.lookup x = some .local := by rfl)
    (hsw : swapsWith (.ListComp elt [⟨tg, iter, ifs, 0⟩, ⟨tg1, iter1, ifs1, 0⟩] scope pos) (some (.Name x py)) spos.line X.env = pure true := by exact sw_true rfl rfl rfl (by decide +kernel)) (hts : ∀ j ∈ ts, j ∈ own.map (·.2) := by decide) (hts1 : ∀ j ∈ ts1, j ∈ vs1 := by decide) (hv : ∀ j ∈ vs1, j ∈ own.map (·.2) := by decide)
    (hs : ∀ x, foldedSetIterable iter X.env x = pure x := by intro _; rfl) (hs1 : ∀ env x, foldedSetIterable iter1 env x = pure x := by intro _ _; rfl) (hvs : own.map (·.2) = vs := by rfl) :
    S3 X bx (.Assign [.Name x py] (.ListComp elt [⟨tg, iter, ifs, 0⟩, ⟨tg1, iter1, ifs1, 0⟩] scope pos) spos) (wSet i (wLc2 fi g tt fi1 g1 tt1 te vs vs1)) := by
  subst hvs
  refine ⟨PS.weaken (ps_setLc2 hc hN hy hyl hsw hi.pi ok hv (fun s H C cl fp => (hg s H C cl fp).pg) (fun s H C cl fp => (ht s H C cl fp).pts) (fun s H C cl fp => (hi1 s H C cl fp).pi) (fun s H C cl fp => (hg1 s H C cl fp).pg) (fun s H C cl fp => (ht1 s H C cl fp).pts)
    (fun s H C cl fp => (he s H C cl fp).pe) hs hs1) fun D σ H ⟨F, ρ, G, P, st, h, e⟩ => lE_lc2 hts hts1 hv σ H _ ⟨F, ρ, G, _, st, h, fun r ρ1 v G1 H1 h1 g1 st1 rr => ?_⟩⟩
  obtain ⟨ρ', G', h2, g2, st2⟩ := set_ok i st1 rr h1
  exact e.nx ρ' _ G' H1 h2 (g1.trans g2) st2
end
end L2.W3

/-! W3, part t: xs.pop(k). -/
namespace L2.W3
open PySem PySem.Spec PyProof.Rows
theorem RepL.eraseIdx {K : PySem.W.Frag} {B : Addr} {G : Hp} : ∀ {vs : List V} {ds : List D} (k : Nat), RepL K B G vs ds → RepL K B G (vs.eraseIdx k) (ds.eraseIdx k)
  | _, _, _, .nil => .nil
  | _, _, 0, .cons _ t => t
  | _, _, k + 1, .cons r t => .cons r (RepL.eraseIdx k t)
section
variable {X : Cx} {bx : Bx} {a : Expr} {fa : WE} {x : Str}
def wPopAt (i : Nat) (fa : WE) : WE := fun ρ Q => onLst i ρ fun _ => fa ρ fun rk ρ1 => pk rk ρ1 fun k => asI k fun k => SmallI k ∧ onLst i ρ1 fun l => ∃ j d, ixN l.length k = some j ∧ l[j]? = some d ∧ Q (.val d) (ρ1.set i (.own (.lst (l.eraseIdx j))))
theorem e_popAt (i : Nat) {apos cpos npos : Pos} (ha : E3 X bx a fa) (hi : X.N[i]? = some x := by rfl) (hv : Vis X.env.scope x := by first | exact Or.inl rfl | exact Or.inr (Or.inl rfl) | exact Or.inr (Or.inr rfl)) (hd : (x == ("__debug__" : Str)) = false := by decide) (hcd : (x == ("__classdict__" : Str)) = false := by decide)
    (hbase : attributeBase (.Name x npos) "pop" X.env (eval (.Name x npos) X.env) = eval (.Name x npos) X.env := by rfl) (hfew : ((backTo cpos (starEach [a] X.env)).all (fun x => !x.1) && (backToKw cpos (keywordEach [] X.env)).all (fun x => x.1.isSome) && decide ([a].length + ([] : List Keyword).length + (if ([] : List Keyword).isEmpty then 0 else 1) < 30)) = true := by rfl)
    (hline : (apos.endLine == cpos.line) = true := by rfl) (hs : starEach [a] X.env = (false, eval a X.env) :: starEach [] X.env := by rfl) : E3 X bx (.Call (.Attribute (.Name x npos) "pop" apos) [a] [] cpos) (wPopAt i fa) := by
  refine ⟨PE.weaken (pe_bm PySem.F.plainAttrs_list PySem.F.slot_list_pop PySem.F.type_list_pop mt_popAt (pv i hi hv hd hcd) (pa_cons ha.pe pa_nil hs) hbase hfew hline hs rfl) fun σ H Q ⟨F, ρ, G, P, st, h, hQ⟩ => ?_⟩
  obtain ⟨l, p, vs, h, e, e1, hp, r⟩ := own_lst st h
  refine ⟨_, e1, .inl ⟨rfl, _, .inl (.inl hp)⟩, F, ρ, G, _, st, h, fun r1 ρ1 v G1 H1 h1 g1 st1 rr => ?_⟩
  obtain ⟨k, h4, vk⟩ := pk_ok st1 rr h1
  cases k <;> first
    | exact (show False from h4).elim
    | skip
  rename_i k
  obtain rfl := view_int vk
  have h4 : SmallI k ∧ onLst i ρ1 fun l => ∃ j d, ixN l.length k = some j ∧ l[j]? = some d ∧ P (.val d) (ρ1.set i (.own (.lst (l.eraseIdx j)))) := h4
  obtain ⟨sm, h4⟩ := h4
  obtain ⟨l2, q, vs2, h5, eo2, e3, hq, r2⟩ := own_lst st1 h4
  rw [e1] at e3; cases e3
  obtain ⟨j, d, ej, ed, h5⟩ := h5
  obtain ⟨y, hy, ry⟩ := r2.get ed
  rw [← r2.length] at ej
  unfold SmallI at sm
  refine ⟨p, vs2, k, j, y, rfl, rfl, hq, by omega, by omega, (ixN_seq ej).1, hy, ?_⟩
  exact hQ _ _ _ _ _ h5 g1 (own_write st1 eo2 e1 (r2.eraseIdx j)) ry
end
end L2.W3

/-! W3, part u: sorted(list of ints), sorted(list of texts), any number of them. -/
namespace SrtO
open PySem PyProof.Rows Srt
section
variable {prog : Program} {w : World} {A : Around} {E : Value → Shared → Prop} {s : Shared}
def w3sv : Value → PySem.Str
  | .str x _ => x
  | _ => ⟨#[]⟩
def w3ltS (v u : Value) : Bool := decide ((w3sv v).cps.toList < (w3sv u).cps.toList)
theorem w3_swo : Swo w3ltS := by
  refine ⟨fun x y h => ?_, fun x y z h1 h2 => ?_⟩
  · have a := of_decide_eq_true h
    exact decide_eq_false (List.lt_asymm a)
  · have a := of_decide_eq_false h1
    have b := of_decide_eq_false h2
    exact decide_eq_false (List.not_lt.mpr (List.le_trans (List.not_lt.mp a) (List.not_lt.mp b)))
theorem w3_mem : ∀ {vs : List Value} {ns : List PySem.Str}, StrsAre vs ns → ∀ v ∈ vs, ∃ i t, v = Value.str i t
  | _, _, .nil, v, h => absurd h (by simp)
  | _, _, .cons n t r, v, h => by
    rcases List.mem_cons.mp h with e | h
    · exact ⟨n, t, e⟩
    · exact w3_mem r v h
theorem w3_sv : ∀ {vs : List Value}, (∀ v ∈ vs, ∃ i t, v = Value.str i t) → StrsAre vs (vs.map w3sv)
  | [], _ => .nil
  | v :: vs, h => by
    obtain ⟨i, t, e⟩ := h v List.mem_cons_self
    subst e
    exact .cons i t (w3_sv fun u hu => h u (List.mem_cons_of_mem _ hu))
theorem w3_map : ∀ {vs : List Value} {ns : List PySem.Str}, StrsAre vs ns → vs.map w3sv = ns
  | _, _, .nil => rfl
  | _, _, .cons n t r => congrArg (n :: ·) (w3_map r)
theorem w3_cmp {vs : List Value} {ns : List PySem.Str} (hI : StrsAre vs ns) : Cmp prog w A s oneType' (fun p => p.1 ∈ vs) (lt2 w3ltS) := by
  intro p q hm hm'
  obtain ⟨a, t, e⟩ := w3_mem hI _ hm
  obtain ⟨b, u, e'⟩ := w3_mem hI _ hm'
  show wpAny (model prog w) A (keyLt' oneType' p.1 q.1) (fun r s' => s' = s ∧ r = w3ltS p.1 q.1) (fun _ _ => False) s
  rw [e, e', keyLt'_oneType]
  exact oneLt_str ⟨rfl, rfl⟩
theorem w3_sortable {a : Addr} {vs : List Value} {ns : List PySem.Str} (hI : StrsAre vs ns) (h2 : 2 ≤ vs.length) : SortableO prog w A s a vs w3ltS := by
  intro h' _
  refine ⟨oneType', fun Q E hq => ?_, w3_cmp hI⟩
  match vs, hI, h2 with
  | v1 :: v2 :: rest, hI, _ =>
    rw [keyKind_strs hI]
    exact wpAny_pure hq
  | [], _, h => exact absurd h (by decide)
  | [v], _, h => exact absurd h (by simp)
theorem w3_out {vs out : List Value} {ns : List PySem.Str} (hI : StrsAre vs ns) (hs : Srtd w3ltS out) (hb : Stb w3ltS out vs) : StrsAre out (out.map w3sv) ∧ (out.map w3sv).Perm ns ∧ (out.map w3sv).Pairwise (fun a b => ¬ b.cps.toList < a.cps.toList) := by
  refine ⟨w3_sv fun v hv => w3_mem hI v (hb.perm.mem_iff.mp hv), ?_, ?_⟩
  · have q := hb.perm.map w3sv
    rw [w3_map hI] at q
    exact q
  · exact List.pairwise_map.mpr (hs.imp fun {x y} h => of_decide_eq_false h)
end
end SrtO
namespace L2
open PySem PySem.Spec PyProof.Rows
section
variable {X : Cx}
def w3rSortedS (K : PySem.W.Frag) : List V → Hp → VK → Prop := fun vs H Q => ∃ (a : Addr) (xs : List Str), vs = [V.ref a] ∧ SqL K H a (xs.map V.str) ∧
  ∀ (ys : List Str) (p : Addr), ys.Perm xs → ys.Pairwise (fun a b => ¬ b.cps.toList < a.cps.toList) → H p = none → Q (.ref p) (upd H p (.lst (ys.map V.str)))
theorem w3_cr_sortedS : CallR X (.builtin "sorted") (w3rSortedS X.K) := by
  intro pins s σ H vs us Q I r h
  obtain ⟨a, xs, rfl, hs, q⟩ := h
  obtain ⟨its, rv, hl, hz⟩ := I.list hs
  rw [Vals.ref1 r]
  have hi := rv.strs
  refine SrtO.sorted_ord SrtO.w3_swo hl.isList (by rw [← rv.length]; exact hz) (fun h2 h₁ a' _ _ => SrtO.w3_sortable hi h2) fun out h1 h2 => ?_
  obtain ⟨k1, k2, k3⟩ := SrtO.w3_out hi h1 h2
  obtain ⟨ep, he'⟩ := PyProof.Rows.sortedAll_at s.heap its out.toArray
  have hlen : ((out.map SrtO.w3sv).map V.str).length ≤ sizeLine := by
    rw [List.length_map, k2.length_eq]
    rw [List.length_map] at hz
    exact hz
  exact ⟨.ref _, upd H (s.heap.objs.size + 1) (.lst ((out.map SrtO.w3sv).map V.str)), I.laid (t' := s.toks) (fun _ _ => PyProof.Rows.sortedAll_old) (Nat.le_succ _) ⟨hlen, out, ep, vals_of_strs k1, he'⟩, rfl, q _ _ k2 k3 (I.hok.fresh (Nat.le_succ _))⟩
end
end L2
namespace L2.W3
open PySem PySem.Spec PyProof.Rows
section
variable {X : Cx} {bx : Bx}
def sortedD : UOp
  | .lst l, P => (l.all isInt = true ∧ ∀ ns : List Int, ns.Perm (l.map intOf) → ns.Pairwise (· ≤ ·) → P (.new (.lst (ns.map D.int)))) ∨
      (l.all isStr = true ∧ ∀ ys : List (List Nat), ys.Perm (l.map strOf) → ys.Pairwise (fun a b => ¬ b < a) → P (.new (.lst (ys.map D.str))))
  | _, _ => False
theorem repL_ints {K : PySem.W.Frag} {B : Addr} {G : Hp} : ∀ ns : List Int, RepL K B G (ns.map V.int) (ns.map D.int)
  | [] => .nil
  | n :: ns => .cons (.int n) (repL_ints ns)
theorem repL_strs {K : PySem.W.Frag} {B : Addr} {G : Hp} : ∀ ys : List Str, (∀ y ∈ ys, okS y.cps.toList = true) → RepL K B G (ys.map V.str) ((ys.map fun y => y.cps.toList).map D.str)
  | [], _ => .nil
  | y :: ys, h => by
    have e : V.str y = V.str ⟨(y.cps.toList).toArray⟩ := by cases y; simp
    rw [List.map_cons, List.map_cons, List.map_cons, e]
    exact .cons (.str (h y List.mem_cons_self)) (repL_strs ys fun z hz => h z (List.mem_cons_of_mem _ hz))
theorem c_sorted : Call1 X bx (.builtin "sorted") sortedD := by
  rintro pins s σ H xs us Q I r ⟨v, rfl, G, d, P, g, v1, h, R⟩
  unfold sortedD at h
  split at h
  · rename_i l
    obtain ⟨a, vs, rfl, s1, r1⟩ := view_lst g v1
    rcases h with ⟨h1, h⟩ | ⟨h1, h⟩
    · have e := r1.ints h1
      subst e
      refine cr_sortedI pins s σ H _ us Q I r ⟨a, _, rfl, .inl (.inl s1), fun ns' p hp hs hn => ?_⟩
      exact R.lst _ _ p (h ns' hp hs) hn (repL_ints ns')
    · obtain ⟨e, ok⟩ := r1.strs h1
      subst e
      refine w3_cr_sortedS pins s σ H _ us Q I r ⟨a, _, rfl, .inl (.inl s1), fun ys p hp hs hn => ?_⟩
      have hq : (ys.map fun y => y.cps.toList).Perm (l.map strOf) := by
        have := hp.map fun y => y.cps.toList
        rw [List.map_map] at this
        exact this
      refine R.lst _ _ p (h _ hq (List.pairwise_map.mpr hs)) hn (repL_strs ys fun y hy => ?_)
      obtain ⟨d, hd, e⟩ := List.mem_map.mp (hp.mem_iff.mp hy)
      rw [← e]
      exact ok d hd
  · exact h.elim
end
end L2.W3

/-! W3, part v: s.upper() of plain letters. -/
namespace L2.W3
open PySem PySem.Spec PyProof.Rows
section
variable {X : Cx} {bx : Bx} {a : Expr} {fa : WE}
def upS (s : List Nat) : List Nat := s.map PyProof.Rows.up1
theorem upS_eq {s : List Nat} (h : s.all (· < 128) = true) : Txt.upper ⟨s.toArray⟩ = ⟨(upS s).toArray⟩ := by
  have e := upper_ascii (x := (⟨s.toArray⟩ : Str)) (fun c hc => of_decide_eq_true (List.all_eq_true.mp h c (by simpa using hc)))
  rw [e]
  unfold upS
  simp
theorem upS_ok {s : List Nat} (h : s.all (· < 128) = true) : okS (upS s) = true := by
  unfold okS upS
  rw [List.all_map, List.all_eq_true]
  intro c hc
  have := of_decide_eq_true (List.all_eq_true.mp h c hc)
  show decide (up1 c < 1114112) = true
  refine decide_eq_true ?_
  unfold up1
  split <;> omega
def wUp (fa : WE) : WE := fun ρ Q => fa ρ fun r1 ρ1 => match r1 with
  | .val (.str s) => s.all (· < 128) = true ∧ s.length ≤ 5592405 ∧ Q (.val (.str (upS s))) ρ1
  | _ => False
theorem e_upper {apos cpos : Pos} (ha : E3 X bx a fa) (hbase : attributeBase a "upper" X.env (eval a X.env) = eval a X.env := by rfl) (hline : (apos.endLine == cpos.line) = true := by rfl) : E3 X bx (.Call (.Attribute a "upper" apos) [] [] cpos) (wUp fa) := by
  refine ⟨PE.weaken (pe_upper ha.pe hbase hline) fun σ H Q ⟨F, ρ, G, P, st, hf, hQ⟩ => ⟨F, ρ, G, _, st, hf, fun r1 ρ1 w1 G1 H1 h1 g1 st1 rr1 => ?_⟩⟩
  split at h1
  · rename_i z
    cases rr1 with
    | str o =>
      refine ⟨⟨_, rfl⟩, _, rfl, rfl, ?_, ?_⟩
      · show z.toArray.size ≤ _
        simpa using h1.2.1
      · rw [upS_eq h1.1]
        exact hQ _ _ _ _ _ h1.2.2 g1 st1 (.str (upS_ok h1.1))
  · exact h1.elim
end
end L2.W3

/-! W3, part w: list(range(n)). -/
namespace L2.W3
open PySem PySem.Spec PyProof.Rows
section
variable {X : Cx} {bx : Bx} {a b c e tg : Expr} {es elts : List Expr} {fa fb fc : WE} {fr : WA} {pos pos2 : Pos} {x : Str} {p p2 : Pos} {ta : TA}
/-- list(range(n)) -/
def tLstR (ta : TA) : TE := fun σ H Q => ta σ H fun vs H1 => ∃ j : Int, vs = [.int j] ∧ -(2 ^ 62) ≤ j ∧ j.toNat ≤ sizeLine ∧ ∀ T, H1 T = none → Q (.ref T) (upd H1 T (.lst ((List.range j.toNat).map fun k : Nat => V.int (0 + (k : Int) * 1))))
theorem pe_lstR (hc : X.calm = true) (ha : PA X [a] ta) (hmT : X.mg "list" = none) (hm : X.mg "range" = none) (hgT : Gl X "list" := by rfl) (hg : Gl X "range" := by rfl)
    (hsT : starEach [Expr.Call (.Name "range" p2) [a] [] pos2] X.env = (false, eval (.Call (.Name "range" p2) [a] [] pos2) X.env) :: starEach [] X.env := by rfl) (hs : starEach [a] X.env = [(false, eval a X.env)] := by rfl) :
    PE X (.Call (.Name "list" p) [.Call (.Name "range" p2) [a] [] pos2] [] pos) (tLstR ta) := by
  refine ⟨fun pins s σ H Q I h => ?_⟩
  refine Call_ (ld_blt I hgT hmT boot_list (PyProof.Rows.callWith_type1 ?_ hsT rfl))
  rw [hsT]
  show wpAny _ _ (spliced ((false, eval (.Call (.Name "range" p2) [a] [] pos2) X.env) :: backTo pos (starEach [] X.env))) _ _ s
  refine Calls.spliced_cons ?_
  refine Call_ (ld_blt I hg hm boot_range (PyProof.Rows.callWith_type1 (thn (ha.run pos2 pins s σ H _ I h) fun us s1 ⟨vs, H1, I1, r1, q1⟩ => ?_) hs rfl))
  obtain ⟨j, e, h1, h2, q⟩ := q1
  subst e
  cases r1 with
  | cons r rr =>
    cases rr
    obtain ⟨t, rfl⟩ := r
    have hj : j < 2 ^ 62 := by
      have : sizeLine = 16777216 := rfl
      omega
    refine call_range_1 (Calls.spliced_nil ?_)
    have hn : Builtin.Range.rangeSize 0 j 1 = ((j.toNat : Nat) : Int) := by rw [rangeSize_one]; split <;> omega
    refine call_list_range (I1.ok.hd hc) (IsRange.new ..) (small_one (by omega) (by omega) h1 hj) hn h2 fun h' tk acc cc hk hacc1 hacc => ?_
    have rv := items_vals hacc
    have hz : ((List.range j.toNat).map fun k : Nat => V.int (0 + (k : Int) * 1)).length ≤ sizeLine := by rw [List.length_map, List.length_range]; exact h2
    exact ⟨.ref _, _, I1.laid (t' := tk) (fun b o q => hk b o (Heap.get?_push_of_some _ q)) (by rw [size_push']; exact Nat.le_succ _) (show ObjOk X.prog X.w _ _ _ (.lst ((List.range j.toNat).map fun k : Nat => V.int (0 + (k : Int) * 1))) from ⟨hz, acc.toList, cc, rv, by simpa using hacc1⟩), rfl, q _ (I1.hok.fresh (by rw [size_push']; exact Nat.le_succ _))⟩
def wListRng1 (fa : WA) : WE := fun ρ Q => fa ρ fun ds ρ1 => match ds with
  | [.int j] => -(2 ^ 62) ≤ j ∧ j.toNat ≤ sizeLine ∧ Q (.new (.lst (rng 0 1 j.toNat))) ρ1
  | _ => False
theorem e_listRng1 (ha : A3 X bx [a] fr) (hmT : X.mg "list" = none) (hm : X.mg "range" = none) (hc : X.calm = true := by rfl) (hgT : Gl X "list" := by rfl) (hg : Gl X "range" := by rfl)
    (hsT : starEach [Expr.Call (.Name "range" p2) [a] [] pos2] X.env = (false, eval (.Call (.Name "range" p2) [a] [] pos2) X.env) :: starEach [] X.env := by rfl) (hs : starEach [a] X.env = [(false, eval a X.env)] := by rfl) :
    E3 X bx (.Call (.Name "list" p) [.Call (.Name "range" p2) [a] [] pos2] [] pos) (wListRng1 fr) := by
  refine ⟨PE.weaken (pe_lstR hc ha.pa hmT hm hgT hg hsT hs) fun σ H Q ⟨F, ρ, G, P, st, h, hQ⟩ => ⟨F, ρ, G, _, st, h, fun ds ρ1 vs G1 H1 h1 g1 st1 rl => ?_⟩⟩
  cases ds with
  | nil => exact (show False from h1).elim
  | cons d r =>
    cases r with
    | cons d2 r => cases d <;> exact (show False from h1).elim
    | nil =>
      cases d <;> first
        | exact (show False from h1).elim
        | skip
      rename_i j
      have h1 : -(2 ^ 62) ≤ j ∧ j.toNat ≤ sizeLine ∧ P (.new (.lst (rng 0 1 j.toNat))) ρ1 := h1
      cases rl with
      | cons r rr =>
        cases rr
        cases r
        have R := res_of st1 (P := fun r => P r ρ1) fun r v G' H' h g st rr => hQ r ρ1 v G' H' h (g1.trans g) st rr
        exact ⟨j, rfl, h1.1, h1.2.1, fun T hT => R.lst _ _ T h1.2.2 hT (rng_rep _)⟩
end
end L2.W3

/-! W4, part a: dicts: {}, d[k] = v, d[k] op= v, get, what is walked. -/
namespace L2.W3
open PySem PySem.Spec PyProof.Rows
section
variable {κ β : Type} [DecidableEq κ]
def putG (l : List (κ × β)) (k : κ) (v : β) : List (κ × β) :=
  if (l.any fun kv => decide (kv.1 = k)) = true then l.map (fun kv => if kv.1 = k then (kv.1, v) else kv) else l ++ [(k, v)]
def dropG (l : List (κ × β)) (k : κ) : List (κ × β) := l.filter fun kv => decide (kv.1 ≠ k)
theorem getG_nil (k : κ) : getG ([] : List (κ × β)) k = none := rfl
theorem getG_cons (p : κ × β) (l : List (κ × β)) (k : κ) : getG (p :: l) k = if p.1 = k then some p.2 else getG l k := by
  unfold getG
  rw [List.find?_cons]
  by_cases h : p.1 = k <;> simp [h]
theorem getG_any (l : List (κ × β)) (k : κ) : (l.any fun kv => decide (kv.1 = k)) = (getG l k).isSome := by
  induction l with
  | nil => rfl
  | cons p l ih =>
    rw [List.any_cons, getG_cons, ih]
    by_cases h : p.1 = k <;> simp [h]
theorem getG_map (l : List (κ × β)) (k j : κ) (v : β) : getG (l.map fun kv => if kv.1 = k then (kv.1, v) else kv) j = (getG l j).map fun x => if j = k then v else x := by
  induction l with
  | nil => rfl
  | cons p l ih =>
    rw [List.map_cons, getG_cons, getG_cons, ih]
    by_cases h : p.1 = k
    · by_cases h2 : p.1 = j
      · subst h; subst h2; simp
      · subst h; simp [h2]
    · by_cases h2 : p.1 = j
      · subst h2; simp [h]
      · simp [h, h2]
theorem getG_app (l m : List (κ × β)) (k : κ) : getG (l ++ m) k = (getG l k).or (getG m k) := by
  induction l with
  | nil => rfl
  | cons p l ih =>
    rw [List.cons_append, getG_cons, getG_cons, ih]
    by_cases h : p.1 = k <;> simp [h]
theorem getG_put (l : List (κ × β)) (k j : κ) (v : β) : getG (putG l k v) j = if j = k then some v else getG l j := by
  unfold putG
  rw [getG_any]
  cases e : getG l k with
  | none =>
    simp only [Option.isSome_none, Bool.false_eq_true, if_false]
    rw [getG_app, getG_cons]
    by_cases h : j = k
    · subst h; simp [e]
    · have h' : ¬ k = j := fun z => h z.symm
      simp [h, h', getG_nil]
  | some x =>
    simp only [Option.isSome_some, if_true]
    rw [getG_map]
    by_cases h : j = k
    · subst h; simp [e]
    · simp [h]
theorem putG_new {l : List (κ × β)} {k : κ} (v : β) (h : getG l k = none) : putG l k v = l ++ [(k, v)] := by
  unfold putG
  rw [getG_any, h]
  simp
theorem putG_keys (l : List (κ × β)) (k : κ) (v : β) : (putG l k v).map (·.1) = if (getG l k).isSome then l.map (·.1) else l.map (·.1) ++ [k] := by
  unfold putG
  rw [getG_any]
  cases (getG l k).isSome
  · simp
  · simp only [if_true]
    rw [List.map_map]
    refine List.map_congr_left fun p _ => ?_
    by_cases h : p.1 = k <;> simp [h]
theorem getG_mem {l : List (κ × β)} {k : κ} {v : β} (h : getG l k = some v) : (k, v) ∈ l := by
  induction l with
  | nil => cases h
  | cons p l ih =>
    rw [getG_cons] at h
    by_cases e : p.1 = k
    · rw [if_pos e] at h; cases h; subst e; exact List.mem_cons_self
    · rw [if_neg e] at h; exact List.mem_cons_of_mem _ (ih h)
theorem getG_some_iff (l : List (κ × β)) (k : κ) : (getG l k).isSome = true ↔ k ∈ l.map (·.1) := by
  induction l with
  | nil => simp [getG_nil]
  | cons p l ih =>
    rw [getG_cons, List.map_cons, List.mem_cons, ← ih]
    by_cases e : p.1 = k
    · rw [if_pos e]; simp [e.symm]
    · rw [if_neg e]
      constructor
      · exact .inr
      · rintro (h | h)
        · exact absurd h.symm e
        · exact h
theorem getG_none_iff (l : List (κ × β)) (k : κ) : getG l k = none ↔ k ∉ l.map (·.1) := by
  rw [← getG_some_iff]
  cases getG l k <;> simp
theorem getG_of_mem {l : List (κ × β)} {k : κ} {v : β} (nd : (l.map (·.1)).Nodup) (h : (k, v) ∈ l) : getG l k = some v := by
  induction l with
  | nil => cases h
  | cons p l ih =>
    rw [List.map_cons] at nd
    obtain ⟨n1, n2⟩ := List.nodup_cons.mp nd
    rw [getG_cons]
    rcases List.mem_cons.mp h with rfl | h
    · simp
    · have : p.1 ≠ k := fun e => n1 (e ▸ List.mem_map.mpr ⟨_, h, rfl⟩)
      rw [if_neg this]; exact ih n2 h
theorem putG_nodup {l : List (κ × β)} (k : κ) (v : β) (nd : (l.map (·.1)).Nodup) : ((putG l k v).map (·.1)).Nodup := by
  rw [putG_keys]
  split
  · exact nd
  · rename_i h
    rw [List.nodup_append]
    refine ⟨nd, by simp, fun a ha b hb => ?_⟩
    rw [List.mem_singleton] at hb
    subst hb
    exact fun e => h (by rw [getG_some_iff]; exact e ▸ ha)
theorem putG_length_le (l : List (κ × β)) (k : κ) (v : β) : (putG l k v).length ≤ l.length + 1 := by
  unfold putG; split <;> simp
end
section
variable {K : PySem.W.Frag} {B : Addr} {G : Hp}
theorem RepK.app : ∀ {vs : List (Key × V)} {ds : List (Key × D)} {ws : List (Key × V)} {es : List (Key × D)}, RepK K B G vs ds → RepK K B G ws es → RepK K B G (vs ++ ws) (ds ++ es)
  | _, _, _, _, .nil, h => h
  | _, _, _, _, .cons o a r, h => .cons o a (RepK.app r h)
theorem RepT.app : ∀ {vs : List (List Key × V)} {ds : List (List Key × D)} {ws : List (List Key × V)} {es : List (List Key × D)}, RepT K B G vs ds → RepT K B G ws es → RepT K B G (vs ++ ws) (ds ++ es)
  | _, _, _, _, .nil, h => h
  | _, _, _, _, .cons o a r, h => .cons o a (RepT.app r h)
theorem RepK.any : ∀ {vs : List (Key × V)} {ds : List (Key × D)}, RepK K B G vs ds → ∀ k : Key, (vs.any fun kv => decide (kv.1 = k)) = ds.any fun kv => decide (kv.1 = k)
  | _, _, .nil, k => rfl
  | _, _, .cons o a r, k => by rw [List.any_cons, List.any_cons, RepK.any r k]
theorem RepT.any : ∀ {vs : List (List Key × V)} {ds : List (List Key × D)}, RepT K B G vs ds → ∀ k : List Key, (vs.any fun kv => decide (kv.1 = k)) = ds.any fun kv => decide (kv.1 = k)
  | _, _, .nil, k => rfl
  | _, _, .cons o a r, k => by rw [List.any_cons, List.any_cons, RepT.any r k]
theorem RepK.repl {v : V} {d : D} (rd : Rep K B G v d) : ∀ {vs : List (Key × V)} {ds : List (Key × D)}, RepK K B G vs ds → ∀ k : Key, RepK K B G (vs.map fun kv => if kv.1 = k then (kv.1, v) else kv) (ds.map fun kv => if kv.1 = k then (kv.1, d) else kv)
  | _, _, .nil, k => .nil
  | _, _, .cons (k := j) o a r, k => by
    rw [List.map_cons, List.map_cons]
    by_cases h : j = k
    · simp only [h, if_true]; exact .cons (h ▸ o) rd (RepK.repl rd r k)
    · simp only [h, if_false]; exact .cons o a (RepK.repl rd r k)
theorem RepT.repl {v : V} {d : D} (rd : Rep K B G v d) : ∀ {vs : List (List Key × V)} {ds : List (List Key × D)}, RepT K B G vs ds → ∀ k : List Key, RepT K B G (vs.map fun kv => if kv.1 = k then (kv.1, v) else kv) (ds.map fun kv => if kv.1 = k then (kv.1, d) else kv)
  | _, _, .nil, k => .nil
  | _, _, .cons (k := j) o a r, k => by
    rw [List.map_cons, List.map_cons]
    by_cases h : j = k
    · simp only [h, if_true]; exact .cons (h ▸ o) rd (RepT.repl rd r k)
    · simp only [h, if_false]; exact .cons o a (RepT.repl rd r k)
theorem RepK.put {v : V} {d : D} {k : Key} {vs : List (Key × V)} {ds : List (Key × D)} (r : RepK K B G vs ds) (ok : okK k = true) (rd : Rep K B G v d) : RepK K B G (putK vs k v) (putG ds k d) := by
  unfold putK putG
  rw [r.any k]
  split
  · exact r.repl rd k
  · exact r.app (.cons ok rd .nil)
theorem RepT.put {v : V} {d : D} {k : List Key} {vs : List (List Key × V)} {ds : List (List Key × D)} (r : RepT K B G vs ds) (ok : k.all okK = true) (rd : Rep K B G v d) : RepT K B G (putK vs k v) (putG ds k d) := by
  unfold putK putG
  rw [r.any k]
  split
  · exact r.repl rd k
  · exact r.app (.cons ok rd .nil)
theorem RepT.length : ∀ {vs : List (List Key × V)} {ds : List (List Key × D)}, RepT K B G vs ds → vs.length = ds.length
  | _, _, .nil => rfl
  | _, _, .cons _ _ r => by simp [RepT.length r]
theorem RepK.drop : ∀ {vs : List (Key × V)} {ds : List (Key × D)}, RepK K B G vs ds → ∀ k : Key, RepK K B G (dropK vs k) (dropG ds k)
  | _, _, .nil, k => .nil
  | _, _, .cons (k := j) o a r, k => by
    unfold dropK dropG
    rw [List.filter_cons, List.filter_cons]
    split
    · exact .cons o a (RepK.drop r k)
    · exact RepK.drop r k
end
/-- the thing in slot i changed -/
theorem own_writeG {K : PySem.W.Frag} {bx : Bx} {F G H : Hp} {ρ : Env3} {σ : L2.St} {i : Nat} {d d' : D} {p : Addr} {o' : HO} (st : Stt K bx F ρ σ G H) (h : ρ[i]? = some (Sl.own d)) (hp : σ[i]? = some (some (V.ref p))) (t : Top K bx.adr G (upd H p o') p d') :
    Stt K bx F (ρ.set i (.own d')) σ G (upd H p o') := by
  obtain ⟨q, e1, t0, gp, fp, bp⟩ := st.ow i _ h
  rw [hp] at e1; cases e1
  have own : ∀ j q d'', (ρ.set i (.own d'))[j]? = some (Sl.own d'') → σ[j]? = some (some (V.ref q)) → (j = i ∧ q = p) ∨ (j ≠ i ∧ q ≠ p ∧ ρ[j]? = some (Sl.own d'')) := fun j q d'' e e1 => by
    rcases get_set e with ⟨rfl, e, _⟩ | ⟨hj, e⟩
    · cases e
      rw [hp] at e1; cases e1
      exact .inl ⟨rfl, rfl⟩
    · refine .inr ⟨hj, fun hq => hj ?_, e⟩
      subst hq
      exact st.dj j i q ⟨⟨_, e⟩, e1⟩ ⟨⟨_, h⟩, hp⟩
  refine ⟨⟨fun a u e => ?_, fun a u e => ?_, st.fg, bx.loc H _ (fun a ha => upd_ne (fun e => bp (e ▸ ha))) st.bi, st.bg⟩, by simp [st.len], fun j d'' e => ?_, fun j d'' e => ?_, fun j k q ⟨⟨d1, h1⟩, e1⟩ ⟨⟨d2, h2⟩, e2⟩ => ?_⟩
  · rw [upd_ne (ne_of_none e gp)]; exact st.gs a u e
  · rw [upd_ne (ne_of_none e fp)]; exact st.fs a u e
  · rcases get_set e with ⟨rfl, e, _⟩ | ⟨hj, e⟩
    · cases e
    · exact st.vl j d'' e
  · rcases get_set e with ⟨rfl, e, _⟩ | ⟨hj, e⟩
    · cases e
      exact ⟨p, hp, t, gp, fp, bp⟩
    · obtain ⟨q, e1, t1, e2⟩ := st.ow j d'' e
      have hq : q ≠ p := fun hq => by
        subst hq
        exact hj (st.dj j i q ⟨⟨_, e⟩, e1⟩ ⟨⟨_, h⟩, hp⟩)
      exact ⟨q, e1, t1.heap (upd_ne hq), e2⟩
  · rcases own j q d1 h1 e1 with ⟨rfl, rfl⟩ | ⟨hj, hq, o1⟩
    · rcases own k _ d2 h2 e2 with ⟨rfl, _⟩ | ⟨_, hq2, _⟩
      · rfl
      · exact absurd rfl hq2
    · rcases own k q d2 h2 e2 with ⟨_, hq2⟩ | ⟨_, _, o2⟩
      · exact absurd hq2 hq
      · exact st.dj j k q ⟨⟨_, o1⟩, e1⟩ ⟨⟨_, o2⟩, e2⟩
section
variable {X : Cx} {bx : Bx} {a b : Expr} {fa fb : WE} {pos : Pos} {x : Str}
/-- {} -/
def wDNew : WE := fun ρ Q => Q (.new (.dik [])) ρ
def wDNewT : WE := fun ρ Q => Q (.new (.dit [])) ρ
theorem e_dnew : E3 X bx (.Dict [] [] pos) wDNew :=
  ⟨PE.weaken pe_dnewK fun σ H Q ⟨F, ρ, G, P, st, h, hQ⟩ p hp => (res_of st (P := fun r => P r ρ) fun r v G' H' h g st rr => hQ r ρ v G' H' h g st rr).dik [] [] p h hp .nil⟩
theorem e_dnewT : E3 X bx (.Dict [] [] pos) wDNewT :=
  ⟨PE.weaken pe_dnewT fun σ H Q ⟨F, ρ, G, P, st, h, hQ⟩ p hp => (res_of st (P := fun r => P r ρ) fun r v G' H' h g st rr => hQ r ρ v G' H' h g st rr).dit [] [] p h hp .nil⟩
/-- what a key put into the dict of slot i makes of it -/
def dputD (d : D) (k v : D) (Q : D → Prop) : Prop :=
  match d, k with
  | .dik l, k => ∃ j, asKey k = some j ∧ l.length < sizeLine ∧ Q (.dik (putG l j v))
  | .dit l, .tup k => ∃ j, asKeys k = some j ∧ l.length < sizeLine ∧ Q (.dit (putG l j v))
  | _, _ => False
def onOwn (i : Nat) (ρ : Env3) (k : D → Prop) : Prop :=
  match ρ[i]? with
  | some (.own d) => k d
  | _ => False
/-- d[k] = v, d in slot i -/
def wDPut (i : Nat) (fk fa : WE) : WS := fun P ρ => fa ρ fun r ρ1 => fz r ρ1 fun d ρ2 => onOwn i ρ2 fun _ => fk ρ2 fun rk ρ3 => fz rk ρ3 fun k ρ4 => onOwn i ρ4 fun l => dputD l k d fun l' => P.nx (ρ4.set i (.own l'))
theorem own_at3 {K : PySem.W.Frag} {F G H : Hp} {ρ : Env3} {σ : L2.St} {i : Nat} {k : D → Prop} (st : Stt K bx F ρ σ G H) (h : onOwn i ρ k) : ∃ d p, k d ∧ ρ[i]? = some (Sl.own d) ∧ σ[i]? = some (some (V.ref p)) ∧ Top K bx.adr G H p d := by
  unfold onOwn at h
  split at h
  · rename_i d e
    obtain ⟨p, e1, t, _⟩ := st.ow i _ e
    exact ⟨d, p, h, e, e1, t⟩
  · exact h.elim
/-- a key's value and what the put makes -/
theorem dput_ok {K : PySem.W.Frag} {F G H : Hp} {ρ : Env3} {σ : L2.St} {i : Nat} {p : Addr} {l k d : D} {y v : V} {Q : D → Prop} (st : Stt K bx F ρ σ G H) (e : ρ[i]? = some (Sl.own l)) (e1 : σ[i]? = some (some (V.ref p))) (t : Top K bx.adr G H p l)
    (rk : Rep K bx.adr G y k) (rd : Rep K bx.adr G v d) (h : dputD l k d Q) : ∃ H' l', DPut H p y v H' ∧ Q l' ∧ Stt K bx F (ρ.set i (.own l')) σ G H' := by
  unfold dputD at h
  split at h
  · obtain ⟨j, ej, hl, q⟩ := h
    obtain ⟨rfl, ok⟩ := view_key (H := H) (.inl rk) ej
    cases t with
    | dik hp r =>
      have hl' := r.length
      exact ⟨_, _, DPut.k hp (by omega), q, own_writeG st e e1 (.dik upd_same (r.put ok rd))⟩
  · obtain ⟨j, ej, hl, q⟩ := h
    cases rk with
    | tup hb r0 =>
      obtain ⟨rfl, ok⟩ := repL_keys r0 ej
      cases t with
      | dit hp r =>
        have hl' := r.length
        exact ⟨_, _, DPut.t hp (st.gs _ _ hb) (by omega), q, own_writeG st e e1 (.dit upd_same (r.put ok rd))⟩
  · exact h.elim
theorem s_dput (i : Nat) {npos tpos : Pos} (hu : X.A.units + 64 < cLine) (hk : E3 X bx b fb) (ha : E3 X bx a fa) (hi : X.N[i]? = some x := by rfl) (hv : Vis X.env.scope x := by first | exact Or.inl rfl | exact Or.inr (Or.inl rfl) | exact Or.inr (Or.inr rfl)) (hd : (x == ("__debug__" : Str)) = false := by decide) (hcd : (x == ("__classdict__" : Str)) = false := by decide)
    (hs : swapsWith a (some (.Subscript (.Name x npos) b tpos)) pos.line X.env = pure false := by rfl) :
    S3 X bx (.Assign [.Subscript (.Name x npos) b tpos] a pos) (wDPut i fb fa) := by
  refine ⟨PS.weaken (ps_dput (by omega) (pv i hi hv hd hcd) hk.pe ha.pe hs) fun D σ H ⟨F, ρ, G, P, st, h, e⟩ => ⟨F, ρ, G, _, st, h, fun r ρ1 v G1 H1 h1 g1 st1 rr => ?_⟩⟩
  obtain ⟨d, ρ2, G2, h2, g2, st2, rd⟩ := fz_ok st1 rr h1
  obtain ⟨l, p, h2, eo, e1, t⟩ := own_at3 st2 h2
  refine ⟨_, e1, F, ρ2, G2, _, st2, h2, fun rk ρ3 w G3 H3 h3 g3 st3 rr3 => ?_⟩
  obtain ⟨k, ρ4, G4, h4, g4, st4, rk4⟩ := fz_ok st3 rr3 h3
  obtain ⟨l2, q, h5, eo2, e3, t2⟩ := own_at3 st4 h4
  rw [e1] at e3; cases e3
  obtain ⟨H', l', hp, q, st5⟩ := dput_ok st4 eo2 e1 t2 rk4 (rd.mono (g3.trans g4)) h5
  exact ⟨p, H', rfl, hp, e.nx _ _ _ _ q (g1.trans (g2.trans (g3.trans g4))) st5⟩
/-- d.get(k), d.get(k, x) -/
def getD3 (d k : D) (Q : Option D → Prop) : Prop :=
  match d, k with
  | .dik l, k => ∃ j, asKey k = some j ∧ Q (getG l j)
  | .dit l, .tup k => ∃ j, asKeys k = some j ∧ Q (getG l j)
  | _, _ => False
theorem getD3_ok {K : PySem.W.Frag} {B : Addr} {G H : Hp} {x y : V} {d k : D} {Q : Option D → Prop} (g : Same G H) (v1 : View K B G H x d) (v2 : Rep K B G y k) (h : getD3 d k Q) : ∃ a o, x = .ref a ∧ DGet H a y o ∧ ∃ od, Q od ∧ ((o = none ∧ od = none) ∨ ∃ w z, o = some w ∧ od = some z ∧ Rep K B G w z) := by
  unfold getD3 at h
  split at h
  · obtain ⟨j, ej, q⟩ := h
    obtain ⟨rfl, ok⟩ := view_key (H := H) (.inl v2) ej
    obtain ⟨a, vs, rfl, s1, r1⟩ := view_dik g v1
    refine ⟨a, _, rfl, .inl ⟨vs, j, s1, rfl, rfl⟩, _, q, ?_⟩
    rcases r1.get j with ⟨e1, e2⟩ | ⟨w, z, e1, e2, rd⟩
    · exact .inl ⟨e1, e2⟩
    · exact .inr ⟨w, z, e1, e2, rd⟩
  · obtain ⟨j, ej, q⟩ := h
    cases v2 with
    | tup hb r0 =>
      obtain ⟨rfl, ok⟩ := repL_keys r0 ej
      obtain ⟨a, vs, rfl, s1, r1⟩ := view_dit g v1
      refine ⟨a, _, rfl, .inr ⟨vs, j, _, s1, rfl, g _ _ hb, rfl⟩, _, q, ?_⟩
      rcases r1.get j with ⟨e1, e2⟩ | ⟨w, z, e1, e2, rd⟩
      · exact .inl ⟨e1, e2⟩
      · exact .inr ⟨w, z, e1, e2, rd⟩
  · exact h.elim
end
end L2.W3

/-! W4, part d: list(..), sorted(..) of a list, a tuple, a text, a dict. -/
namespace L2.W3
open PySem PySem.Spec PyProof.Rows
/-- the row that walking gives -/
def rowD : D → Option (List D)
  | .lst l => some l
  | .tup l => some l
  | .str s => some (s.map fun c => .str [c])
  | .dik l => some (l.map fun kv => kD kv.1)
  | _ => none
section
variable {X : Cx} {bx : Bx}
/-- what collecting v gives -/
structure Coll (X : Cx) (s : Shared) (u : Value) (ws : List V) : Prop where
  run : ∀ (A : Around) {Q : List Value → Shared → Prop} {E : Value → Shared → Prop}, A.handled = none → (∀ h' tk vs, (∀ b o, s.heap.get? b = some o → h'.get? b = some o) → Vals ws vs → Q vs { s with heap := h', toks := tk }) → wpAny (model X.prog X.w) A (collect u) Q E s
theorem repK_keys {K : PySem.W.Frag} {B : Addr} {G : Hp} : ∀ {vs : List (Key × V)} {ds : List (Key × D)}, RepK K B G vs ds → RepL K B G (vs.map fun kv => kV kv.1) (ds.map fun kv => kD kv.1)
  | _, _, .nil => .nil
  | _, _, .cons o a r => .cons (rep_kD o) (repK_keys r)
theorem coll_of {pins : List (Addr × Obj)} {σ : L2.St} {G H : Hp} {s : Shared} {v : V} {u : Value} {d : D} {l : List D} (I : Inv X pins σ H s) (g : Same G H) (vw : View X.K bx.adr G H v d) (r : RelV v u) (e : rowD d = some l) (hz : l.length ≤ sizeLine) :
    ∃ ws, RepL X.K bx.adr G ws l ∧ Coll X s u ws := by
  unfold rowD at e
  split at e
  · cases e
    obtain ⟨a, vs, rfl, s1, r1⟩ := view_lst g vw
    cases r
    obtain ⟨its, rv, hl, hz'⟩ := I.list (.inl (.inl s1))
    refine ⟨vs, r1, ⟨fun A Q E hh k => ?_⟩⟩
    obtain ⟨o, ho, hc, n, hd⟩ := hl.isList
    exact wpAny_collect_seq a (.inl rfl) ho hc hd (fun h' hk => k h' s.toks its (fun b o e => hk b o e) (by simpa using rv)) (by rw [List.size_toArray, ← rv.length]; exact hz')
  · cases e
    obtain ⟨a, vs, rfl, s1, r1, _⟩ := view_tup g vw
    cases r
    obtain ⟨its, rv, hl, hz'⟩ := I.tuple s1
    refine ⟨vs, r1, ⟨fun A Q E hh k => ?_⟩⟩
    obtain ⟨o, ho, hc, n, hd⟩ := (show s.heap.IsTuple a its.toArray from hl)
    exact wpAny_collect_seq a (.inr rfl) ho hc hd (fun h' hk => k h' s.toks its (fun b o e => hk b o e) (by simpa using rv)) (by rw [List.size_toArray, ← rv.length]; exact hz')
  · rename_i x
    cases e
    obtain ⟨rfl, ok⟩ := view_str vw
    obtain ⟨t, rfl⟩ := r
    rw [List.length_map] at hz
    refine ⟨_, repL_chars ok, ⟨fun A Q E hh k => ?_⟩⟩
    refine wpAny_collect_str hh _ _ (fun s' acc hk hg hd ho hacc => ?_) (by simpa using hz)
    have e : s' = { s with heap := s'.heap, toks := s'.toks } := by
      cases s'; cases s
      simp only at hg hd ho
      subst hg; subst hd; subst ho; rfl
    rw [e]
    have hv := chars_vals hacc
    exact k _ _ _ hk (by simpa using hv)
  · rename_i kvs
    cases e
    obtain ⟨a, vs, rfl, s1, r1⟩ := view_dik g vw
    cases r
    obtain ⟨z, lo, us, rel, dd⟩ := dk_rd I.hok s1
    obtain ⟨ep, hat⟩ := dd.dictAt
    refine ⟨_, repK_keys r1, ⟨fun A Q E hh k => ?_⟩⟩
    refine PySem.W.kdu_collect (PySem.W.kdl_dict (knd := mixKind X.prog X.w) (kvs := us) (ep := ep) lo) hh hat (by rw [← rel.length]; exact z) fun h' tk acc hk hacc => k h' tk _ hk ?_
    have hv : Vals (us.map fun p => kV p.1) acc.toList := keys_at (by rw [Array.length_toList]; exact hacc.1) fun j v e => hacc.2 j v (by rw [← Array.getElem?_toList]; exact e)
    have ek : (vs.map fun kv => kV kv.1) = us.map fun p => kV p.1 := by
      have e := congrArg (List.map kV) rel.keys
      rw [List.map_map, List.map_map] at e
      exact e
    rw [ek]; exact hv
  · cases e
theorem sorted_coll {pins : List (Addr × Obj)} {σ : L2.St} {H : Hp} {s : Shared} {u : Value} {ws : List V} {Q : VK} {ltv : Value → Value → Bool} (I : Inv X pins σ H s) (hc : X.calm = true) (C : Coll X s u ws) (O : SrtO.Swo ltv) (hz : ws.length ≤ sizeLine)
    (hS : ∀ vs, Vals ws vs → 2 ≤ vs.length → ∀ (s' : Shared) (a' : Addr), SrtO.SortableO X.prog X.w X.A.in1.in1 s' a' vs ltv)
    (hQ : ∀ (out vs : List Value) (p : Addr), Vals ws vs → SrtO.Srtd ltv out → SrtO.Stb ltv out vs → ∃ xs, Vals xs out ∧ (H p = none → Q (.ref p) (upd H p (.lst xs)))) :
    wpAny (model X.prog X.w) X.A (call (.builtin "sorted") [u]) (EP X pins σ Q) X.xe s := by
  refine Calls.call_function_entry kind_sorted plain_sorted entry_sorted (args_sorted1 _) ?_
  unfold Builtin.«sorted»
  refine wpAny_bind (m := checkCount "sorted" 1 1 _) (wpAny_pure ?_)
  refine wpAny_bind (C.run X.A.in1 (I.ok.hd hc) fun h' tk vs hk rv => ?_)
  have I1 : Inv X pins σ H { s with heap := h', toks := tk } := I.kept hk
  have hvl : vs.length ≤ sizeLine := by rw [← rv.length]; exact hz
  refine wpAny_bind (wpAny_newList ?_ hvl)
  have hoL : (h'.push (seqObj "list" vs.toArray 0)).get? h'.objs.size = some (seqObj "list" vs.toArray 0) := Heap.get?_push_size _ rfl
  refine wpAny_bind (wpAny_holding (wpAny_call_entry slot_list_sort ⟨_, hoL, rfl⟩ entry_list_sort (SrtO.list_sort_ord O hoL hvl (fun h2 => hS vs rv h2 _ _) fun out a1 a2 => ⟨_, rfl, ?_⟩) (args_list_sort _)))
  obtain ⟨c, hcc⟩ := sortedHeap_at (vs := vs) (out := out.toArray) hoL
  obtain ⟨xs, rx, q⟩ := hQ out vs h'.objs.size rv a1 a2
  have hlen : xs.length ≤ sizeLine := by rw [rx.length, a2.perm.length_eq]; exact hvl
  refine wpAny_pure ⟨_, rfl, .ref h'.objs.size, upd H h'.objs.size (.lst xs), I1.laid (t' := tk) (fun b u e => ?_) (Nat.le_refl _) ⟨hlen, out, c, rx, hcc⟩, rfl, q (I1.hok.fresh (Nat.le_refl _))⟩
  have hb : b < h'.objs.size := Heap.lt_size e
  rw [sortedHeap_old (Nat.ne_of_lt hb) (by rw [size_push']; exact Nat.lt_succ_of_lt hb)]
  exact Heap.get?_push_of_some _ e
/-- sorted(x) -/
def sortedX : UOp := fun d P => ∃ l, rowD d = some l ∧ l.length ≤ sizeLine ∧
  ((l.all isInt = true ∧ ∀ ns : List Int, ns.Perm (l.map intOf) → ns.Pairwise (· ≤ ·) → P (.new (.lst (ns.map D.int)))) ∨
   (l.all isStr = true ∧ ∀ ys : List (List Nat), ys.Perm (l.map strOf) → ys.Pairwise (fun a b => ¬ b < a) → P (.new (.lst (ys.map D.str)))))
theorem c_sortedX (hc : X.calm = true) : Call1 X bx (.builtin "sorted") sortedX := by
  rintro pins s σ H xs us Q I r ⟨v, rfl, G, d, P, g, v1, ⟨l, er, hz, h⟩, R⟩
  obtain ⟨u, rfl, ru⟩ := r.one
  obtain ⟨ws, rl, C⟩ := coll_of I g v1 ru er hz
  have hwz : ws.length ≤ sizeLine := by rw [rl.length]; exact hz
  rcases h with ⟨h1, h⟩ | ⟨h1, h⟩
  · have e := rl.ints h1
    subst e
    refine sorted_coll I hc C SrtO.swo_int hwz (fun vs rv h2 s' a' => SrtO.ints_sortable (ints_of_vals rv) h2) fun out vs p rv s1 s2 => ?_
    obtain ⟨k1, k2, k3⟩ := SrtO.ints_out (ints_of_vals rv) s1 s2
    exact ⟨_, vals_of_ints k1, fun hp => R.lst _ _ p (h _ k2 k3) hp (repL_ints _)⟩
  · obtain ⟨e, ok⟩ := rl.strs h1
    subst e
    refine sorted_coll I hc C SrtO.w3_swo hwz (fun vs rv h2 s' a' => SrtO.w3_sortable rv.strs h2) fun out vs p rv s1 s2 => ?_
    obtain ⟨k1, k2, k3⟩ := SrtO.w3_out rv.strs s1 s2
    refine ⟨_, vals_of_strs k1, fun hp => ?_⟩
    have hq : ((out.map SrtO.w3sv).map fun y => y.cps.toList).Perm (l.map strOf) := by
      have := k2.map fun y => y.cps.toList
      rw [List.map_map (l := l)] at this
      exact this
    refine R.lst _ _ p (h _ hq (List.pairwise_map.mpr k3)) hp (repL_strs _ fun y hy => ?_)
    obtain ⟨d, hd, e⟩ := List.mem_map.mp (k2.mem_iff.mp hy)
    rw [← e]
    exact ok d hd
/-- list(x) -/
def listX : UOp := fun d P => match d with
  | .tup l => P (.new (.lst l))
  | .lst l => P (.new (.lst l))
  | .str s => s.length ≤ sizeLine ∧ P (.new (.lst (s.map fun c => .str [c])))
  | .dik l => P (.new (.lst (l.map fun kv => kD kv.1)))
  | _ => False
theorem c_listX (hc : X.calm = true) : Call1 X bx (.type "list") listX := by
  rintro pins s σ H xs us Q I r ⟨v, rfl, G, d, P, g, v1, h, R⟩
  unfold listX at h
  split at h
  · exact c_list pins s σ H _ us Q I r ⟨v, rfl, G, _, P, g, v1, h, R⟩
  · exact c_list pins s σ H _ us Q I r ⟨v, rfl, G, _, P, g, v1, h, R⟩
  · obtain ⟨hz, h⟩ := h
    obtain ⟨rfl, ok⟩ := view_str v1
    obtain ⟨u, rfl, ru⟩ := r.one
    obtain ⟨t, rfl⟩ := ru
    refine call_list_str (I.ok.hd hc) _ _ (fun h' tk acc c hk hat hacc => ?_) (by simpa using hz)
    have hv := chars_vals hacc
    have hv' : Vals (List.map (fun c => V.str ⟨#[c]⟩) _) acc.toList := hv
    refine ⟨.ref s.heap.objs.size, upd H s.heap.objs.size (.lst _), I.laid (t' := tk) hk (Nat.le_refl _) ⟨?_, acc.toList, c, hv, by rw [Array.toArray_toList]; exact hat⟩, rfl, R.lst _ _ _ h (I.hok.fresh (Nat.le_refl _)) (by simpa using repL_chars ok)⟩
    rw [List.length_map]; simpa using hz
  · obtain ⟨a, vs, rfl, s1, r1⟩ := view_dik g v1
    exact call_listD hc pins s σ H _ us Q I r ⟨a, vs, rfl, s1, fun p hp => R.lst _ _ p h hp (repK_keys r1)⟩
  · exact h.elim
end
end L2.W3

/-! W4, part g: sorted(list of tuples), sorted(list of texts, key=len). -/
namespace L2.W3
open PySem PySem.Spec PyProof.Rows
mutual
/-- plain data as the kit's data -/
def pyD : D → PyData
  | .bl b => .bool b
  | .int i => .int i
  | .str s => .str ⟨s.toArray⟩
  | .tup l => .tuple (pyL l)
  | _ => .none
def pyL : List D → List PyData
  | [] => []
  | d :: l => pyD d :: pyL l
end
mutual
/-- data that has an order: ints, texts, tuples of these -/
def ordD : D → Bool
  | .int _ => true
  | .str _ => true
  | .tup l => ordL l
  | _ => false
def ordL : List D → Bool
  | [] => true
  | d :: l => ordD d && ordL l
end
section
variable {X : Cx} {bx : Bx} {pins : List (Addr × Obj)} {σ : L2.St} {G H : Hp} {s : Shared}
mutual
theorem reads_of (I : Inv X pins σ H s) (g : Same G H) : ∀ {v : V} {u : Value} {d : D}, Rep X.K bx.adr G v d → ordD d = true → RelV v u → Reads s.heap u (pyD d) []
  | _, _, _, .non, h, _ => by simp [ordD] at h
  | _, _, _, .bl b, h, _ => by simp [ordD] at h
  | _, _, _, .int i, h, r => by
    obtain ⟨t, rfl⟩ := r
    rw [pyD]; exact .int _ _
  | _, _, _, .str o, h, r => by
    obtain ⟨t, rfl⟩ := r
    rw [pyD]; exact .str _ _
  | _, _, _, .ty n, h, _ => by simp [ordD] at h
  | _, _, _, .box, h, _ => by simp [ordD] at h
  | _, _, _, .obj _, h, _ => by simp [ordD] at h
  | _, _, _, .tup (a := a) (vs := vs) (ds := ds) e rl, h, r => by
    cases r
    obtain ⟨its, rv, hl, hz⟩ := I.tuple (.inl (.inl (g _ _ e)))
    obtain ⟨o, ho, hc, n, hd⟩ := (show s.heap.IsTuple a its.toArray from hl)
    have q := readsAll_of I g rl (by simpa [ordD] using h) rv
    rw [pyD]
    exact .tuple ho hc hd (by simpa using q)
  | _, _, _, .lst e rl, h, _ => by simp [ordD] at h
  | _, _, _, .dik e rl, h, _ => by simp [ordD] at h
  | _, _, _, .dit e rl, h, _ => by simp [ordD] at h
theorem readsAll_of (I : Inv X pins σ H s) (g : Same G H) : ∀ {vs : List V} {us : List Value} {ds : List D}, RepL X.K bx.adr G vs ds → ordL ds = true → Vals vs us → ReadsAll s.heap us (pyL ds) []
  | _, _, _, .nil, h, r => by cases r; rw [pyL]; exact .nil
  | _, _, _, .cons a rl, h, r => by
    cases r with
    | cons r1 r2 =>
      rw [ordL, Bool.and_eq_true] at h
      rw [pyL]
      exact .cons (as := []) (bs := []) (reads_of I g a h.1 r1) (readsAll_of I g rl h.2 r2)
end
end
theorem vals_each : ∀ {ws : List V} {us : List Value} {l : List D}, Vals ws us → ws.length = l.length → PySem.W.EachIs (fun (u : Value) (p : V × D) => RelV p.1 u) us (ws.zip l)
  | _, _, l, .nil, h => by
    cases l with
    | nil => exact .nil
    | cons d l => simp at h
  | _, _, l, .cons a r, h => by
    cases l with
    | nil => simp at h
    | cons d l => exact .cons a (vals_each r (by simpa using h))
theorem each_vals : ∀ {us : List Value} {zs : List (V × D)}, PySem.W.EachIs (fun (u : Value) (p : V × D) => RelV p.1 u) us zs → Vals (zs.map (·.1)) us
  | _, _, .nil => .nil
  | _, _, .cons a r => .cons a (each_vals r)
theorem RepL.zip_mem {K : PySem.W.Frag} {B : Addr} {G : Hp} : ∀ {vs : List V} {ds : List D}, RepL K B G vs ds → ∀ p ∈ vs.zip ds, Rep K B G p.1 p.2
  | _, _, .nil, p, h => by simp at h
  | _, _, .cons a r, p, h => by
    rw [List.zip_cons_cons, List.mem_cons] at h
    rcases h with rfl | h
    · exact a
    · exact RepL.zip_mem r p h
theorem repL_of_zip {K : PySem.W.Frag} {B : Addr} {G : Hp} : ∀ {zs : List (V × D)}, (∀ p ∈ zs, Rep K B G p.1 p.2) → RepL K B G (zs.map (·.1)) (zs.map (·.2))
  | [], _ => .nil
  | z :: zs, h => .cons (h z List.mem_cons_self) (repL_of_zip fun p hp => h p (List.mem_cons_of_mem _ hp))
theorem RepL.readsEach {X : Cx} {bx : Bx} {pins : List (Addr × Obj)} {σ : L2.St} {G H : Hp} {s : Shared} (I : Inv X pins σ H s) (g : Same G H) : ∀ {vs : List V} {us : List Value} {ds : List D}, RepL X.K bx.adr G vs ds → (∀ d ∈ ds, ordD d = true) → Vals vs us → PySem.W.EachIs (fun (u : Value) (p : V × D) => ∃ as, Reads s.heap u (pyD p.2) as) us (vs.zip ds)
  | _, _, _, .nil, _, r => by cases r; exact .nil
  | _, _, _, .cons a rl, h, r => by
    cases r with
    | cons r1 r2 => exact .cons ⟨[], reads_of I g a (h _ List.mem_cons_self) r1⟩ (RepL.readsEach I g rl (fun d hd => h d (List.mem_cons_of_mem _ hd)) r2)
/-- the order of data -/
def leDat (a b : D) : Bool := !PySem.W.dataLt (pyD b) (pyD a)
theorem zip_snd {ws : List V} {l : List D} (h : ws.length = l.length) : (ws.zip l).map (·.2) = l := List.map_snd_zip (by omega)
theorem sort_zip {ws : List V} {l : List D} (h : ws.length = l.length) (le : D → D → Bool) : ((ws.zip l).mergeSort fun p q => le p.2 q.2).map (·.2) = l.mergeSort le := by
  have e := List.map_mergeSort (r := fun (p q : V × D) => le p.2 q.2) (s := le) (f := fun p : V × D => p.2) (l := ws.zip l) (fun a _ b _ => rfl)
  rw [e, zip_snd h]
/-- all ordered, all alike -/
def SortOk (l : List D) : Prop := (∀ d ∈ l, ordD d = true) ∧ PySem.W.AllAlike (l.map pyD) ∧ PySem.W.Sortable (l.map pyD) ∧ ∀ d ∈ l, (pyD d).depth < 32
def sortedY : UOp := fun d P => sortedX d P ∨ ∃ l, rowD d = some l ∧ l.length ≤ sizeLine ∧ SortOk l ∧ P (.new (.lst (l.mergeSort leDat)))
section
variable {X : Cx} {bx : Bx}
theorem c_sortedY (hc : X.calm = true) (hu : X.A.units + 64 < cLine) : Call1 X bx (.builtin "sorted") sortedY := by
  rintro pins s σ H xs us Q I r ⟨v, rfl, G, d, P, g, v1, h, R⟩
  rcases h with h | ⟨l, hrow, hzl0, ⟨o1, o2, o3, o4⟩, h⟩
  · exact c_sortedX hc pins s σ H _ us Q I r ⟨v, rfl, G, _, P, g, v1, h, R⟩
  · obtain ⟨u, rfl, ru⟩ := r.one
    obtain ⟨ws, r1, C⟩ := coll_of I g v1 ru hrow hzl0
    have hlen := r1.length
    have hwz : ws.length ≤ sizeLine := by rw [hlen]; exact hzl0
    have ezs : (ws.zip l).map (fun p => pyD p.2) = l.map pyD := by
      have := congrArg (List.map pyD) (zip_snd hlen)
      rw [List.map_map] at this
      exact this
    refine Calls.call_function_entry kind_sorted plain_sorted entry_sorted (args_sorted1 _) ?_
    unfold Builtin.«sorted»
    refine wpAny_bind (m := checkCount "sorted" 1 1 _) (wpAny_pure ?_)
    refine wpAny_bind (C.run X.A.in1 (I.ok.hd hc) fun h' tk vs hk rv => ?_)
    have I1 : Inv X pins σ H { s with heap := h', toks := tk } := I.kept hk
    have hvl : vs.length ≤ sizeLine := by rw [← rv.length]; exact hwz
    have hzl : (ws.zip l).length = vs.length := by rw [List.length_zip, hlen, Nat.min_self, ← hlen, rv.length]
    refine wpAny_bind (wpAny_newList ?_ hvl)
    have hoL : (h'.push (seqObj "list" vs.toArray 0)).get? h'.objs.size = some (seqObj "list" vs.toArray 0) := Heap.get?_push_size _ rfl
    have er : PySem.W.EachIs (fun (u : Value) (p : V × D) => ∃ as, Reads h' u (pyD p.2) as) vs (ws.zip l) := r1.readsEach I1 g o1 rv
    have er' : PySem.W.EachIs (fun (u : Value) (p : V × D) => ∃ as, Reads (PySem.W.sortingHeap (h'.push (seqObj "list" vs.toArray 0)) h'.objs.size vs) u (pyD p.2) as) vs (ws.zip l) := er.mono fun _ _ ⟨as, r⟩ => ⟨as, PyProof.Rows.Reads.keeps (fun _ _ e => PySem.W.sortingHeap_old (Nat.ne_of_lt (Heap.lt_size e)) (Heap.get?_push_of_some _ e)) r⟩
    have hu2 : ∀ b, b ∈ ws.zip l → X.A.in1.in1.units + (pyD b.2).depth < cLine := fun b hb => by
      have := o4 b.2 (by rw [← zip_snd hlen]; exact List.mem_map_of_mem hb)
      show X.A.units + 1 + 1 + (pyD b.2).depth < cLine
      omega
    have o2' : PySem.W.AllAlike ((ws.zip l).map fun p => pyD p.2) := by rw [ezs]; exact o2
    have o3' : PySem.W.Sortable ((ws.zip l).map fun p => pyD p.2) := by rw [ezs]; exact o3
    have S := PySem.W.SortsAt.data (prog := X.prog) (w := X.w) (A := X.A.in1.in1) (s := { s with heap := PySem.W.sortingHeap (h'.push (seqObj "list" vs.toArray 0)) h'.objs.size vs, toks := tk }) (PySem.W.each_map (R := fun v d => ∃ as, Reads (PySem.W.sortingHeap (h'.push (seqObj "list" vs.toArray 0)) h'.objs.size vs) v d as) (fun p : V × D => pyD p.2) er') o2' o3' (PySem.W.bound_map hu2)
    refine wpAny_bind (wpAny_holding (wpAny_call_entry slot_list_sort ⟨_, hoL, rfl⟩ entry_list_sort (PySem.W.list_sort_vals hoL S hvl ⟨_, rfl, ?_⟩) (args_list_sort _)))
    have ho := PySem.W.sortVals_data (R := fun (u : Value) (p : V × D) => RelV p.1 u) (enc := fun p : V × D => pyD p.2) false (vals_each rv hlen) er' o2'
    have hv := each_vals ho
    have hp : ((ws.zip l).mergeSort (PySem.W.dataLe false fun p => pyD p.2)).Perm (ws.zip l) := List.mergeSort_perm _ _
    have erz : (((ws.zip l).mergeSort (PySem.W.dataLe false fun p => pyD p.2)).map (·.2)) = l.mergeSort leDat := sort_zip hlen leDat
    have rl := repL_of_zip (K := X.K) (B := bx.adr) (G := G) (zs := (ws.zip l).mergeSort (PySem.W.dataLe false fun p => pyD p.2)) fun p hpp => r1.zip_mem p (hp.mem_iff.mp hpp)
    rw [erz] at rl
    obtain ⟨c, hcc⟩ := sortedHeap_at (vs := vs) (out := (PySem.W.sortVals (PySem.W.dataKind (PySem.W.sortingHeap (h'.push (seqObj "list" vs.toArray 0)) h'.objs.size vs) ((ws.zip l).map fun p => pyD p.2)) false vs vs).toArray) hoL
    refine wpAny_pure ⟨_, rfl, .ref h'.objs.size, upd H h'.objs.size (.lst _), I1.laid (t' := tk) (fun b u e => ?_) (Nat.le_refl _) ⟨?_, _, c, hv, hcc⟩, rfl, R.lst _ _ _ h (I1.hok.fresh (Nat.le_refl _)) rl⟩
    · have hb : b < h'.objs.size := Heap.lt_size e
      rw [sortedHeap_old (Nat.ne_of_lt hb) (by rw [size_push']; exact Nat.lt_succ_of_lt hb)]
      exact Heap.get?_push_of_some _ e
    · rw [List.length_map, hp.length_eq, hzl]; exact hvl
theorem kw_one {pos : Pos} {k id : Str} {bid : String} {p kp : Pos} {s : Shared} {σ : L2.St} {H : Hp} {pins : List (Addr × Obj)} {Q : List Value → Shared → Prop} (I : Inv X pins σ H s) (hg : Gl X id) (hm : X.mg id = none) (hv : bootBuiltins id = some (.builtin bid)) (hn : id ≠ "__name__") (hd : (id == ("__debug__" : Str)) = false) (h : Q [.builtin bid] s) :
    wpAny (model X.prog X.w) X.A (evalAll ((backToKw pos (keywordEach [⟨some k, .Name id p, kp⟩] X.env)).map (·.2))) Q X.xe s :=
  PyProof.Rows.kws_cons (ld_blt I hg hm hv (PyProof.Rows.kws_nil h) hn hd)
/-- sorted(list of texts, key=len) -/
def leLen (a b : D) : Bool := decide (((strOf a).length : Int) ≤ (strOf b).length)
def sortedLen : UOp := fun d P => ∃ l, d = .lst l ∧ l.all isStr = true ∧ (∀ d ∈ l, (strOf d).length ≤ sizeLine) ∧ P (.new (.lst (l.mergeSort leLen)))
theorem sorted_len {pins : List (Addr × Obj)} {σ : L2.St} {H : Hp} {s : Shared} {v : V} {u : Value} {Q : VK} (hc : X.calm = true) (hu : X.A.units + 64 < cLine) (I : Inv X pins σ H s) (r : RelV v u) (h : rU1 X.K bx sortedLen v H Q) :
    wpAny (model X.prog X.w) X.A (call (.builtin "sorted") [u] [(Str.ofString "key", .builtin "len")]) (EP X pins σ Q) X.xe s := by
  obtain ⟨G, d, P, g, v1, ⟨l, rfl, o1, o2, h⟩, R⟩ := h
  obtain ⟨a, vs, rfl, s1, r1⟩ := view_lst g v1
  obtain ⟨its, rv, hl, hz⟩ := I.list (.inl (.inl s1))
  cases r
  have hlen := r1.length
  obtain ⟨es, ok⟩ := r1.strs o1
  have hzl : (vs.zip l).length = its.length := by rw [List.length_zip, hlen, Nat.min_self, ← hlen, rv.length]
  have hmem : ∀ p ∈ vs.zip l, p.1 = V.str ⟨(strOf p.2).toArray⟩ ∧ (strOf p.2).length ≤ sizeLine := by
    intro p hp
    have rp := r1.zip_mem p hp
    have hin : p.2 ∈ l := by rw [← zip_snd hlen]; exact List.mem_map_of_mem hp
    have hs := List.all_eq_true.mp o1 _ hin
    refine ⟨?_, o2 _ hin⟩
    revert rp hs
    cases p.2 <;> intro rp hs <;> first
      | (cases hs; done)
      | skip
    all_goals first
      | (exact absurd hs Bool.false_ne_true)
      | (generalize p.1 = q at rp ⊢; cases rp; rfl)
  have hl63 := line63
  have ki : ∀ x : V × D, PyData.int ((strOf x.2).length : Int) = PyData.int ((strOf x.2).length : Int) := fun _ => rfl
  refine PySem.W.sorted_key_data (R := fun (u : Value) (p : V × D) => RelV p.1 u) (bs := vs.zip l) (b := false) (f := .builtin "len") (fun p => .int ((strOf p.2).length : Int)) hl.isList (vals_each rv hlen) ?_ ?_ (by rw [hzl, ← rv.length]; exact hz) (fun x hx => ?_) (PyProof.Rows.ksk_s1 _ _) (fun _ => PyProof.Rows.ksk_l1 _ _) (fun _ => PyProof.Rows.ksk_t4 _ _) (fun w x hR hx h' tk hk => ?_) fun out c h' tk hk hfr hat hol ho => ?_
  · exact PySem.W.AllAlike.of (fun b b' => by simp [PySem.W.alike])
  · exact PySem.W.Sortable.others (fun b => ⟨by simp, fun xs => by simp⟩)
  · show X.A.units + 2 + PyData.depth (.int _) < cLine
    have e0 : PyData.depth (.int ((strOf x.2).length : Int)) = 0 := by simp [PyData.depth]
    omega
  · obtain ⟨e1, e2⟩ := hmem x hx
    have hR' : RelV x.1 w := hR
    rw [e1] at hR'
    obtain ⟨t, rfl⟩ := hR'
    have hsz : (⟨(strOf x.2).toArray⟩ : Str).length = (strOf x.2).length := by rw [str_len]
    refine len_str (by rw [hsz]; omega) ⟨h', tk + 2, rfl, fun _ _ e => e, ?_⟩
    rw [hsz]; exact .int _ _
  · have hv := each_vals ho
    have hp : ((vs.zip l).mergeSort (PySem.W.dataLe false fun p => .int ((strOf p.2).length : Int))).Perm (vs.zip l) := List.mergeSort_perm _ _
    have er : (((vs.zip l).mergeSort (PySem.W.dataLe false fun p => .int ((strOf p.2).length : Int))).map (·.2)) = l.mergeSort leLen := by
      rw [PySem.W.dataLe_int fun p : V × D => ((strOf p.2).length : Int)]
      exact sort_zip hlen leLen
    have rl := repL_of_zip (K := X.K) (B := bx.adr) (G := G) (zs := (vs.zip l).mergeSort (PySem.W.dataLe false fun p => .int ((strOf p.2).length : Int))) fun p hpp => r1.zip_mem p (hp.mem_iff.mp hpp)
    rw [er] at rl
    refine ⟨.ref _, upd H (s.heap.objs.size + 1) (.lst _), I.laid (t' := tk) (fun b u e => hk b u e) (Nat.le_succ _) ⟨?_, out, c, hv, hat⟩, rfl, R.lst _ _ _ h (I.hok.fresh (Nat.le_succ _)) rl⟩
    rw [hv.length, hol, hzl, ← rv.length]; exact hz
variable {a : Expr} {fa : WE} {p pos lp kp : Pos}
theorem e_sortedLen (hc : X.calm = true) (hu : X.A.units + 64 < cLine) (ha : E3 X bx a fa) (hm : X.mg ("sorted" : Str) = none) (hml : X.mg ("len" : Str) = none) (hg : Gl X ("sorted" : Str) := by rfl) (hgl : Gl X ("len" : Str) := by rfl)
    (he : starEach [a] X.env = (false, eval a X.env) :: starEach [] X.env := by rfl) : E3 X bx (.Call (.Name "sorted" p) [a] [⟨some "key", .Name "len" lp, kp⟩] pos) (wUn sortedLen fa) := by
  refine ⟨⟨fun pins s σ H Q I h => ?_⟩⟩
  have h1 := lE_un σ H Q h
  refine wpAny_Call_Name_kw (ld_blt I hg hm (u := .builtin "sorted") (by decide +kernel) ?_ (by decide) (by decide))
  refine PyProof.Rows.callWith_kw (thn ((pa_cons ha.pe pa_nil he).run pos pins s σ H (fun vs H' => ∃ x, vs = [x] ∧ rU1 X.K bx sortedLen x H' Q) I ?_) fun us s1 ⟨vs, H1, I1, r1, q1⟩ => ?_) (by rw [he]; rfl) (by rw [he]; rfl) (by rfl) (by rfl)
  · obtain ⟨F, ρ, G, P, st, hf, hQ⟩ := h1
    exact ⟨F, ρ, G, P, st, hf, fun r ρ' v G' H' h1 h2 h3 h4 => ⟨v, rfl, hQ r ρ' v G' H' h1 h2 h3 h4⟩⟩
  · obtain ⟨x, rfl, q⟩ := q1
    obtain ⟨u, rfl, ru⟩ := vals1 r1
    refine kw_one I1 hgl hml (bid := "len") (by decide +kernel) (by decide) (by decide) ?_
    exact sorted_len hc hu I1 ru q
end
end L2.W3

/-! W4, part b: d.get, d[k] op= v, loops over dicts. -/
namespace L2.W3
open PySem PySem.Spec PyProof.Rows
section
variable {X : Cx} {bx : Bx} {a b c e tg : Expr} {fa fb fc : WE} {pos apos cpos : Pos} {x : Str}
def isDict : D → Bool
  | .dik _ => true
  | .dit _ => true
  | _ => false
theorem isD_view {K : PySem.W.Frag} {B : Addr} {G H : Hp} {v : V} {d : D} (g : Same G H) (h : View K B G H v d) (i : isDict d = true) : ∃ a, v = .ref a ∧ IsD H a := by
  cases d with
  | dik l => obtain ⟨a, vs, rfl, s1, r1⟩ := view_dik g h; exact ⟨a, rfl, .inl ⟨vs, s1⟩⟩
  | dit l => obtain ⟨a, vs, rfl, s1, r1⟩ := view_dit g h; exact ⟨a, rfl, .inr ⟨vs, s1⟩⟩
  | _ => cases i
/-- d.get(k) -/
def wGet1 (fa fb : WE) : WE := fun ρ Q => fa ρ fun r ρ1 => (pk r ρ1 fun d => isDict d = true) ∧ fb ρ1 fun rk ρ2 => fz rk ρ2 fun k ρ3 => pk r ρ3 fun d => getD3 d k fun o => Q (.val (o.getD .non)) ρ3
/-- d.get(k, x) -/
def wGet2 (fa fb fc : WE) : WE := fun ρ Q => fa ρ fun r ρ1 => (pk r ρ1 fun d => isDict d = true) ∧ fb ρ1 fun rk ρ2 => fz rk ρ2 fun k ρ3 => fc ρ3 fun rx ρ4 => fz rx ρ4 fun z ρ5 => pk r ρ5 fun d => getD3 d k fun o => Q (.val (o.getD z)) ρ5
theorem e_get1 (hu : X.A.units + 64 < cLine) (ha : E3 X bx a fa) (hb : E3 X bx b fb) (hbase : attributeBase a "get" X.env (eval a X.env) = eval a X.env := by rfl)
    (hfew : ((backTo cpos (starEach [b] X.env)).all (fun x => !x.1) && (backToKw cpos (keywordEach [] X.env)).all (fun x => x.1.isSome) && decide (([b] : List Expr).length + ([] : List Keyword).length + (if ([] : List Keyword).isEmpty then 0 else 1) < 30)) = true := by rfl)
    (hline : (apos.endLine == cpos.line) = true := by rfl) (ht : backTo cpos (starEach [b] X.env) = [(false, eval b X.env)] := by rfl) : E3 X bx (.Call (.Attribute a "get" apos) [b] [] cpos) (wGet1 fa fb) := by
  refine ⟨PE.weaken (pe_dget1 (by omega) ha.pe hb.pe ⟨hbase, hfew, hline, ht⟩) fun σ H Q ⟨F, ρ, G, P, st, h, hQ⟩ => ⟨F, ρ, G, _, st, h, fun r1 ρ1 w1 G1 H1 h1 g1 st1 rr1 => ?_⟩⟩
  obtain ⟨hi, h1⟩ := h1
  obtain ⟨d, hd, vd⟩ := pk_ok st1 rr1 hi
  obtain ⟨p, rfl, isd⟩ := isD_view st1.gs vd hd
  refine ⟨p, rfl, isd, pend F H1 r1 (.ref p), ρ1, G1, _, pend_st st1 rr1, h1, fun rk ρ2 w2 G2 H2 h2 g2 st2 rr2 => ?_⟩
  obtain ⟨k, ρ3, G3, h3, g3, st3, rk3⟩ := fz_ok st2 rr2 h2
  obtain ⟨st3', rr3⟩ := pend_back st1 rr1 (g2.trans g3) st3
  obtain ⟨d2, h4, vd2⟩ := pk_ok st3' rr3 h3
  obtain ⟨p2, o, e, dg, od, q, ho⟩ := getD3_ok st3'.gs vd2 rk3 h4
  cases e
  refine ⟨o, dg, ?_⟩
  rcases ho with ⟨rfl, rfl⟩ | ⟨w, z, rfl, rfl, rz⟩
  · exact hQ _ _ _ _ _ q (g1.trans (g2.trans g3)) st3' .non
  · exact hQ _ _ _ _ _ q (g1.trans (g2.trans g3)) st3' rz
theorem e_get2 (hu : X.A.units + 64 < cLine) (ha : E3 X bx a fa) (hb : E3 X bx b fb) (hc : E3 X bx c fc) (hbase : attributeBase a "get" X.env (eval a X.env) = eval a X.env := by rfl)
    (hfew : ((backTo cpos (starEach [b, c] X.env)).all (fun x => !x.1) && (backToKw cpos (keywordEach [] X.env)).all (fun x => x.1.isSome) && decide (([b, c] : List Expr).length + ([] : List Keyword).length + (if ([] : List Keyword).isEmpty then 0 else 1) < 30)) = true := by rfl)
    (hline : (apos.endLine == cpos.line) = true := by rfl) (ht : backTo cpos (starEach [b, c] X.env) = [(false, eval b X.env), (false, eval c X.env)] := by rfl) : E3 X bx (.Call (.Attribute a "get" apos) [b, c] [] cpos) (wGet2 fa fb fc) := by
  refine ⟨PE.weaken (pe_dget2 (by omega) ha.pe hb.pe hc.pe ⟨hbase, hfew, hline, ht⟩) fun σ H Q ⟨F, ρ, G, P, st, h, hQ⟩ => ⟨F, ρ, G, _, st, h, fun r1 ρ1 w1 G1 H1 h1 g1 st1 rr1 => ?_⟩⟩
  obtain ⟨hi, h1⟩ := h1
  obtain ⟨d, hd, vd⟩ := pk_ok st1 rr1 hi
  obtain ⟨p, rfl, isd⟩ := isD_view st1.gs vd hd
  refine ⟨p, rfl, isd, pend F H1 r1 (.ref p), ρ1, G1, _, pend_st st1 rr1, h1, fun rk ρ2 w2 G2 H2 h2 g2 st2 rr2 => ?_⟩
  obtain ⟨k, ρ3, G3, h3, g3, st3, rk3⟩ := fz_ok st2 rr2 h2
  refine ⟨_, ρ3, G3, _, st3, h3, fun rx ρ4 w3 G4 H4 h4 g4 st4 rr4 => ?_⟩
  obtain ⟨z, ρ5, G5, h5, g5, st5, rz5⟩ := fz_ok st4 rr4 h4
  obtain ⟨st5', rr5⟩ := pend_back st1 rr1 (g2.trans (g3.trans (g4.trans g5))) st5
  obtain ⟨d2, h6, vd2⟩ := pk_ok st5' rr5 h5
  obtain ⟨p2, o, e, dg, od, q, ho⟩ := getD3_ok st5'.gs vd2 (rk3.mono (g4.trans g5)) h6
  cases e
  refine ⟨o, dg, ?_⟩
  rcases ho with ⟨rfl, rfl⟩ | ⟨w, y, rfl, rfl, ry⟩
  · exact hQ _ _ _ _ _ q (g1.trans (g2.trans (g3.trans (g4.trans g5)))) st5' rz5
  · exact hQ _ _ _ _ _ q (g1.trans (g2.trans (g3.trans (g4.trans g5)))) st5' ry
/-- d[k] op= e, d in slot i -/
def wDAug (i : Nat) (dop : DOp) (fk fa : WE) : WS := fun P ρ => onOwn i ρ fun _ => fk ρ fun rk ρ1 => fz rk ρ1 fun k ρ2 => onOwn i ρ2 fun l => getD3 l k fun o => ∃ cur, o = some cur ∧ fa ρ2 fun r ρ3 => pk r ρ3 fun y => dop cur y fun r2 => match r2 with
  | .val z => onOwn i ρ3 fun l => dputD l k z fun l' => P.nx (ρ3.set i (.own l'))
  | _ => False
theorem s_daug (i : Nat) {op : Operator} {dop : DOp} {npos tpos : Pos} (hu : X.A.units + 64 < cLine) (ho : IpD X bx op dop) (hk : E3 X bx b fb) (ha : E3 X bx a fa) (hi : X.N[i]? = some x := by rfl) (hv : Vis X.env.scope x := by first | exact Or.inl rfl | exact Or.inr (Or.inl rfl) | exact Or.inr (Or.inr rfl)) (hd : (x == ("__debug__" : Str)) = false := by decide) (hcd : (x == ("__classdict__" : Str)) = false := by decide)
    (hag : ∀ ov iv new, augStore b ov iv new = (do holding [new, ov, iv] (setItem ov iv new); release [new, ov, iv] []; pure .next) := by intro _ _ _; rfl) :
    S3 X bx (.AugAssign (.Subscript (.Name x npos) b tpos) op a pos) (wDAug i dop fb fa) := by
  refine ⟨PS.weaken (ps_daug (rd := rD X.K bx dop) (by omega) (pv i hi hv hd hcd) hk.pe ha.pe (fun pins s σ H x y u v Q I r1 r2 h => ho pins s σ H x y u v Q I r1 r2 h) hag) fun D σ H ⟨F, ρ, G, P, st, h, e⟩ => ?_⟩
  obtain ⟨l0, p, h, eo0, e1, t0⟩ := own_at3 st h
  refine ⟨_, e1, F, ρ, G, _, st, h, fun rk ρ1 w G1 H1 h1 g1 st1 rr1 => ?_⟩
  obtain ⟨k, ρ2, G2, h2, g2, st2, rk2⟩ := fz_ok st1 rr1 h1
  obtain ⟨l1, p1, h2, eo1, e2, t1⟩ := own_at3 st2 h2
  rw [e1] at e2; cases e2
  obtain ⟨p2, o, e, dg, od, ⟨cur, rfl, q⟩, hov⟩ := getD3_ok st2.gs (.inr ⟨p, rfl, t1⟩) rk2 h2
  cases e
  rcases hov with ⟨_, h⟩ | ⟨v, z, rfl, h, rv⟩
  · cases h
  cases h
  refine ⟨p, v, rfl, dg, F, ρ2, G2, _, st2, q, fun r ρ3 w3 G3 H3 h3 g3 st3 rr3 => ?_⟩
  obtain ⟨y, h4, vy⟩ := pk_ok st3 rr3 h3
  refine ⟨G3, cur, y, _, st3.gs, .inl (rv.mono g3), vy, h4, res_of st3 fun r2 w2 G4 H4 h5 g4 st4 rr4 => ?_⟩
  split at h5
  · obtain ⟨l2, q2, h6, eo2, e3, t2⟩ := own_at3 st4 h5
    rw [e1] at e3; cases e3
    obtain ⟨H', l', hp, q, st5⟩ := dput_ok st4 eo2 e1 t2 (rk2.mono (g3.trans g4)) rr4 h6
    exact ⟨H', hp, e.nx _ _ _ _ q (g1.trans (g2.trans (g3.trans g4))) st5⟩
  · exact h5.elim
/-! ### loops over dicts -/
/-- p is locked for good and known from now on -/
theorem lock_at {K : PySem.W.Frag} {F G H : Hp} {ρ : Env3} {σ : L2.St} {p : Addr} {o : HO} (st : Stt K bx F ρ σ G H) (gp : G p = none) (fp : F p = none) (bp : p ∉ bx.fp) (no : ∀ i, ¬ Own ρ σ i p) : Same G (upd G p o) ∧ Stt K bx F ρ σ (upd G p o) (upd H p o) := by
  have gg : Same G (upd G p o) := fun a u e => by rw [upd_ne (ne_of_none e gp)]; exact e
  refine ⟨gg, ⟨⟨fun a u e => ?_, fun a u e => ?_, fun a u e => ?_, bx.loc H _ (fun a ha => upd_ne (fun h => bp (h ▸ ha))) st.bi, fun a ha => ⟨?_, (st.bg a ha).2⟩⟩, st.len, fun i d e => ?_, fun i d e => ?_, st.dj⟩⟩
  · by_cases h : a = p
    · subst h; rw [upd_same] at e ⊢; exact e
    · rw [upd_ne h] at e ⊢; exact st.gs a u e
  · rw [upd_ne (ne_of_none e fp)]; exact st.fs a u e
  · rw [upd_ne (ne_of_none e fp)]; exact st.fg a u e
  · have hne : a ≠ p := fun h => bp (h ▸ ha)
    rw [upd_ne hne]; exact (st.bg a ha).1
  · obtain ⟨w, e1, q⟩ := st.vl i d e
    exact ⟨w, e1, q.mono gg⟩
  · obtain ⟨q, e1, t, e2, e3⟩ := st.ow i d e
    have h : q ≠ p := fun h => no i ⟨⟨_, e⟩, h ▸ e1⟩
    exact ⟨q, e1, (t.mono gg).heap (upd_ne h), by rw [upd_ne h]; exact e2, e3⟩
inductive DKind where
  | keys | vals | its
def dictItems (k : DKind) (d : D) (Q : List D → Prop) : Prop :=
  match k, d with
  | .keys, .dik l => Q (l.map fun kv => kD kv.1)
  | .keys, .dit l => Q (l.map fun kv => .tup (kv.1.map kD))
  | .vals, .dik l => Q (l.map fun kv => kv.2)
  | .its, .dik l => Q (l.map fun kv => .tup [kD kv.1, kv.2])
  | _, _ => False
/-- for .. in d (d.values(), d.items()); the dict is not changed any more -/
def dictR (k : DKind) (r : R) (ρ1 : Env3) (Q : List D → Env3 → Prop) : Prop :=
  match r with
  | .new d => dictItems k d fun l => Q l ρ1
  | .slot i => match ρ1[i]? with
    | some (.own d) => dictItems k d fun l => Q l (ρ1.set i (.val d))
    | _ => False
  | .val _ => False
def wIterD (k : DKind) (fa : WE) : WI := fun ρ Q => fa ρ fun r ρ1 => dictR k r ρ1 Q
/-- keys of the locked dict -/
def itKeys (d : Addr) (o : Obj) : HO → It
  | .dK kvs => Itk d o kvs
  | .dT kvs => Itkt d o kvs
  | _ => ⟨fun _ _ => False, fun _ _ _ _ => False, fun _ _ => False⟩
def isDk : HO → Prop
  | .dK _ => True
  | .dT _ => True
  | _ => False
theorem pi_keysL {td : TE} (he : PE X e td) : PI X tg e (fun σ H R => td σ H fun x H1 => ∃ d u, x = .ref d ∧ H1 d = some u ∧ isDk u ∧ ∀ o, R (itKeys d o u) (upd H1 d (.frz o u))) := by
  refine ⟨fun pins s σ H R I h => ?_⟩
  refine thn (he.run pins s σ H _ I h) fun w s1 ⟨x, H1, I1, rx, d, u, ex, hd, hu, q⟩ => ?_
  subst ex
  obtain rfl : w = Value.ref d := rx
  cases u with
  | dK kvs =>
    obtain ⟨od, I2⟩ := I1.lock hd True.intro
    have q := q od
    obtain ⟨hs, hgd, hx, es, ep, vs, hdt, hsz, kv, hm⟩ := I2.frzK upd_same
    refine iter_keys hs hgd hx hdt (pi_one (tk := s1.toks) I2 _ (turn_keys _ hdt) ⟨_, Heap.get?_push_size _ rfl, rfl, ?_⟩ q)
    rw [hsz] <;> rfl
  | dT kvs =>
    obtain ⟨od, I2⟩ := I1.lock hd True.intro
    have q := q od
    obtain ⟨hs, hgd, hx, es, ep, hdt, hsz, ent⟩ := I2.frzT upd_same
    refine iter_keys hs hgd hx hdt (pi_one (tk := s1.toks) I2 _ (turn_keysT _ hdt) ⟨_, Heap.get?_push_size _ rfl, rfl, ?_⟩ q)
    rw [hsz] <;> rfl
  | _ => exact hu.elim
theorem itok_keys {K : PySem.W.Frag} {B : Addr} {G : Hp} {d : Addr} {o : Obj} {kvs : List (Key × V)} {l : List (Key × D)} (h : G d = some (.frz o (.dK kvs))) (r : RepK K B G kvs l) : ItOk K B G (Itk d o kvs) (l.map fun kv => kD kv.1) := by
  have hl := r.length
  refine ⟨fun i H g hi => ⟨g _ _ h, ?_⟩, fun i H g hi => ⟨g _ _ h, ?_⟩, fun i H x H' g hi hy => ?_⟩
  · rw [List.length_map] at hi; omega
  · rw [List.length_map] at hi; omega
  · obtain ⟨rfl, k, v, hk, rfl⟩ := hy
    have key : ∀ {kvs : List (Key × V)} {l : List (Key × D)}, RepK K B G kvs l → ∀ {i : Nat}, kvs[i]? = some (k, v) → ∃ d, l[i]? = some (k, d) ∧ okK k = true := by
      intro kvs l r
      induction kvs generalizing l with
      | nil => intro i hi; simp at hi
      | cons kv kvs ih =>
        cases r with
        | cons ok rv r =>
          intro i hi
          cases i with
          | zero => simp at hi; obtain ⟨rfl, rfl⟩ := hi; exact ⟨_, rfl, ok⟩
          | succ i =>
            obtain ⟨d, hd, o⟩ := ih r (i := i) (by simpa using hi)
            exact ⟨d, by simpa using hd, o⟩
    obtain ⟨d, hd, ok⟩ := key r hk
    exact ⟨kD k, by rw [List.getElem?_map, hd]; rfl, .inl (.inl ⟨rfl, rep_kD ok⟩)⟩
theorem itok_keysT {K : PySem.W.Frag} {B : Addr} {G : Hp} {d : Addr} {o : Obj} {kvs : List (List Key × V)} {l : List (List Key × D)} (h : G d = some (.frz o (.dT kvs))) (r : RepT K B G kvs l) : ItOk K B G (Itkt d o kvs) (l.map fun kv => .tup (kv.1.map kD)) := by
  have hl := r.length
  refine ⟨fun i H g hi => ⟨g _ _ h, ?_⟩, fun i H g hi => ⟨g _ _ h, ?_⟩, fun i H x H' g hi hy => ?_⟩
  · rw [List.length_map] at hi; omega
  · rw [List.length_map] at hi; omega
  · obtain ⟨rfl, k, v, q, hk, rfl, hq⟩ := hy
    have key : ∀ {kvs : List (List Key × V)} {l : List (List Key × D)}, RepT K B G kvs l → ∀ {i : Nat}, kvs[i]? = some (k, v) → ∃ d, l[i]? = some (k, d) ∧ k.all okK = true := by
      intro kvs l r
      induction kvs generalizing l with
      | nil => intro i hi; simp at hi
      | cons kv kvs ih =>
        cases r with
        | cons ok rv r =>
          intro i hi
          cases i with
          | zero => simp at hi; obtain ⟨rfl, rfl⟩ := hi; exact ⟨_, rfl, ok⟩
          | succ i =>
            obtain ⟨d, hd, o⟩ := ih r (i := i) (by simpa using hi)
            exact ⟨d, by simpa using hd, o⟩
    obtain ⟨d, hd, ok⟩ := key r hk
    exact ⟨.tup (k.map kD), by rw [List.getElem?_map, hd]; rfl, .inr ⟨q, k, rfl, rfl, hq, rfl, ok⟩⟩
/-- a result that is a dict of its own: where it stands -/
theorem dict_own {K : PySem.W.Frag} {F G H : Hp} {ρ : Env3} {σ : L2.St} {r : R} {v : V} {k : DKind} {P : List D → Env3 → Prop} (st : Stt K bx F ρ σ G H) (rr : RepR K bx F ρ σ G H r v)
    (h : dictR k r ρ P) :
    ∃ p d ρ', v = .ref p ∧ Top K bx.adr G H p d ∧ (dictItems k d fun l => P l ρ') ∧ ∀ o, (∀ G', Same G G' → G' p = some o → Rep K bx.adr G' (.ref p) d) → ∃ G', Same G G' ∧ G' p = some o ∧ Stt K bx F ρ' σ G' (upd H p o) := by
  cases r with
  | val d => exact h.elim
  | new d =>
    obtain ⟨p, rfl, ⟨tp, gp, fp, bp⟩, no⟩ := rr
    refine ⟨p, d, ρ, rfl, tp, h, fun o _ => ?_⟩
    obtain ⟨g, st'⟩ := lock_at (o := o) st gp fp bp no
    exact ⟨_, g, upd_same, st'⟩
  | slot i =>
    have rr : σ[i]? = some (some v) := rr
    have h : match ρ[i]? with
        | some (.own d) => dictItems k d fun l => P l (ρ.set i (.val d))
        | _ => False := h
    split at h
    · rename_i d e
      obtain ⟨p, e1, t, e2, e3, e4⟩ := st.ow i d e
      rw [rr] at e1; cases e1
      refine ⟨p, d, _, rfl, t, h, fun o hr => ?_⟩
      obtain ⟨st1, no⟩ := own_forget (i := i) (d := d) st
      obtain ⟨g, st2⟩ := lock_at (o := o) st1 e2 e3 e4 (no p ⟨⟨d, e⟩, rr⟩)
      exact ⟨_, g, upd_same, set_val st2 rr (hr _ g upd_same)⟩
    · exact h.elim
theorem i_keys (ha : E3 X bx a fa) : I3 X bx tg a (wIterD .keys fa) := by
  refine ⟨PI.weaken (pi_keysL ha.pe) fun σ H R ⟨F, ρ, G, P, st, h, hQ⟩ => ⟨F, ρ, G, _, st, h, fun r ρ1 v G1 H1 h1 g1 st1 rr1 => ?_⟩⟩
  obtain ⟨p, d, ρ', rfl, t, hd, fin⟩ := dict_own st1 rr1 h1
  cases t with
  | lst hp r => exact (show False from hd).elim
  | dik hp r =>
    refine ⟨p, _, rfl, hp, True.intro, fun o => ?_⟩
    obtain ⟨G2, g2, e2, st2⟩ := fin (.frz o (.dK _)) fun G' g e => .dik (.inr ⟨o, e⟩) (r.mono g)
    exact hQ _ _ _ _ _ hd (g1.trans g2) st2 (itok_keys e2 (r.mono g2))
  | dit hp r =>
    refine ⟨p, _, rfl, hp, True.intro, fun o => ?_⟩
    obtain ⟨G2, g2, e2, st2⟩ := fin (.frz o (.dT _)) fun G' g e => .dit (.inr ⟨o, e⟩) (r.mono g)
    exact hQ _ _ _ _ _ hd (g1.trans g2) st2 (itok_keysT e2 (r.mono g2))
end
end L2.W3

/-! W4, part h: displays of dicts, keys ints and texts, or tuples of these. -/
namespace L2.W3
open PySem PySem.Spec PyProof.Rows
section
variable {K : PySem.W.Frag} {bx : Bx} {F G G' H H' : Hp} {ρ ρ' : Env3} {σ : L2.St} {p : Addr} {o : HO}
theorem sole_upd (st : Stt K bx F ρ σ G H) (gp : G p = none) (fp : F p = none) (bp : p ∉ bx.fp) (no : ∀ i, ¬ Own ρ σ i p) : Stt K bx F ρ σ G (upd H p o) := by
  refine ⟨⟨fun a u e => ?_, fun a u e => ?_, st.fg, bx.loc H _ (fun a ha => upd_ne (fun e => bp (e ▸ ha))) st.bi, st.bg⟩, st.len, st.vl, fun i d e => ?_, st.dj⟩
  · rw [upd_ne (ne_of_none e gp)]; exact st.gs a u e
  · rw [upd_ne (ne_of_none e fp)]; exact st.fs a u e
  · obtain ⟨q, e1, t, e2⟩ := st.ow i d e
    have hq : q ≠ p := fun h => no i ⟨⟨d, e⟩, h ▸ e1⟩
    exact ⟨q, e1, t.heap (upd_ne hq), e2⟩
end
/-- pairs of keys and values that are plain -/
inductive RepP (K : PySem.W.Frag) (B : Addr) (G : Hp) : List (V × V) → List (D × D) → Prop
  | nil : RepP K B G [] []
  | cons {x y : V} {k d : D} {vs : List (V × V)} {ds : List (D × D)} : Rep K B G x k → Rep K B G y d → RepP K B G vs ds → RepP K B G ((x, y) :: vs) ((k, d) :: ds)
theorem RepP.mono {K : PySem.W.Frag} {B : Addr} {G G' : Hp} (e : Same G G') : ∀ {vs : List (V × V)} {ds : List (D × D)}, RepP K B G vs ds → RepP K B G' vs ds
  | _, _, .nil => .nil
  | _, _, .cons a b r => .cons (a.mono e) (b.mono e) (r.mono e)
abbrev WPs := Env3 → (List (D × D) → Env3 → Prop) → Prop
def lP (K : PySem.W.Frag) (bx : Bx) (f : WPs) : L2.St → Hp → (List (V × V) → Hp → Prop) → Prop := fun σ H Q => ∃ F ρ G P, Stt K bx F ρ σ G H ∧ f ρ P ∧
  ∀ kvs ρ' vs G' H', P kvs ρ' → Same G G' → Stt K bx F ρ' σ G' H' → RepP K bx.adr G' vs kvs → Q vs H'
structure P3 (X : Cx) (bx : Bx) (keys : List (Option Expr)) (values : List Expr) (f : WPs) : Prop where
  run : ∀ (pos : Pos) (pins : List (Addr × Obj)) (s : Shared) (σ : L2.St) (H : Hp) (Q : List (V × V) → Hp → Prop), Inv X pins σ H s → lP X.K bx f σ H Q →
    wpAny (model X.prog X.w) X.A (evalPairs (pairTrees keys values X.env pos)) (fun vs s' => ∃ ps H', Inv X pins σ H' s' ∧ VV ps vs ∧ Q ps H') X.xe s
def wPNil : WPs := fun ρ Q => Q [] ρ
def wPCons (fk fv : WE) (fr : WPs) : WPs := fun ρ Q => fk ρ fun rk ρ1 => fz rk ρ1 fun k ρ2 => fv ρ2 fun rv ρ3 => fz rv ρ3 fun d ρ4 => fr ρ4 fun l ρ5 => Q ((k, d) :: l) ρ5
section
variable {X : Cx} {bx : Bx} {pos : Pos} {k v : Expr} {ks : List (Option Expr)} {vs : List Expr} {fk fv : WE} {fr : WPs}
theorem p_nil : P3 X bx [] [] wPNil := ⟨fun pos pins s σ H Q I ⟨F, ρ, G, P, st, h, hQ⟩ => pairTrees_nil_walk ⟨[], H, I, .nil, hQ [] ρ [] G H h (Same.refl G) st .nil⟩⟩
theorem p_cons (hk : E3 X bx k fk) (hv : E3 X bx v fv) (hr : P3 X bx ks vs fr) : P3 X bx (some k :: ks) (v :: vs) (wPCons fk fv fr) := by
  refine ⟨fun pos pins s σ H Q I ⟨F, ρ, G, P, st, h, hQ⟩ => ?_⟩
  refine pairTrees_cons_walk (thn (hk.pe.run pins s σ H (fun x H1 => ∃ G2 d ρ2, Same G G2 ∧ Stt X.K bx F ρ2 σ G2 H1 ∧ Rep X.K bx.adr G2 x d ∧ fv ρ2 fun rv ρ3 => fz rv ρ3 fun e ρ4 => fr ρ4 fun l ρ5 => P ((d, e) :: l) ρ5) I ⟨F, ρ, G, _, st, h, fun r ρ1 w G1 H1 h1 g1 st1 rr1 => ?_⟩) fun u s1 ⟨x, H1, I1, rx, G2, d, ρ2, g2, st2, rd, h2⟩ => ?_)
  · obtain ⟨d, ρ2, G2, h2, g2, st2, rd⟩ := fz_ok st1 rr1 h1
    exact ⟨G2, d, ρ2, g1.trans g2, st2, rd, h2⟩
  · refine thn (hv.pe.run pins s1 σ H1 (fun y H2 => ∃ G4 e ρ4, Same G2 G4 ∧ Stt X.K bx F ρ4 σ G4 H2 ∧ Rep X.K bx.adr G4 y e ∧ fr ρ4 fun l ρ5 => P ((d, e) :: l) ρ5) I1 ⟨F, ρ2, G2, _, st2, h2, fun r ρ3 w G3 H3 h3 g3 st3 rr3 => ?_⟩) fun w2 s2 ⟨y, H2, I2, ry, G4, e, ρ4, g4, st4, re, h4⟩ => ?_
    · obtain ⟨e, ρ4, G4, h4, g4, st4, re⟩ := fz_ok st3 rr3 h3
      exact ⟨G4, e, ρ4, g3.trans g4, st4, re, h4⟩
    · exact thn (hr.run pos pins s2 σ H2 (fun ps H3 => Q ((x, y) :: ps) H3) I2 ⟨F, ρ4, G4, _, st4, h4, fun l ρ5 ps G5 H5 h5 g5 st5 rp => hQ _ ρ5 _ G5 H5 h5 (g2.trans (g4.trans g5)) st5 (.cons (rd.mono (g4.trans g5)) (re.mono g5) rp)⟩) fun ws s3 ⟨ps, H3, I3, rel, q3⟩ => ⟨(x, y) :: ps, H3, I3, .cons ⟨rx, ry⟩ rel, q3⟩
end
/-- all pairs put in, one after the other -/
def putsD : List (D × D) → D → (D → Prop) → Prop
  | [], d, Q => Q d
  | (k, v) :: r, d, Q => dputD d k v fun d' => putsD r d' Q
def emp (T : Bool) : D := if T = true then .dit [] else .dik []
def wDisp (T : Bool) (f : WPs) : WE := fun ρ Q => f ρ fun kvs ρ1 => putsD kvs (emp T) fun d => Q (.new d) ρ1
section
variable {X : Cx} {bx : Bx} {pins : List (Addr × Obj)} {σ : L2.St} {H : Hp} {s : Shared} {a : Addr} {y v : V} {u r : Value} {A : Around} {E : Value → Shared → Prop}
/-- the dict's object itself is written -/
theorem d_dictSet {H' : Hp} {Q : Unit → Shared → Prop} (hu : (tupleKind (mixKind X.prog X.w)).room A) (I : Inv X pins σ H s) (g : DPut H a y v H') (ry : RelV y u) (rv : RelV v r) (h : ∀ s', Inv X pins σ H' s' → Q () s') :
    wpAny (model X.prog X.w) A (dictSet a u r) Q E s := by
  rcases g with ⟨kvs, k, e, ey, l, eH⟩ | ⟨kvs, k, b, e, ey, eb, l, eH⟩
  · subst ey eH
    obtain ⟨z, hd, vs, rel, dd⟩ := dk_of I.hok e
    have hz : vs.length ≤ sizeLine := by rw [← rel.length]; exact z
    have hl : (putK kvs k v).length ≤ sizeLine := by have := length_putK kvs k v; omega
    refine wpAny_dictSet_pairs (hsz := hz) (kV_is ry) dd fun h' dd' hs => h _ ?_
    have he : ∃ q, h'.get? a = some q := let ⟨q, _, _, hq, _⟩ := dd'; ⟨q, hq⟩
    exact d_write I (by rw [e]; exact True.intro) hs he (dk_new hl hd (rel.put k rv) dd')
  · subst ey eH
    cases (show u = Value.ref b from ry)
    obtain ⟨z, hd, xs, rel, dd⟩ := dt_of I.hok e
    have hz : xs.length ≤ sizeLine := by rw [← Paired.length rel]; exact z
    have hl : (putK kvs k v).length ≤ sizeLine := by have := length_putK kvs k v; omega
    refine wpAny_dictSet_heap (hsz := hz) hu (key_of I.hok eb) dd fun h' dd' hs => h _ ?_
    obtain ⟨q, es, ep, hq, h2, h3, h4, _, h5⟩ := dd'
    refine d_write I (by rw [e]; exact True.intro) hs ⟨q, hq⟩ ⟨hl, hd, _, (rel.put k eb rv).keeps fun c ys ec => ?_, q, es, ep, hq, h2, h3, h4, h5⟩
    rw [upd_ne (ne_of ec e (fun z => nomatch z))]
    exact ec
/-- what the put makes of a dict that nobody owns yet -/
theorem dput_new {K : PySem.W.Frag} {F G : Hp} {ρ : Env3} {p : Addr} {l k d : D} {Q : D → Prop} (st : Stt K bx F ρ σ G H) (so : Sole K bx F G H p l) (no : ∀ i, ¬ Own ρ σ i p)
    (rk : Rep K bx.adr G y k) (rd : Rep K bx.adr G v d) (h : dputD l k d Q) : ∃ H' l', DPut H p y v H' ∧ Q l' ∧ Stt K bx F ρ σ G H' ∧ Sole K bx F G H' p l' := by
  obtain ⟨t, gp, fp, bp⟩ := so
  unfold dputD at h
  split at h
  · obtain ⟨j, ej, hl, q⟩ := h
    obtain ⟨rfl, ok⟩ := view_key (H := H) (.inl rk) ej
    cases t with
    | dik hp r =>
      have hl' := r.length
      exact ⟨_, _, DPut.k hp (by omega), q, sole_upd st gp fp bp no, .dik upd_same (r.put ok rd), gp, fp, bp⟩
  · obtain ⟨j, ej, hl, q⟩ := h
    cases rk with
    | tup hb r0 =>
      obtain ⟨rfl, ok⟩ := repL_keys r0 ej
      cases t with
      | dit hp r =>
        have hl' := r.length
        exact ⟨_, _, DPut.t hp (st.gs _ _ hb) (by omega), q, sole_upd st gp fp bp no, .dit upd_same (r.put ok rd), gp, fp, bp⟩
  · exact h.elim
theorem puts_run {F G : Hp} {ρ : Env3} {p : Addr} (hu : (tupleKind (mixKind X.prog X.w)).room A) : ∀ {kvs : List (D × D)} {vs : List (V × V)} {us : List (Value × Value)} {s : Shared} {H : Hp} {d : D} {Q : D → Prop} {R : PUnit → Shared → Prop},
    Inv X pins σ H s → Stt X.K bx F ρ σ G H → Sole X.K bx F G H p d → (∀ i, ¬ Own ρ σ i p) → RepP X.K bx.adr G vs kvs → VV vs us → putsD kvs d Q →
    (∀ d' H' s', Q d' → Inv X pins σ H' s' → Stt X.K bx F ρ σ G H' → Sole X.K bx F G H' p d' → R PUnit.unit s') →
    wpAny (model X.prog X.w) A (forIn us PUnit.unit fun (x : Value × Value) (_ : PUnit) => (do dictSet p x.1 x.2; pure (ForInStep.yield PUnit.unit) : Sem (ForInStep PUnit))) R E s := by
  intro kvs
  induction kvs with
  | nil =>
    intro vs us s H d Q R I st so no rp rv h hR
    cases rp
    cases rv
    rw [List.forIn_nil]
    exact wpAny_pure (hR d H s h I st so)
  | cons kv kvs ih =>
    obtain ⟨k, e⟩ := kv
    intro vs us s H d Q R I st so no rp rv h hR
    cases rp with
    | cons a b rp =>
      cases rv with
      | cons r1 rv =>
        obtain ⟨H', l', hp, q, st1, so1⟩ := dput_new st so no a b h
        rw [List.forIn_cons]
        refine wpAny_bind (wpAny_bind (d_dictSet hu I hp r1.1 r1.2 fun s1 I1 => wpAny_pure ?_))
        exact ih I1 st1 so1 no rp rv q hR
end
section
variable {X : Cx} {bx : Bx} {pos : Pos} {keys : List (Option Expr)} {values : List Expr} {f : WPs}
theorem e_disp (T : Bool) (hu : X.A.units + 64 < cLine) (h : P3 X bx keys values f) (hall : keys.all (·.isSome) = true := by rfl) (hl : keys.length = values.length := by rfl) (h0 : keys ≠ [] := by exact fun z => nomatch z) (h15 : keys.length ≤ 15 := by decide) : E3 X bx (.Dict keys values pos) (wDisp T f) := by
  refine ⟨⟨fun pins s σ H Q I ⟨F, ρ, G, P, st, hf, hQ⟩ => ?_⟩⟩
  have hn := pairTrees_length keys values X.env pos hall hl
  have hne : pairTrees keys values X.env pos ≠ [] := fun he => by
    rw [he] at hn
    exact h0 (List.length_eq_zero_iff.mp hn.symm)
  rw [arm_eval_Dict, zip_pairTrees keys values X.env pos hall hl, dictDisplay_pairs _ hne (by omega)]
  refine wpAny_bind (wpAny_standAt (wpAny_bind ?_))
  unfold subDict
  refine wpAny_bind (wpAny_alloc ?_)
  refine wpAny_bind (wpAny_holding ?_)
  rw [if_pos (by rw [hn]; exact h15)]
  have hp0 := I.hok.fresh (Nat.le_refl s.heap.objs.size)
  have hI : ∃ o : HO, Inv X pins σ (upd H s.heap.objs.size o) { s with heap := s.heap.push { cls := .type "dict", data := .dict #[] } } ∧ Top X.K bx.adr G (upd H s.heap.objs.size o) s.heap.objs.size (emp T) ∧ Mut (some o) := by
    cases T with
    | true => exact ⟨.dT [], I.laid (a := s.heap.objs.size) (o := .dT []) (t' := s.toks) (fun _ _ q => Heap.get?_push_of_some _ q) (Nat.le_refl _) (dt_empty s.heap I.big), .dit upd_same .nil, True.intro⟩
    | false => exact ⟨.dK [], I.laid (a := s.heap.objs.size) (o := .dK []) (t' := s.toks) (fun _ _ q => Heap.get?_push_of_some _ q) (Nat.le_refl _) (dk_empty s.heap I.big), .dik upd_same .nil, True.intro⟩
  obtain ⟨o, I1, t1, _⟩ := hI
  have st1 : Stt X.K bx F ρ σ G (upd H s.heap.objs.size o) := st.alloc hp0
  have rr1 : RepR X.K bx F ρ σ G (upd H s.heap.objs.size o) (.new (emp T)) (.ref s.heap.objs.size) := ⟨_, rfl, ⟨t1, st.nG hp0, st.nF hp0, st.nfp hp0⟩, st.notown hp0⟩
  refine wpAny_bind (thn (h.run pos pins _ σ _ (fun vs H' => ∃ kvs ρ' G', putsD kvs (emp T) (fun d => P (.new d) ρ') ∧ Same G G' ∧ Stt X.K bx (pend F (upd H s.heap.objs.size o) (.new (emp T)) (.ref s.heap.objs.size)) ρ' σ G' H' ∧ RepP X.K bx.adr G' vs kvs) I1 ⟨_, ρ, G, _, pend_st st1 rr1, hf, fun kvs ρ' vs G' H' h1 h2 h3 h4 => ⟨kvs, ρ', G', h1, h2, h3, h4⟩⟩) fun us s2 ⟨vs, H2, I2, rv, kvs, ρ2, G2, h2, g2, st2, rp⟩ => ?_)
  obtain ⟨st3, rr3⟩ := pend_back st1 rr1 g2 st2
  obtain ⟨q, eq, so, no⟩ := rr3
  cases eq
  refine wpAny_holding ?_
  refine wpAny_bind (puts_run (A := X.A) (by show X.A.units < cLine; omega) I2 st3 so no rp rv h2 fun d' H' s' hd I' st' so' => ?_)
  refine wpAny_pure (wpAny_pure (wpAny_pure ?_))
  exact ⟨.ref s.heap.objs.size, H', I', rfl, hQ (.new d') ρ2 _ G2 H' hd g2 st' ⟨_, rfl, so', no⟩⟩
end
end L2.W3

/-! W4, part k: dict(list of pairs). -/
namespace L2.W3
open PySem PySem.Spec PyProof.Rows
/-- pairs of keys and values -/
def pairsK : List D → Option (List (Key × D))
  | [] => some []
  | .tup [k, v] :: l => match asKey k, pairsK l with
    | some j, some r => some ((j, v) :: r)
    | _, _ => none
  | _ :: _ => none
def mergeG (kvs more : List (Key × D)) : List (Key × D) := more.foldl (fun acc kv => putG acc kv.1 kv.2) kvs
section
variable {K : PySem.W.Frag} {B : Addr} {G H : Hp}
theorem RepK.merge : ∀ {ws : List (Key × V)} {es : List (Key × D)} {vs : List (Key × V)} {ds : List (Key × D)}, RepK K B G vs ds → RepK K B G ws es → RepK K B G (mergeK vs ws) (mergeG ds es)
  | _, _, _, _, h, .nil => h
  | _, _, vs, ds, h, .cons (k := k) (v := v) (d := d) (vs := ws) (ds := es) o a r => by
    show RepK K B G (mergeK (putK vs k v) ws) (mergeG (putG ds k d) es)
    exact RepK.merge (h.put o a) r
theorem pairs_rep (g : Same G H) : ∀ {l : List D} {vs : List V} {kvs : List (Key × D)}, RepL K B G vs l → pairsK l = some kvs → ∃ (ps : List Addr) (kv : List (Key × V)), vs = ps.map V.ref ∧ Paired (fun p (kv : Key × V) => SqT K H p [kV kv.1, kv.2]) ps kv ∧ RepK K B G kv kvs := by
  intro l
  induction l with
  | nil =>
    intro vs kvs r e
    cases r
    cases e
    exact ⟨[], [], rfl, .nil, .nil⟩
  | cons d l ih =>
    intro vs kvs r e
    cases r with
    | cons a r =>
      unfold pairsK at e
      split at e
      · rename_i heq; cases heq
      · rename_i k v l2 heq
        cases heq
        split at e
        · rename_i j rr e1 e2
          cases e
          obtain ⟨ps, kv, rfl, hp, hr⟩ := ih r e2
          cases a with
          | tup hb rl =>
            cases rl with
            | cons a1 rl =>
              cases rl with
              | cons a2 rl =>
                cases rl
                obtain ⟨rfl, ok⟩ := view_key (H := H) (.inl a1) e1
                exact ⟨_ :: ps, (j, _) :: kv, rfl, .cons (.inl (.inl (g _ _ hb))) hp, .cons ok a2 hr⟩
        · cases e
      · cases e
end
/-- dict(list of pairs) -/
def dictD : UOp := fun d P => ∃ l kvs, d = .lst l ∧ pairsK l = some kvs ∧ P (.new (.dik (mergeG [] kvs)))
theorem c_dict {X : Cx} {bx : Bx} (hc : X.calm = true) : Call1 X bx (.type "dict") dictD := by
  rintro pins s σ H xs us Q I r ⟨v, rfl, G, d, P, g, v1, ⟨l, kvs, rfl, e, h⟩, R⟩
  obtain ⟨a, vs, rfl, s1, r1⟩ := view_lst g v1
  obtain ⟨ps, kv, rfl, hp, hr⟩ := pairs_rep g r1 e
  exact call_dictP hc pins s σ H _ us Q I r ⟨a, ps, kv, rfl, .inl (.inl s1), hp, fun p hn => R.dik _ _ p h hn (RepK.merge .nil hr)⟩
end L2.W3

/-! W4, part l: xs[k] as a target. -/
namespace L2.W3
open PySem PySem.Spec PyProof.Rows
section
variable {X : Cx} {bx : Bx} {b : Expr} {fb : WE} {x : Str}
/-- the target xs[k] -/
def wGIx (i : Nat) (fk : WE) : WG := fun d ρ Q => onLst i ρ fun _ => fk ρ fun rk ρ1 => pk rk ρ1 fun k => asI k fun k => onLst i ρ1 fun l => ∃ j, ixN l.length k = some j ∧ Q (ρ1.set i (.own (.lst (l.set j d))))
theorem g_putIx (i : Nat) {npos tpos : Pos} (hk : E3 X bx b fb) (hi : X.N[i]? = some x := by rfl) (hv : Vis X.env.scope x := by first | exact Or.inl rfl | exact Or.inr (Or.inl rfl) | exact Or.inr (Or.inr rfl)) (hd : (x == ("__debug__" : Str)) = false := by decide) (hcd : (x == ("__classdict__" : Str)) = false := by decide)
    (has : ∀ v, assign (.Subscript (.Name x npos) b tpos) X.env v = (do
      let ov ← holding [v] (eval (.Name x npos) X.env)
      let iv ← holding [v, ov] (eval b X.env)
      standAt tpos
      holding [v, ov, iv] (setItem ov iv v)
      release [v, ov, iv] []) := by intro _; rfl) :
    G3 X bx (.Subscript (.Name x npos) b tpos) [] (wGIx i fb) := by
  refine ⟨PG.weaken (pg_sub (pv i hi hv hd hcd) hk.pe set_list has) fun v σ H Q ⟨F, ρ, G, d, P, st, r, h, hQ⟩ => ?_⟩
  obtain ⟨l, p, vs, h, eo, e1, hp, rl⟩ := own_lst st h
  refine ⟨_, e1, F, ρ, G, _, st, h, fun rk ρ3 w G3 H3 h3 g3 st3 rr3 => ?_⟩
  obtain ⟨k, h4, vk⟩ := pk_ok st3 rr3 h3
  cases k <;> first
    | exact (show False from h4).elim
    | skip
  rename_i k
  obtain rfl := view_int vk
  have h4 : onLst i ρ3 fun l => ∃ j, ixN l.length k = some j ∧ P (ρ3.set i (.own (.lst (l.set j d)))) := h4
  obtain ⟨l2, q, vs2, h5, eo2, e3, hq, r2⟩ := own_lst st3 h4
  rw [e1] at e3; cases e3
  obtain ⟨j, ej, h5⟩ := h5
  refine ⟨p, vs2, k, j, rfl, rfl, hq, by rw [r2.length]; exact ej, ?_⟩
  exact hQ _ _ _ _ h5 g3 (own_write st3 eo2 e1 (r2.set j (r.mono g3))) (But.refl _ _)
end
end L2.W3

/-! W4, part m: str(x) where it is never reached (no condition can use it). -/
namespace L2.W3
open PySem PySem.Spec PyProof.Rows
section
variable {X : Cx} {bx : Bx}
def strD : UOp := fun _ _ => False
theorem c_strI : Call1 X bx (.type "str") strD := by
  rintro pins s σ H xs us Q I r ⟨v, rfl, G, d, P, g, v1, h, R⟩
  exact h.elim
end
end L2.W3

/-! W4, part c: comprehensions by an invariant over the slots. -/
namespace L2.W3
open PySem PySem.Spec PyProof.Rows
theorem lcGo_inv {g : WG} {tt : WTs} {te : WE} {vs : List Nat} {items : List D} (I : Nat → Env3 → List D → Prop) {T : List D → Env3 → Prop}
    (turn : ∀ i d ρ acc, items[i]? = some d → I i ρ acc → ∀ K : Env3 → List D → Prop, (∀ ρ' acc', I (i + 1) ρ' acc' → K ρ' acc') → g d (wipeE ρ vs) fun ρ1 => tt ρ1 fun b ρ2 => if b = true then te ρ2 fun rr ρ3 => fz rr ρ3 fun y ρ4 => acc.length < sizeLine ∧ K ρ4 (acc ++ [y]) else K ρ2 acc)
    (fin : ∀ ρ acc, I items.length ρ acc → T acc ρ) : ∀ (r : List D) (i : Nat) (ρ : Env3) (acc : List D), items.drop i = r → I i ρ acc → i ≤ items.length → lcGo g tt te vs r ρ acc T
  | [], i, ρ, acc, hr, h, hi => by
    have : i = items.length := by
      have := congrArg List.length hr
      rw [List.length_drop, List.length_nil] at this
      omega
    subst this
    exact fin ρ acc h
  | d :: r, i, ρ, acc, hr, h, hi => by
    have hlt : i < items.length := by
      have := congrArg List.length hr
      rw [List.length_drop, List.length_cons] at this
      omega
    rw [List.drop_eq_getElem_cons hlt] at hr
    injection hr with h1 h2
    rw [lcGo]
    exact turn i d ρ acc (by rw [List.getElem?_eq_getElem hlt, h1]) h (fun ρ' acc' => lcGo g tt te vs r ρ' acc' T) fun ρ' acc' h' => lcGo_inv I turn fin r (i + 1) ρ' acc' h2 h' (by omega)
/-- a comprehension by an invariant: before turn i the slots are ρ, the list is acc -/
theorem lcI {g : WG} {tt : WTs} {te : WE} {vs : List Nat} {items : List D} {ρ0 : Env3} {T : List D → Env3 → Prop} (I : Nat → Env3 → List D → Prop) (h0 : I 0 ρ0 [])
    (turn : ∀ i d ρ acc, items[i]? = some d → I i ρ acc → ∀ K : Env3 → List D → Prop, (∀ ρ' acc', I (i + 1) ρ' acc' → K ρ' acc') → g d (wipeE ρ vs) fun ρ1 => tt ρ1 fun b ρ2 => if b = true then te ρ2 fun rr ρ3 => fz rr ρ3 fun y ρ4 => acc.length < sizeLine ∧ K ρ4 (acc ++ [y]) else K ρ2 acc)
    (fin : ∀ ρ acc, I items.length ρ acc → T acc (backE (wipeE ρ vs) ρ0 vs)) : lcRun g tt te vs items ρ0 T :=
  lcGo_inv (T := fun acc ρ2 => T acc (backE (wipeE ρ2 vs) ρ0 vs)) I turn fin items 0 ρ0 [] rfl h0 (Nat.zero_le _)
end L2.W3

/-! W4, part i: conditions of comprehensions with two fors. -/
namespace L2.W3
open PySem PySem.Spec PyProof.Rows
theorem lc2Go_map {α β : Type} {enc : α → D} {ys : α → List β} {enc1 : α → β → D} {p : α → Bool} {p1 : α → β → Bool} {f : α → β → D} {e : α → Env3} {e1 : α → β → Env3} {g : WG} {tt : WTs} {fi1 : WI} {g1 : WG} {tt1 : WTs} {te : WE} {vs vs1 : List Nat} {ρw : Env3}
    (hv : ∀ j ∈ vs1, j ∈ vs) (hw : ∀ x, wipeE (e x) vs = ρw) (hw0 : ∀ x, wipeE (e x) vs1 = e x) (hw1 : ∀ x y, wipeE (e1 x y) vs1 = e x) (hg : ∀ x k, k (e x) → g (enc x) ρw k) (hg1 : ∀ x y k, k (e1 x y) → g1 (enc1 x y) (e x) k) :
    ∀ (xs : List α) (ρ : Env3) (acc : List D) (Q : List D → Env3 → Prop), wipeE ρ vs = ρw → acc.length + (xs.map fun x => (ys x).length).sum ≤ sizeLine →
      (∀ x ∈ xs, ∀ k, k (p x) (e x) → tt (e x) k) → (∀ x ∈ xs, p x = true → ∀ k, k ((ys x).map (enc1 x)) (e x) → fi1 (e x) k) →
      (∀ x ∈ xs, ∀ y ∈ ys x, ∀ k, k (p1 x y) (e1 x y) → tt1 (e1 x y) k) → (∀ x ∈ xs, ∀ y ∈ ys x, p1 x y = true → ∀ k, k (.val (f x y)) (e1 x y) → te (e1 x y) k) →
      (∀ ρ', wipeE ρ' vs = ρw → Q (acc ++ ((xs.filter p).map fun x => ((ys x).filter (p1 x)).map (f x)).flatten) ρ') → lc2Go g tt fi1 g1 tt1 te vs vs1 (xs.map enc) ρ acc Q
  | [], ρ, acc, Q, h, hl, ht, hi, ht1, he, hQ => by
    have := hQ ρ h
    rw [List.filter_nil, List.map_nil, List.flatten_nil, List.append_nil] at this
    exact this
  | x :: xs, ρ, acc, Q, h, hl, ht, hi, ht1, he, hQ => by
    rw [List.map_cons, List.sum_cons] at hl
    rw [List.map_cons, lc2Go, h]
    refine hg x _ (ht x List.mem_cons_self _ ?_)
    by_cases hp : p x = true
    · rw [if_pos hp]
      refine hi x List.mem_cons_self hp _ ?_
      refine lcGo_map (e := e1 x) (p := p1 x) (f := f x) (ρw := e x) (fun y => hw1 x y) (fun y k hk => hg1 x y k hk) (ys x) (e x) acc _ (hw0 x) (by omega) (fun y hy => ht1 x List.mem_cons_self y hy) (fun y hy => he x List.mem_cons_self y hy) fun ρ' hρ => ?_
      have hρ2 : wipeE ρ' vs = ρw := by rw [← wipeE_twice hv, hρ, hw]
      have hfl := List.length_filter_le (p1 x) (ys x)
      refine lc2Go_map hv hw hw0 hw1 hg hg1 xs ρ' _ Q hρ2 (by rw [List.length_append, List.length_map]; omega) (fun z hz => ht z (List.mem_cons_of_mem _ hz)) (fun z hz => hi z (List.mem_cons_of_mem _ hz)) (fun z hz => ht1 z (List.mem_cons_of_mem _ hz)) (fun z hz => he z (List.mem_cons_of_mem _ hz)) fun ρ'' h'' => ?_
      have := hQ ρ'' h''
      rw [List.filter_cons_of_pos hp, List.map_cons, List.flatten_cons, ← List.append_assoc] at this
      exact this
    · rw [if_neg hp]
      refine lc2Go_map hv hw hw0 hw1 hg hg1 xs (e x) acc Q (hw x) (by omega) (fun z hz => ht z (List.mem_cons_of_mem _ hz)) (fun z hz => hi z (List.mem_cons_of_mem _ hz)) (fun z hz => ht1 z (List.mem_cons_of_mem _ hz)) (fun z hz => he z (List.mem_cons_of_mem _ hz)) fun ρ'' h'' => ?_
      have := hQ ρ'' h''
      rw [List.filter_cons_of_neg hp] at this
      exact this
/-- [f x y for x in xs if p x for y in ys x if p1 x y], targets in slots i and j -/
theorem lc2N {α β : Type} {xs : List α} {i j : Nat} {tt tt1 : WTs} {fi1 : WI} {te : WE} {ρ : Env3} {T : List D → Env3 → Prop} (enc : α → D) (ys : α → List β) (enc1 : α → β → D) (p : α → Bool) (p1 : α → β → Bool) (f : α → β → D)
    (hij : i ≠ j) (hi : i < ρ.length) (hj : j < ρ.length) (hl : (xs.map fun x => (ys x).length).sum ≤ sizeLine)
    (ht : ∀ x ∈ xs, ∀ k, k (p x) (((ρ.set j .un).set i .un).set i (.val (enc x))) → tt (((ρ.set j .un).set i .un).set i (.val (enc x))) k)
    (hy : ∀ x ∈ xs, p x = true → ∀ k, k ((ys x).map (enc1 x)) (((ρ.set j .un).set i .un).set i (.val (enc x))) → fi1 (((ρ.set j .un).set i .un).set i (.val (enc x))) k)
    (ht1 : ∀ x ∈ xs, ∀ y ∈ ys x, ∀ k, k (p1 x y) ((((ρ.set j .un).set i .un).set i (.val (enc x))).set j (.val (enc1 x y))) → tt1 ((((ρ.set j .un).set i .un).set i (.val (enc x))).set j (.val (enc1 x y))) k)
    (he : ∀ x ∈ xs, ∀ y ∈ ys x, p1 x y = true → ∀ k, k (.val (f x y)) ((((ρ.set j .un).set i .un).set i (.val (enc x))).set j (.val (enc1 x y))) → te ((((ρ.set j .un).set i .un).set i (.val (enc x))).set j (.val (enc1 x y))) k)
    (hQ : T (((xs.filter p).map fun x => ((ys x).filter (p1 x)).map (f x)).flatten) ((ρ.set j (keptE (ρ.getD j .un))).set i (keptE (ρ.getD i .un)))) : lc2Run (wName i) tt fi1 (wName j) tt1 te [i, j] [j] (xs.map enc) ρ T := by
  have hji : j ≠ i := fun h => hij h.symm
  refine lc2Go_map (e := fun x => ((ρ.set j .un).set i .un).set i (.val (enc x))) (e1 := fun x y => (((ρ.set j .un).set i .un).set i (.val (enc x))).set j (.val (enc1 x y))) (p := p) (p1 := p1) (f := f) (ρw := (ρ.set j .un).set i .un) (vs := [i, j]) (vs1 := [j])
    (fun z hz => by rw [List.mem_singleton] at hz; subst hz; simp) (fun x => ?_) (fun x => ?_) (fun x y => ?_) (fun x k h => ⟨by simpa using hi, h⟩) (fun x y k h => ⟨by simpa using hj, h⟩) xs ρ [] _ rfl (by simpa using hl) ht hy ht1 he fun ρ' h' => ?_
  · show ((((ρ.set j .un).set i .un).set i (.val (enc x))).set j .un).set i .un = _
    rw [List.set_set, List.set_comm _ _ hij, List.set_set, List.set_set]
  · show (((ρ.set j .un).set i .un).set i (.val (enc x))).set j .un = _
    rw [List.set_set, List.set_comm _ _ hij, List.set_set]
  · show ((((ρ.set j .un).set i .un).set i (.val (enc x))).set j (.val (enc1 x y))).set j .un = _
    rw [List.set_set, List.set_set, List.set_comm _ _ hij, List.set_set]
  · rw [h', List.nil_append]
    show T _ ((((ρ.set j .un).set i .un).set j _).set i _)
    rw [List.set_comm _ _ hij, List.set_set, List.set_set]
    exact hQ
end L2.W3

/-! W4, part j: s.find(t), s.index(t), s.startswith(t). -/
namespace L2.W3
open PySem PySem.Spec PyProof.Rows
theorem find3_zero (s t : Str) : Txt.find3 s t (0 : Nat) = Txt.find s t := by
  unfold Txt.find3 Txt.find
  have hf : fromIndex s.length ((0 : Nat) : Int) = 0 := by
    unfold fromIndex
    rw [if_neg (by omega)]
    omega
  rw [hf]
  cases Builtin.Str.occurrences s t 0 s.length 1 <;> rfl
theorem find_eq (s t : List Nat) (ht : t ≠ []) : Txt.find ⟨s.toArray⟩ ⟨t.toArray⟩ = findFrom s t 0 := by
  rw [← find3_zero]; exact find3_eq s t 0 ht
/-- s.find(t) -/
def findS : DOp
  | .str s, .str t, P => t ≠ [] ∧ P (.val (.int (findFrom s t 0)))
  | _, _, _ => False
/-- s.index(t): t stands in s -/
def indexD : DOp
  | .str s, .str t, P => t ≠ [] ∧ ∃ k : Nat, findFrom s t 0 = (k : Int) ∧ P (.val (.int (k : Int)))
  | _, _, _ => False
def startsD : DOp
  | .str s, .str t, P => P (.val (.bl (s.take t.length == t)))
  | _, _, _ => False
section
variable {X : Cx} {bx : Bx} {a b : Expr} {fa fb : WE}
theorem op_find {pins : List (Addr × Obj)} {s : Shared} {σ : L2.St} {H : Hp} {x y : V} {v u : Value} {Q : VK} (I : Inv X pins σ H s) (rx : RelV x v) (ry : RelV y u) (h : rD X.K bx findS x y H Q) : wpAny (model X.prog X.w) X.A (call (.builtin "str.find") [v, u]) (EP X pins σ Q) X.xe s := by
  obtain ⟨G, d1, d2, P, g, v1, v2, h, R⟩ := h
  unfold findS at h
  split at h
  · obtain ⟨ht, h⟩ := h
    obtain ⟨rfl, ok1⟩ := view_str v1
    obtain ⟨rfl, ok2⟩ := view_str v2
    refine mt_find pins s σ H _ [_] v [u] Q I rx (.cons ry .nil) ⟨_, _, rfl, rfl, ?_⟩
    rw [find_eq _ _ ht]
    exact R.val _ _ h (.int _)
  · exact h.elim
theorem occ_of {s t : List Nat} {k : Nat} (h : Txt.find ⟨s.toArray⟩ ⟨t.toArray⟩ = (k : Int)) : ∃ rest, Builtin.Str.occurrences ⟨s.toArray⟩ ⟨t.toArray⟩ 0 (⟨s.toArray⟩ : Str).length 1 = k :: rest := by
  unfold Txt.find at h
  split at h
  · rename_i i rest e
    have : i = k := by omega
    subst this
    exact ⟨rest, e⟩
  · omega
theorem op_index {pins : List (Addr × Obj)} {s : Shared} {σ : L2.St} {H : Hp} {x y : V} {v u : Value} {Q : VK} (I : Inv X pins σ H s) (rx : RelV x v) (ry : RelV y u) (h : rD X.K bx indexD x y H Q) : wpAny (model X.prog X.w) X.A (call (.builtin "str.index") [v, u]) (EP X pins σ Q) X.xe s := by
  obtain ⟨G, d1, d2, P, g, v1, v2, h, R⟩ := h
  unfold indexD at h
  split at h
  · obtain ⟨ht, k, e, h⟩ := h
    obtain ⟨rfl, ok1⟩ := view_str v1
    obtain ⟨rfl, ok2⟩ := view_str v2
    obtain ⟨rest, e2⟩ := occ_of ((find_eq _ _ ht).trans e)
    exact mt_sindex pins s σ H _ [_] v [u] Q I rx (.cons ry .nil) ⟨_, _, k, rest, rfl, rfl, e2, R.val _ _ h (.int _)⟩
  · exact h.elim
theorem starts_eq (s t : List Nat) : Txt.startswith ⟨s.toArray⟩ ⟨t.toArray⟩ = (s.take t.length == t) := by
  unfold Txt.startswith
  rw [StrLaws.subAt_eq]
  have e1 : TL.tl ⟨s.toArray⟩ = s := by simp [TL.tl]
  have e2 : TL.tl ⟨t.toArray⟩ = t := by simp [TL.tl]
  rw [str_len, str_len]
  cases h : (s.take t.length == t) with
  | true =>
    have e := eq_of_beq h
    have hl := congrArg List.length e
    rw [List.length_take] at hl
    rw [Bool.and_eq_true, decide_eq_true_eq]
    refine ⟨by omega, ?_⟩
    simpa [e1, e2, TL.pre] using h
  | false =>
    rw [Bool.and_eq_false_iff]
    refine .inr ?_
    simpa [e1, e2, TL.pre] using h
theorem op_starts {pins : List (Addr × Obj)} {s : Shared} {σ : L2.St} {H : Hp} {x y : V} {v u : Value} {Q : VK} (I : Inv X pins σ H s) (rx : RelV x v) (ry : RelV y u) (h : rD X.K bx startsD x y H Q) : wpAny (model X.prog X.w) X.A (call (.builtin "str.startswith") [v, u]) (EP X pins σ Q) X.xe s := by
  obtain ⟨G, d1, d2, P, g, v1, v2, h, R⟩ := h
  unfold startsD at h
  split at h
  · obtain ⟨rfl, ok1⟩ := view_str v1
    obtain ⟨rfl, ok2⟩ := view_str v2
    refine mt_startswith pins s σ H _ [_] v [u] Q I rx (.cons ry .nil) ⟨_, _, rfl, rfl, ?_⟩
    rw [starts_eq]
    exact R.val _ _ h (.bl _)
  · exact h.elim
variable {apos cpos : Pos}
theorem e_find1 (ha : E3 X bx a fa) (hb : E3 X bx b fb)
    (hbase : attributeBase a "find" X.env (eval a X.env) = eval a X.env := by rfl) (hfew : ((backTo cpos (starEach [b] X.env)).all (fun x => !x.1) && (backToKw cpos (keywordEach [] X.env)).all (fun x => x.1.isSome) && decide ([b].length + ([] : List Keyword).length + (if ([] : List Keyword).isEmpty then 0 else 1) < 30)) = true := by rfl)
    (hline : (apos.endLine == cpos.line) = true := by rfl) (hs : starEach [b] X.env = (false, eval b X.env) :: starEach [] X.env := by rfl) : E3 X bx (.Call (.Attribute a "find" apos) [b] [] cpos) (wStrM findS fa fb) :=
  e_strM1 PySem.F.slot_str_find PySem.F.type_str_find (fun pins s σ H x y v u Q I rx ry h => op_find I rx ry h) ha hb hbase hfew hline hs
theorem e_index (ha : E3 X bx a fa) (hb : E3 X bx b fb)
    (hbase : attributeBase a "index" X.env (eval a X.env) = eval a X.env := by rfl) (hfew : ((backTo cpos (starEach [b] X.env)).all (fun x => !x.1) && (backToKw cpos (keywordEach [] X.env)).all (fun x => x.1.isSome) && decide ([b].length + ([] : List Keyword).length + (if ([] : List Keyword).isEmpty then 0 else 1) < 30)) = true := by rfl)
    (hline : (apos.endLine == cpos.line) = true := by rfl) (hs : starEach [b] X.env = (false, eval b X.env) :: starEach [] X.env := by rfl) : E3 X bx (.Call (.Attribute a "index" apos) [b] [] cpos) (wStrM indexD fa fb) :=
  e_strM1 PySem.F.slot_str_index PySem.F.type_str_index (fun pins s σ H x y v u Q I rx ry h => op_index I rx ry h) ha hb hbase hfew hline hs
theorem e_starts (ha : E3 X bx a fa) (hb : E3 X bx b fb)
    (hbase : attributeBase a "startswith" X.env (eval a X.env) = eval a X.env := by rfl) (hfew : ((backTo cpos (starEach [b] X.env)).all (fun x => !x.1) && (backToKw cpos (keywordEach [] X.env)).all (fun x => x.1.isSome) && decide ([b].length + ([] : List Keyword).length + (if ([] : List Keyword).isEmpty then 0 else 1) < 30)) = true := by rfl)
    (hline : (apos.endLine == cpos.line) = true := by rfl) (hs : starEach [b] X.env = (false, eval b X.env) :: starEach [] X.env := by rfl) : E3 X bx (.Call (.Attribute a "startswith" apos) [b] [] cpos) (wStrM startsD fa fb) :=
  e_strM1 PySem.F.slot_str_startswith PySem.F.type_str_startswith (fun pins s σ H x y v u Q I rx ry h => op_starts I rx ry h) ha hb hbase hfew hline hs
end
/-- a sign's first place -/
theorem find_chr {s : List Nat} {c k : Nat} (hk : s[k]? = some c) (hno : ∀ j, j < k → s[j]? ≠ some c) : findFrom s [c] 0 = (k : Int) := by
  have hl : k < s.length := (List.getElem?_eq_some_iff.mp hk).1
  have hst : ∀ j, j < s.length → (stands [c] s j = true ↔ s[j]? = some c) := by
    intro j hj
    unfold stands
    rw [List.drop_eq_getElem_cons hj, List.getElem?_eq_getElem hj]
    show (List.take 1 (s[j] :: List.drop (j + 1) s) == [c]) = true ↔ _
    rw [List.take_succ_cons, List.take_zero]
    simp
  unfold findFrom
  rw [filter_head (i := k) (by omega) (by rw [Bool.and_eq_true, decide_eq_true_eq]; exact ⟨Nat.zero_le _, (hst k hl).mpr hk⟩) (fun j hj => ?_)]
  cases h : stands [c] s j with
  | false => simp
  | true => exact absurd ((hst j (by omega)).mp h) (hno j hj)
end L2.W3

/-! Words: a^i b^j = c^k. -/
namespace L2.W3

/-- copies -/
def pw (v : List Nat) (n : Nat) : List Nat := (List.replicate n v).flatten
theorem pw_len (v : List Nat) (n : Nat) : (pw v n).length = n * v.length := flatten_len v n
theorem pw_zero (v : List Nat) : pw v 0 = [] := rfl
theorem pw_one (v : List Nat) : pw v 1 = v := by unfold pw; simp
theorem pw_succ (v : List Nat) (n : Nat) : pw v (n + 1) = v ++ pw v n := by unfold pw; rw [List.replicate_succ, List.flatten_cons]
theorem pw_succ' (v : List Nat) (n : Nat) : pw v (n + 1) = pw v n ++ v := by
  unfold pw
  rw [List.replicate_succ', List.flatten_append]; simp
theorem pw_add (v : List Nat) (m n : Nat) : pw v (m + n) = pw v m ++ pw v n := by
  unfold pw; rw [← List.flatten_append, List.replicate_append_replicate]
theorem pw_cyc {v : List Nat} {n : Nat} (h : 1 ≤ n) : cyc (pw v n) = cyc v := cyc_rep h
theorem pw_ne {v : List Nat} {n : Nat} (hv : v ≠ []) (h : 1 ≤ n) : pw v n ≠ [] := by
  intro e
  have := pw_len v n
  rw [e] at this
  have h1 : 0 < v.length := List.length_pos_iff.mpr hv
  have := Nat.mul_pos h h1
  simp at *; omega
theorem pw_rev (v : List Nat) : ∀ n, (pw v n).reverse = pw v.reverse n
  | 0 => rfl
  | n + 1 => by rw [pw_succ, List.reverse_append, pw_rev v n, pw_succ']
/-- words of one root commute -/
theorem cyc_comm {x y : List Nat} (h : cyc x = cyc y) : x ++ y = y ++ x := by
  have c1 := cyc_append h
  have c2 := cyc_append h.symm
  exact ext_cyc (by rw [List.length_append, List.length_append, Nat.add_comm]) fun i _ => by rw [c1, c2, h]
theorem comm_cyc' {x y : List Nat} (hx : x ≠ []) (hy : y ≠ []) (h : x ++ y = y ++ x) : cyc x = cyc y := comm_cyc _ (Nat.le_refl _) hx hy h
/-- two words that are the same for long have one root -/
theorem cyc_long {a c : List Nat} (ha : a ≠ []) (hc : c ≠ []) (h : ∀ i, i < a.length + c.length → cyc a i = cyc c i) : cyc a = cyc c := by
  have hp : 0 < a.length := List.length_pos_iff.mpr ha
  have hq : 0 < c.length := List.length_pos_iff.mpr hc
  have p1 : PerOn (cyc a) (a.length + c.length) a.length := fun i _ => cyc_per a i
  have p2 : PerOn (cyc a) (a.length + c.length) c.length := fun i hi => by rw [h _ hi, h i (by omega), cyc_per c i]
  have fw := fine_wilf _ (Nat.le_refl _) hp hq (by omega) p1 p2
  have g1 : Nat.gcd a.length c.length ∣ a.length := Nat.gcd_dvd_left ..
  have g2 : Nat.gcd a.length c.length ∣ c.length := Nat.gcd_dvd_right ..
  funext i
  have m1 := Nat.mod_lt i hp
  have m2 := Nat.mod_lt i hq
  rw [← (cyc_per a).mod i, fw _ (by omega), Nat.mod_mod_of_dvd _ g1, ← (cyc_per c).mod i, ← h (i % c.length) (by omega), fw (i % c.length) (by omega), Nat.mod_mod_of_dvd _ g2]
/-- letters of copies -/
theorem pw_get {v : List Nat} {n i : Nat} (h : i < (pw v n).length) : (pw v n).getD i 0 = cyc v i := by
  have h0 : 1 ≤ n := by
    rcases Nat.eq_zero_or_pos n with e | e
    · subst e; simp [pw_zero] at h
    · exact e
  rw [← cyc_lt h, pw_cyc h0]
/-- a long begin decides -/
theorem ls_long {a b c : List Nat} {i j k : Nat} (ha : a ≠ []) (hb : b ≠ []) (hc : c ≠ []) (hi : 1 ≤ i) (hj : 1 ≤ j) (hk : 1 ≤ k) (e : pw a i ++ pw b j = pw c k) (h : c.length + a.length ≤ i * a.length) : cyc a = cyc b := by
  have hac : cyc a = cyc c := by
    refine cyc_long ha hc fun n hn => ?_
    have h1 : n < (pw a i).length := by rw [pw_len]; omega
    have h2 : n < (pw c k).length := by rw [← e, List.length_append]; omega
    rw [← pw_get h1, ← pw_get h2, ← e, getD_append, if_pos h1]
  have h1 : cyc (pw a i) = cyc (pw c k) := by rw [pw_cyc hi, pw_cyc hk, hac]
  have h2 := cyc_comm h1
  rw [← e, List.append_assoc] at h2
  have h3 : pw a i ++ pw b j = pw b j ++ pw a i := by
    have := List.append_cancel_left h2
    exact this
  have h4 := comm_cyc' (pw_ne ha hi) (pw_ne hb hj) h3
  rw [pw_cyc hi, pw_cyc hj] at h4
  exact h4
/-- if the first is of the root of the whole, so is the second -/
theorem ls_same {a b c : List Nat} {i j k : Nat} (ha : a ≠ []) (hb : b ≠ []) (hi : 1 ≤ i) (hj : 1 ≤ j) (hk : 1 ≤ k) (e : pw a i ++ pw b j = pw c k) (hac : cyc a = cyc c) : cyc a = cyc b := by
  have h1 : cyc (pw a i) = cyc (pw c k) := by rw [pw_cyc hi, pw_cyc hk, hac]
  have h2 := cyc_comm h1
  rw [← e, List.append_assoc] at h2
  have h3 : pw a i ++ pw b j = pw b j ++ pw a i := List.append_cancel_left h2
  have h4 := comm_cyc' (pw_ne ha hi) (pw_ne hb hj) h3
  rw [pw_cyc hi, pw_cyc hj] at h4
  exact h4
theorem cyc_rev {a b : List Nat} (ha : a ≠ []) (hb : b ≠ []) (h : cyc a.reverse = cyc b.reverse) : cyc a = cyc b := by
  have h1 := congrArg List.reverse (cyc_comm h)
  rw [List.reverse_append, List.reverse_append, List.reverse_reverse, List.reverse_reverse] at h1
  exact (comm_cyc' hb ha h1).symm
/-- X Y X and Y X Y -/
theorem ls_three {a b X Y : List Nat} {i j : Nat} (ha : a ≠ []) (hb : b ≠ []) (hX : X ≠ []) (hi : 2 ≤ i) (hj : 2 ≤ j) (e1 : pw a i = X ++ (Y ++ X)) (e2 : pw b j = Y ++ (X ++ Y)) (hl : Y.length ≤ X.length) (hs : i * a.length < X.length + Y.length + a.length) : cyc a = cyc (X ++ Y) := by
  have l1 : i * a.length = X.length + (Y.length + X.length) := by rw [← pw_len, e1, List.length_append, List.length_append]
  have l2 : j * b.length = Y.length + (X.length + Y.length) := by rw [← pw_len, e2, List.length_append, List.length_append]
  have pa : 0 < a.length := List.length_pos_iff.mpr ha
  have pb : 0 < b.length := List.length_pos_iff.mpr hb
  have pX : 0 < X.length := List.length_pos_iff.mpr hX
  have hi2 : i = 2 := by
    by_cases h3 : 3 ≤ i
    · have := Nat.mul_le_mul_right a.length h3
      omega
    · omega
  subst hi2
  rw [pw_succ, pw_one] at e1
  -- a = X p = q X, Y = p q
  have hXa : X.length ≤ a.length := by omega
  obtain ⟨p, hp⟩ : ∃ p, a = X ++ p := by
    have h1 : X <+: a ++ a := ⟨Y ++ X, e1.symm⟩
    obtain ⟨p, hp⟩ := List.prefix_of_prefix_length_le h1 (List.prefix_append a a) hXa
    exact ⟨p, hp.symm⟩
  obtain ⟨q, hq⟩ : ∃ q, a = q ++ X := by
    have h1 : X <:+ a ++ a := ⟨X ++ Y, by rw [List.append_assoc]; exact e1.symm⟩
    obtain ⟨q, hq⟩ := List.suffix_of_suffix_length_le h1 (List.suffix_append a a) hXa
    exact ⟨q, hq.symm⟩
  have hlp : a.length = X.length + p.length := by rw [hp, List.length_append]
  have hlq : a.length = q.length + X.length := by rw [hq, List.length_append]
  have hY : Y = p ++ q := by
    have h1 : X ++ (p ++ (q ++ X)) = X ++ (Y ++ X) := by rw [← e1, ← List.append_assoc, ← hp, ← hq]
    have h2 := List.append_cancel_left h1
    rw [← List.append_assoc] at h2
    exact (List.append_cancel_right h2).symm
  have hYl : Y.length = p.length + q.length := by rw [hY, List.length_append]
  by_cases hp0 : p = []
  · subst hp0
    have hq0 : q = [] := List.length_eq_zero_iff.mp (by simp at hlp; omega)
    subst hq0
    rw [hY, hp]
    simp
  have pp : 0 < p.length := List.length_pos_iff.mpr hp0
  -- W = q X p within copies of b
  have eW : pw b j = p ++ (a ++ p) ++ q := by
    rw [e2, hY, hq]; simp only [List.append_assoc]
  have eW2 : a ++ p = q ++ a := by
    conv => lhs; rw [hq, List.append_assoc, ← hp]
  have lW : (a ++ p).length = X.length + 2 * p.length := by rw [List.length_append]; omega
  have ltot : (pw b j).length = X.length + 4 * p.length := by rw [pw_len]; omega
  have hf : ∀ n, n < X.length + 2 * p.length → (a ++ p).getD n 0 = cyc b (p.length + n) := by
    intro n hn
    symm
    rw [← pw_get (n := j) (by rw [ltot]; omega), eW, List.append_assoc, getD_append (a := p), if_neg (by omega), getD_append (a := a ++ p), if_pos (by rw [lW]; omega)]
    congr 1; omega
  have P1 : PerOn (fun n => cyc b (p.length + n)) (X.length + 2 * p.length) b.length := fun n hn => by
    show cyc b (p.length + (n + b.length)) = cyc b (p.length + n)
    rw [← Nat.add_assoc, cyc_per b]
  have P2 : PerOn (fun n => cyc b (p.length + n)) (X.length + 2 * p.length) p.length := fun n hn => by
    show cyc b (p.length + (n + p.length)) = cyc b (p.length + n)
    rw [← hf _ hn, ← hf n (by omega), eW2, getD_append, if_neg (by omega), ← eW2, getD_append, if_pos (by omega)]
    congr 1; omega
  have hb2 : 2 * b.length ≤ j * b.length := Nat.mul_le_mul_right _ hj
  have fw := fine_wilf _ (Nat.le_refl _) pb pp (by omega) P1 P2
  have gb : Nat.gcd b.length p.length ∣ b.length := Nat.gcd_dvd_left ..
  have gp : Nat.gcd b.length p.length ∣ p.length := Nat.gcd_dvd_right ..
  generalize Nat.gcd b.length p.length = g at fw gb gp
  have gt : g ∣ X.length + 4 * p.length := by
    have : X.length + 4 * p.length = j * b.length := by omega
    rw [this]; exact Nat.dvd_trans gb (Nat.dvd_mul_left ..)
  have gX : g ∣ X.length := by
    have h4 : g ∣ 4 * p.length := Nat.dvd_trans gp (Nat.dvd_mul_left ..)
    exact (Nat.dvd_add_left h4).mp gt
  have hpq : p = q := by
    refine ext_getD (by omega) fun n hn => ?_
    have a1 : (a ++ p).getD (a.length + n) 0 = p.getD n 0 := by
      rw [getD_append, if_neg (by omega)]; congr 1; omega
    have a2 : (a ++ p).getD n 0 = q.getD n 0 := by
      rw [eW2, getD_append, if_pos (by omega)]
    rw [← a1, ← a2, hf _ (by omega), hf n (by omega)]
    have b1 := fw (a.length + n) (by omega)
    have b2 := fw n (by omega)
    rw [b1, b2]
    have : (a.length + n) % g = n % g := by
      have h1 : g ∣ a.length := by rw [hlp]; exact Nat.dvd_add gX gp
      obtain ⟨m, hm⟩ := h1
      rw [hm, Nat.mul_add_mod]
    rw [this]
  subst hpq
  have hc : X ++ p = p ++ X := hp.symm.trans hq
  have cX : cyc X = cyc p := comm_cyc' hX hp0 hc
  have ca : cyc a = cyc X := by rw [hp]; exact cyc_append cX
  have cY : cyc Y = cyc X := by rw [hY, cyc_append rfl, cX]
  rw [cyc_append cY.symm, ca]
/-- copies of two words that are copies of one word: all have one root -/
theorem lyndon_sch : ∀ (N : Nat) {a b c : List Nat} {i j k : Nat}, k * c.length ≤ N → a ≠ [] → b ≠ [] → 2 ≤ i → 2 ≤ j → 2 ≤ k → pw a i ++ pw b j = pw c k → cyc a = cyc b := by
  intro N
  induction N with
  | zero =>
    intro a b c i j k hN ha hb hi hj hk e
    have := pw_len c k
    rw [← e, List.length_append, pw_len, pw_len] at this
    have h1 : 0 < a.length := List.length_pos_iff.mpr ha
    have := Nat.mul_pos (show 0 < i by omega) h1
    omega
  | succ N ih =>
    intro a b c i j k hN ha hb hi hj hk e
    have pa : 0 < a.length := List.length_pos_iff.mpr ha
    have pb : 0 < b.length := List.length_pos_iff.mpr hb
    have le : i * a.length + j * b.length = k * c.length := by
      rw [← pw_len c k, ← e, List.length_append, pw_len, pw_len]
    have pia := Nat.mul_pos (show 0 < i by omega) pa
    have hc : c ≠ [] := by
      rintro rfl
      simp at le; omega
    have pc : 0 < c.length := List.length_pos_iff.mpr hc
    have ra : a.reverse ≠ [] := by simpa using ha
    have rb : b.reverse ≠ [] := by simpa using hb
    have rc : c.reverse ≠ [] := by simpa using hc
    have er : pw b.reverse j ++ pw a.reverse i = pw c.reverse k := by
      rw [← pw_rev, ← pw_rev, ← pw_rev, ← List.reverse_append, e]
    by_cases h1 : c.length + a.length ≤ i * a.length
    · exact ls_long ha hb hc (by omega) (by omega) (by omega) e h1
    by_cases h2 : c.length + b.length ≤ j * b.length
    · have := ls_long rb ra rc (by omega) (by omega) (by omega) er (by rw [List.length_reverse, List.length_reverse]; exact h2)
      exact cyc_rev ha hb this.symm
    have i2 := Nat.mul_le_mul_right a.length hi
    have j2 := Nat.mul_le_mul_right b.length hj
    have hk4 : k < 4 := by
      by_cases h : 4 ≤ k
      · have := Nat.mul_le_mul_right c.length h
        omega
      · omega
    -- the halves
    have two : ∀ {a b c : List Nat} {i j : Nat}, 2 * c.length ≤ N + 1 → a ≠ [] → b ≠ [] → c ≠ [] → 2 ≤ i → 2 ≤ j → pw a i ++ pw b j = pw c 2 → i * a.length < c.length + a.length → j * b.length ≤ i * a.length → cyc a = cyc b := by
      intro a b c i j hN ha hb hc hi hj e h1 hl
      have pa : 0 < a.length := List.length_pos_iff.mpr ha
      have pb : 0 < b.length := List.length_pos_iff.mpr hb
      have le : i * a.length + j * b.length = 2 * c.length := by
        rw [← pw_len c 2, ← e, List.length_append, pw_len, pw_len]
      rw [pw_succ, pw_one] at e
      by_cases heq : i * a.length = c.length
      · have hh := List.append_inj e (by rw [pw_len]; exact heq)
        have e1 : cyc a = cyc c := by rw [← pw_cyc (v := a) (n := i) (by omega), hh.1]
        have e2 : cyc b = cyc c := by rw [← pw_cyc (v := b) (n := j) (by omega), hh.2]
        rw [e1, e2]
      · obtain ⟨i, rfl⟩ : ∃ m, i = m + 1 := ⟨i - 1, by omega⟩
        have hs : (i + 1) * a.length = i * a.length + a.length := Nat.succ_mul ..
        -- a^(i+1) = c v
        obtain ⟨v, hv⟩ : ∃ v, pw a (i + 1) = c ++ v := by
          have q1 : c <+: pw a (i + 1) ++ pw b j := ⟨c, e.symm⟩
          obtain ⟨v, hv⟩ := List.prefix_of_prefix_length_le q1 (List.prefix_append _ _) (by rw [pw_len]; omega)
          exact ⟨v, hv.symm⟩
        have hcv : c = v ++ pw b j := by
          rw [hv, List.append_assoc] at e
          exact (List.append_cancel_left e).symm
        have lv : (i + 1) * a.length = c.length + v.length := by rw [← pw_len, hv, List.length_append]
        -- c = a^i u
        obtain ⟨u, hu⟩ : ∃ u, c = pw a i ++ u := by
          have q1 : pw a i <+: pw a (i + 1) := ⟨a, (pw_succ' a i).symm⟩
          have q2 : c <+: pw a (i + 1) := ⟨v, hv.symm⟩
          obtain ⟨u, hu⟩ := List.prefix_of_prefix_length_le q1 q2 (by rw [pw_len]; omega)
          exact ⟨u, hu.symm⟩
        have hauv : a = u ++ v := by
          have q : pw a i ++ a = pw a i ++ (u ++ v) := by rw [← pw_succ', hv, hu, List.append_assoc]
          exact List.append_cancel_left q
        have lu : c.length = i * a.length + u.length := by
          have := congrArg List.length hu
          rw [List.length_append, pw_len] at this
          exact this
        have hv0 : v ≠ [] := by
          rintro rfl
          simp at lv; omega
        have rot : ∀ n, v ++ pw (u ++ v) n = pw (v ++ u) n ++ v := by
          intro n
          induction n with
          | zero => simp [pw_zero]
          | succ n ihn =>
            rw [pw_succ, pw_succ, List.append_assoc, List.append_assoc, ihn]
            simp only [List.append_assoc]
        have e3 : pw v 2 ++ pw b j = pw (v ++ u) (i + 1) := by
          rw [pw_succ, pw_one, List.append_assoc, ← hcv]
          conv => lhs; rw [hu, hauv]
          rw [← List.append_assoc, rot, pw_succ', List.append_assoc]
        have hvb : cyc v = cyc b := by
          refine ih (c := v ++ u) ?_ hv0 hb (by omega) hj (by omega) e3
          have q : (v ++ u).length = a.length := by rw [hauv, List.length_append, List.length_append, Nat.add_comm]
          rw [q]
          have pv : v.length < a.length ∨ v.length = a.length := by
            have : a.length = u.length + v.length := by rw [hauv, List.length_append]
            omega
          have lcv : c.length = v.length + j * b.length := by rw [← pw_len, ← List.length_append, ← hcv]
          have j2 := Nat.mul_le_mul_right b.length hj
          omega
        have hcb : cyc c = cyc b := by
          rw [hcv, cyc_append (by rw [pw_cyc (by omega)]; exact hvb), hvb]
        have er2 : pw b.reverse j ++ pw a.reverse (i + 1) = pw c.reverse 2 := by
          rw [← pw_rev, ← pw_rev, ← pw_rev, ← List.reverse_append, e, pw_succ, pw_one]
        have hbc : b ++ c = c ++ b := cyc_comm hcb.symm
        have hbc2 : cyc b.reverse = cyc c.reverse := by
          have q := congrArg List.reverse hbc
          rw [List.reverse_append, List.reverse_append] at q
          exact (comm_cyc' (by simpa using hc) (by simpa using hb) q).symm
        have := ls_same (a := b.reverse) (b := a.reverse) (c := c.reverse) (i := j) (j := i + 1) (k := 2) (by simpa using hb) (by simpa using ha) (by omega) (by omega) (by omega) er2 hbc2
        exact cyc_rev ha hb this.symm
    rcases (show k = 2 ∨ k = 3 by omega) with rfl | rfl
    · rcases Nat.le_total (j * b.length) (i * a.length) with hl | hl
      · exact two hN ha hb hc hi hj e (by omega) hl
      · have := two (by rw [List.length_reverse]; exact hN) rb ra rc hj hi er (by rw [List.length_reverse, List.length_reverse]; omega) (by rw [List.length_reverse, List.length_reverse]; exact hl)
        exact cyc_rev ha hb this.symm
    · -- three copies
      have three : ∀ {a b c : List Nat} {i j : Nat}, a ≠ [] → b ≠ [] → c ≠ [] → 2 ≤ i → 2 ≤ j → pw a i ++ pw b j = pw c 3 → i * a.length < c.length + a.length → j * b.length < c.length + b.length → j * b.length ≤ i * a.length → cyc a = cyc b := by
        intro a b c i j ha hb hc hi hj e h1 h2 hl
        have pa : 0 < a.length := List.length_pos_iff.mpr ha
        have pb : 0 < b.length := List.length_pos_iff.mpr hb
        have le : i * a.length + j * b.length = 3 * c.length := by
          rw [← pw_len c 3, ← e, List.length_append, pw_len, pw_len]
        have i2 := Nat.mul_le_mul_right a.length hi
        have j2 := Nat.mul_le_mul_right b.length hj
        have e' := e
        rw [pw_succ, pw_succ, pw_one] at e
        obtain ⟨X, hX⟩ : ∃ X, pw a i = c ++ X := by
          have q1 : c <+: pw a i ++ pw b j := ⟨c ++ c, e.symm⟩
          obtain ⟨v, hv⟩ := List.prefix_of_prefix_length_le q1 (List.prefix_append _ _) (by rw [pw_len]; omega)
          exact ⟨v, hv.symm⟩
        have lX : i * a.length = c.length + X.length := by rw [← pw_len, hX, List.length_append]
        have hXb : X ++ pw b j = c ++ c := by
          rw [hX, List.append_assoc] at e
          exact List.append_cancel_left e
        obtain ⟨Y, hY⟩ : ∃ Y, c = X ++ Y := by
          have q1 : X <+: c ++ c := ⟨pw b j, hXb⟩
          obtain ⟨v, hv⟩ := List.prefix_of_prefix_length_le q1 (List.prefix_append _ _) (by omega)
          exact ⟨v, hv.symm⟩
        have hbj : pw b j = Y ++ (X ++ Y) := by
          have q : X ++ pw b j = X ++ (Y ++ (X ++ Y)) := by rw [hXb, ← List.append_assoc, ← hY]
          exact List.append_cancel_left q
        have hai : pw a i = X ++ (Y ++ X) := by rw [hX, hY, List.append_assoc]
        have lc : c.length = X.length + Y.length := by rw [hY, List.length_append]
        have hX0 : X ≠ [] := by
          rintro rfl
          simp at lX lc; omega
        have := ls_three ha hb hX0 hi hj hai hbj (by omega) (by omega)
        rw [← hY] at this
        exact ls_same ha hb (by omega) (by omega) (by omega) e' this
      rcases Nat.le_total (j * b.length) (i * a.length) with hl | hl
      · exact three ha hb hc hi hj e (by omega) (by omega) hl
      · have := three rb ra rc hj hi er (by rw [List.length_reverse, List.length_reverse]; omega) (by rw [List.length_reverse, List.length_reverse]; omega) (by rw [List.length_reverse, List.length_reverse]; exact hl)
        exact cyc_rev ha hb this.symm
/-- joined copies of two words that do not commute are primitive -/
theorem joined_prim {a b : List Nat} {m n : Nat} (ha : a ≠ []) (hb : b ≠ []) (hm : 2 ≤ m) (hn : 2 ≤ n) (h : a ++ b ≠ b ++ a) : rl (pw a m ++ pw b n) = (pw a m ++ pw b n).length := by
  have hw : pw a m ++ pw b n ≠ [] := fun e => pw_ne ha (by omega) (List.append_eq_nil_iff.mp e).1
  obtain ⟨_, r1, r2, _⟩ := rl_spec hw
  by_cases hh : rl (pw a m ++ pw b n) = (pw a m ++ pw b n).length
  · exact hh
  · have hd := rl_dvd hw
    have hr := rl_rep hw
    generalize hz : rl (pw a m ++ pw b n) = r at *
    obtain ⟨k, hk⟩ := hd
    have hk2 : 2 ≤ k := by
      rcases (show k = 0 ∨ k = 1 ∨ 2 ≤ k by omega) with h | h | h
      · subst h; rw [Nat.mul_zero] at hk; have := List.length_pos_iff.mpr hw; omega
      · subst h; omega
      · exact h
    have : (pw a m ++ pw b n).length / r = k := by rw [hk, Nat.mul_div_cancel_left _ (by omega)]
    rw [this] at hr
    exact (h (cyc_comm (lyndon_sch _ (Nat.le_refl _) ha hb hm hn hk2 hr.symm))).elim
end L2.W3

/-! Conditions of the defs that tell roots. -/
namespace L2.W3
open PySem PySem.Spec PyProof.Rows

def rootD (w : List Nat) : D := .tup [.str (w.take (rl w)), .int ((w.length : Int) / (rl w : Int))]
def primB (w : List Nat) : Bool := decide (w ≠ []) && decide ((w.length : Int) / (rl w : Int) = 1)
def optS : Option (List Nat) → D
  | none => .non
  | some s => .str s
def optI : Option Nat → D
  | none => .non
  | some s => .int s
def comR (x y : List Nat) : Option (List Nat) := if x ++ y ≠ y ++ x ∨ x ++ y = [] then none else some ((x ++ y).take (rl (x ++ y)))
def diffs (s t : List Nat) : List Nat := (List.range s.length).filter fun k => decide (s.getD k 0 ≠ t.getD k 0)
def partN (x y : List Nat) : Option Nat := (diffs (x ++ y) (y ++ x)).head?
def C_root_of : Con := fun ds P => ∃ w : List Nat, ds = [.str w] ∧ w ≠ [] ∧ w.length ≤ 4000 ∧ P (.val (rootD w))
def C_is_primitive : Con := fun ds P => ∃ w : List Nat, ds = [.str w] ∧ w.length ≤ 4000 ∧ P (.val (.bl (primB w)))
def C_common_root : Con := fun ds P => ∃ x y : List Nat, ds = [.str x, .str y] ∧ x.length ≤ 1000 ∧ y.length ≤ 1000 ∧ P (.val (optS (comR x y)))
def C_parting : Con := fun ds P => ∃ x y : List Nat, ds = [.str x, .str y] ∧ x.length ≤ 1000 ∧ y.length ≤ 1000 ∧ P (.val (optI (partN x y)))
def b_root_of : WS :=
  (wSeq (wSet 1 (wFind3 (wBin addD (wVar 0) (wVar 0)) (wVar 0) (wC (.int 1))))
    (wRet (wTup (wACons (wSl (wVar 0) wONone (wOSome (wVar 1))) (wACons (wBin fdivD (wUn lenD (wVar 0)) (wVar 1)) wANil)))))
def b_is_primitive : WS :=
  (wRet (wAnd (wBin neD (wVar 0) (wC (.str []))) (wBin eqD (wBin ixD (wCall C_root_of (wACons (wVar 0) wANil)) (wC (.int 1))) (wC (.int 1)))))
def b_common_root : WS :=
  (wSeq (wIfS (wTOr (wTB (wBin neD (wBin addD (wVar 0) (wVar 1)) (wBin addD (wVar 1) (wVar 0)))) (wTB (wBin eqD (wBin addD (wVar 0) (wVar 1)) (wC (.str []))))) (wRet (wC .non)) wNext)
    (wRet (wBin ixD (wCall C_root_of (wACons (wBin addD (wVar 0) (wVar 1)) wANil)) (wC (.int 0)))))
def b_parting : WS :=
  (wSeq (wAsg (wTup (wACons (wBin addD (wVar 0) (wVar 1)) (wACons (wBin addD (wVar 1) (wVar 0)) wANil))) (wGTup 2 (wGCons (wName 2) (wGCons (wName 3) wGNil))))
    (wSeq (wSet 4 (wLc (wRng1 (wACons (wUn lenD (wVar 2)) wANil)) (wName 5) (wTB (wBin neD (wBin ixD (wVar 2) (wVar 5)) (wBin ixD (wVar 3) (wVar 5)))) (wVar 5) [5]))
    (wRet (wIf (wTru (wVar 4)) (wBin ixD (wVar 4) (wC (.int 0))) (wC .non)))))
theorem eqv_nat (a b : Nat) : eqv (.int (a : Int)) (.int (b : Int)) = decide (a = b) := by
  rw [eqv_int]
  by_cases h : a = b
  · subst h; rw [decide_eq_true rfl, decide_eq_true rfl]
  · rw [decide_eq_false h, decide_eq_false fun e => h (by exact_mod_cast e)]
theorem atI_zero {α : Type} (a : α) (l : List α) : atI (a :: l) 0 = some a := atI_lt (l := a :: l) (k := 0) (Nat.succ_pos _)
theorem vc_root_of : ∀ ds Q, C_root_of ds Q → b_root_of { nx := fun _ => Q (.val .non), rt := Q } (start3 ["word", "k"] ds) := by
  rintro ds Q ⟨w, rfl, hw, hl, q⟩
  obtain ⟨he, h1, h2, _⟩ := rl_spec hw
  refine And.intro (by rw [sL]; omega) (And.intro (by decide) (And.intro hw ?_))
  refine And.intro (by rw [sL]; omega) (And.intro (by rw [sL]; omega) (And.intro ?_ (And.intro (by exact Nat.le_of_ble_eq_true rfl) ?_)))
  · exact wide_div (b := 20) (by show 0 < findFrom _ _ 1; omega) (by show (findFrom (w ++ w) w 1).natAbs < _; rw [he]; omega) (by decide) (by decide)
  · show Q (.val (.tup [.str (cut w none (some (findFrom (w ++ w) w 1))), .int ((w.length : Int) / findFrom (w ++ w) w 1)]))
    rw [he, cut_to]; exact q
theorem vc_is_primitive : ∀ ds Q, C_is_primitive ds Q → b_is_primitive { nx := fun _ => Q (.val .non), rt := Q } (start3 ["word"] ds) := by
  rintro ds Q ⟨w, rfl, hl, q⟩
  refine And.intro trivial (And.intro trivial ?_)
  refine ite_w (fun h => ?_) (fun h => ?_)
  · rw [eqv_str, Bool.not_eq_true', decide_eq_false_iff_not] at h
    refine Exists.intro w (And.intro rfl (And.intro h (And.intro hl ?_)))
    refine Exists.intro _ (And.intro rfl (And.intro trivial (And.intro trivial ?_)))
    show Q (.val (.bl (eqv (.int ((w.length : Int) / (rl w : Int))) (.int 1))))
    rw [eqv_int]
    have e : primB w = decide ((w.length : Int) / (rl w : Int) = 1) := by unfold primB; rw [decide_eq_true h, Bool.true_and]
    rw [← e]; exact q
  · rw [eqv_str, Bool.not_eq_false', decide_eq_true_eq] at h
    subst h
    exact q
theorem vc_common_root : ∀ ds Q, C_common_root ds Q → b_common_root { nx := fun _ => Q (.val .non), rt := Q } (start3 ["one", "other"] ds) := by
  rintro ds Q ⟨x, y, rfl, hx, hy, q⟩
  have s1 : x.length + y.length ≤ sizeLine := by rw [sL]; omega
  have s2 : y.length + x.length ≤ sizeLine := by rw [sL]; omega
  refine And.intro s1 (And.intro s2 (And.intro trivial (And.intro trivial ?_)))
  refine ite_w (fun h => ?_) (fun h => ?_)
  · rw [eqv_str, Bool.not_eq_true', decide_eq_false_iff_not] at h
    have e : comR x y = none := if_pos (.inl h)
    rw [e] at q
    exact q
  rw [eqv_str, Bool.not_eq_false', decide_eq_true_eq] at h
  refine And.intro s1 (And.intro trivial (And.intro trivial ?_))
  refine ite_w (fun h2 => ?_) (fun h2 => ?_)
  · rw [eqv_str, decide_eq_true_eq] at h2
    have e : comR x y = none := if_pos (.inr h2)
    rw [e] at q
    exact q
  · rw [eqv_str, decide_eq_false_iff_not] at h2
    have e : comR x y = some _ := if_neg (fun hh => hh.elim (fun a => a h) h2)
    rw [e] at q
    refine And.intro s1 (Exists.intro _ (And.intro rfl (And.intro h2 (And.intro (by rw [List.length_append]; omega) ?_))))
    exact Exists.intro _ (And.intro rfl q)
theorem vc_parting : ∀ ds Q, C_parting ds Q → b_parting { nx := fun _ => Q (.val .non), rt := Q } (start3 ["one", "other", "there", "back", "places", "k"] ds) := by
  rintro ds Q ⟨x, y, rfl, hx, hy, q⟩
  have s1 : x.length + y.length ≤ sizeLine := by rw [sL]; omega
  have s2 : y.length + x.length ≤ sizeLine := by rw [sL]; omega
  have l1 : (x ++ y).length = x.length + y.length := List.length_append
  have l2 : (y ++ x).length = x.length + y.length := by rw [List.length_append, Nat.add_comm]
  refine And.intro s1 (And.intro s2 (And.intro (by exact Nat.le_of_ble_eq_true rfl) (And.intro rfl (And.intro (by exact Nat.le_of_ble_eq_true rfl) (And.intro (by exact Nat.le_of_ble_eq_true rfl) (And.intro rfl ?_))))))
  refine And.intro (by rw [sL, l1]; omega) (And.intro (by unfold SmallI; omega) ?_)
  refine lc0 (fun k => decide ((x ++ y).getD k 0 ≠ (y ++ x).getD k 0)) (fun k => D.int (k : Int)) (by rw [sL]; show (((x ++ y).length : Nat) : Int).toNat ≤ _; omega) (fun k hk C hC => ?_) (fun k _ _ C hC => hC) ?_
  · have hk : k < (x ++ y).length := hk
    refine And.intro (by rw [sL]; omega) (Exists.intro _ (And.intro (str_gD hk) (And.intro (by rw [sL]; omega) (Exists.intro _ (And.intro (str_gD (by omega)) (And.intro trivial (And.intro trivial ?_)))))))
    show C (!eqv (.str [_]) (.str [_])) _
    rw [eqv_str]
    have e : (!decide ([(x ++ y).getD k 0] = [(y ++ x).getD k 0])) = decide ((x ++ y).getD k 0 ≠ (y ++ x).getD k 0) := by
      by_cases h : (x ++ y).getD k 0 = (y ++ x).getD k 0 <;> simp [h]
    rw [e]; exact hC
  · have e : (List.range (((x ++ y).length : Nat) : Int).toNat).filter (fun k => decide ((x ++ y).getD k 0 ≠ (y ++ x).getD k 0)) = diffs (x ++ y) (y ++ x) := by rw [Int.toNat_natCast]; rfl
    rw [e]
    have q : Q (.val (optI ((diffs (x ++ y) (y ++ x)).head?))) := q
    cases hd : diffs (x ++ y) (y ++ x) with
    | nil => rw [hd] at q; exact q
    | cons k l =>
      rw [hd] at q
      have q : Q (.val (.int (k : Int))) := q
      exact Exists.intro _ (And.intro (atI_zero _ _) q)
theorem prim_nil : primB [] = false := rfl
theorem flatS_root (w : List Nat) : FlatS 7 (rootD w) := ⟨(by exact Nat.le_of_ble_eq_true rfl), fun x hx => by
  rcases List.mem_cons.mp hx with rfl | hx
  · trivial
  · rcases List.mem_cons.mp hx with rfl | hx
    · trivial
    · cases hx⟩
theorem one_iff {w : List Nat} (hw : w ≠ []) : ((w.length / rl w : Nat) = 1) ↔ rl w = w.length := by
  obtain ⟨_, h1, h2, _⟩ := rl_spec hw
  have h3 := Nat.div_mul_cancel (rl_dvd hw)
  constructor
  · intro h; rw [h, Nat.one_mul] at h3; exact h3
  · intro h; rw [h]; exact Nat.div_self (by omega)
theorem diffs_some {x y : List Nat} {k : Nat} (h : (diffs x y).head? = some k) : k < x.length ∧ x.getD k 0 ≠ y.getD k 0 ∧ ∀ j, j < k → x.getD j 0 = y.getD j 0 := by
  unfold diffs at h
  obtain ⟨h1, h2⟩ := head_filter_some h
  refine ⟨List.mem_range.mp h1, of_decide_eq_true h2, fun j hj => ?_⟩
  by_cases hh : x.getD j 0 = y.getD j 0
  · exact hh
  · have := head_filter_least List.pairwise_lt_range h j (List.mem_range.mpr (by have := List.mem_range.mp h1; omega)) (decide_eq_true hh)
    omega
theorem diffs_none {x y : List Nat} (hl : x.length = y.length) : (diffs x y).head? = none ↔ x = y := by
  constructor
  · intro h
    refine ext_getD hl fun i hi => ?_
    by_cases hh : x.getD i 0 = y.getD i 0
    · exact hh
    · exact (head_filter_none h i (List.mem_range.mpr hi) (decide_eq_true hh)).elim
  · rintro rfl
    have e : diffs x x = [] := List.filter_eq_nil_iff.mpr fun k _ => by simp
    rw [e]; rfl
theorem swap_len (x y : List Nat) : (x ++ y).length = (y ++ x).length := by rw [List.length_append, List.length_append, Nat.add_comm]
end L2.W3

/-! M6: turned words. -/
namespace L2.W3
/-- the first k letters put to the end -/
def turn (w : List Nat) (k : Nat) : List Nat := w.drop k ++ w.take k
theorem turn_len (w : List Nat) (k : Nat) : (turn w k).length = w.length := by
  unfold turn
  rw [List.length_append, List.length_drop, List.length_take]; omega
theorem turn_all (w : List Nat) : turn w w.length = w := by simp [turn]
theorem turn_zero (w : List Nat) : turn w 0 = w := by simp [turn]
theorem turn_get {w : List Nat} {k i : Nat} (hk : k ≤ w.length) (hi : i < w.length) : (turn w k).getD i 0 = cyc w (i + k) := by
  unfold turn cyc
  rw [getD_append, List.length_drop]
  split
  · rw [getD_drop, Nat.mod_eq_of_lt (by omega), Nat.add_comm]
  · rename_i h
    rw [getD_take (by omega)]
    congr 1
    have : i + k - w.length < w.length := by omega
    rw [Nat.mod_eq_sub_mod (by omega), Nat.mod_eq_of_lt this]
    omega
/-- two turns are the same word just if the way between them is a period of the circle -/
theorem turn_eq {w : List Nat} {a b : Nat} (ha : a ≤ w.length) (hb : b ≤ w.length) : turn w a = turn w b ↔ ∀ i, cyc w (i + a) = cyc w (i + b) := by
  constructor
  · intro h i
    by_cases hw : w.length = 0
    · have : w = [] := List.eq_nil_of_length_eq_zero hw
      subst this; rfl
    have hi : i % w.length < w.length := Nat.mod_lt _ (by omega)
    have e1 := turn_get (i := i % w.length) ha hi
    have e2 := turn_get (i := i % w.length) hb hi
    rw [h, e2] at e1
    have m : ∀ c, cyc w (i % w.length + c) = cyc w (i + c) := fun c => by unfold cyc; rw [Nat.mod_add_mod]
    rw [m, m] at e1
    exact e1.symm
  · intro h
    refine ext_getD (by rw [turn_len, turn_len]) fun i hi => ?_
    rw [turn_len] at hi
    rw [turn_get ha hi, turn_get hb hi, h]
theorem turn_mod {w : List Nat} {k : Nat} (hw : w ≠ []) (hk : k ≤ w.length) : turn w k = turn w (k % rl w) := by
  obtain ⟨_, h1, h2, h3, _⟩ := rl_spec hw
  have hm : k % rl w < rl w := Nat.mod_lt _ h1
  refine (turn_eq hk (by omega)).mpr fun i => ?_
  have hp := h3.mul (k / rl w) (i + k % rl w)
  have e := Nat.div_add_mod k (rl w)
  rw [← hp]
  congr 1
  rw [Nat.mul_comm] at e
  omega
theorem turn_inj {w : List Nat} (hw : w ≠ []) {a b : Nat} (ha : a < rl w) (hb : b < rl w) (h : turn w a = turn w b) : a = b := by
  obtain ⟨_, h1, h2, h3, h4⟩ := rl_spec hw
  have key : ∀ {a b : Nat}, b < rl w → a < b → turn w a = turn w b → False := by
    intro a b hb hab h
    have he := (turn_eq (by omega) (by omega)).mp h
    have : Per (cyc w) (b - a) := fun i => by
      -- shift i by a multiple of the length, at least a
      have hl : 0 < w.length := List.length_pos_iff.mpr hw
      have e1 := (cyc_per w).mul a i
      have e2 := (cyc_per w).mul a (i + (b - a))
      have hge : a ≤ a * w.length := Nat.le_mul_of_pos_right a hl
      have e3 := he (i + a * w.length - a)
      rw [← e1, ← e2]
      have x1 : i + a * w.length - a + a = i + a * w.length := by omega
      have x2 : i + a * w.length - a + b = i + (b - a) + a * w.length := by omega
      rw [x1, x2] at e3
      exact e3.symm
    have := h4 (b - a) (by omega) this
    omega
  rcases Nat.lt_trichotomy a b with h' | h' | h'
  · exact (key hb h' h).elim
  · exact h'
  · exact (key ha h' h.symm).elim
/-- rows in strict order with the same members are the same -/
theorem strict_ext {α : Type} {r : α → α → Prop} (irr : ∀ a, ¬ r a a) (tr : ∀ a b c, r a b → r b c → r a c) : ∀ {l m : List α}, l.Pairwise r → m.Pairwise r → (∀ x, x ∈ l ↔ x ∈ m) → l = m
  | [], [], _, _, _ => rfl
  | [], b :: m, _, _, h => by have := (h b).mpr List.mem_cons_self; cases this
  | a :: l, [], _, _, h => by have := (h a).mp List.mem_cons_self; cases this
  | a :: l, b :: m, hl, hm, h => by
    obtain ⟨l1, l2⟩ := List.pairwise_cons.mp hl
    obtain ⟨m1, m2⟩ := List.pairwise_cons.mp hm
    have e : a = b := by
      rcases List.mem_cons.mp ((h a).mp List.mem_cons_self) with e | ha
      · exact e
      · rcases List.mem_cons.mp ((h b).mpr List.mem_cons_self) with e | hb
        · exact e.symm
        · exact absurd (tr _ _ _ (l1 b hb) (m1 a ha)) (irr a)
    subst e
    congr 1
    refine strict_ext irr tr l2 m2 fun x => ?_
    constructor
    · intro hx
      rcases List.mem_cons.mp ((h x).mp (List.mem_cons_of_mem _ hx)) with e | hx'
      · subst e; exact absurd (l1 x hx) (irr x)
      · exact hx'
    · intro hx
      rcases List.mem_cons.mp ((h x).mpr (List.mem_cons_of_mem _ hx)) with e | hx'
      · subst e; exact absurd (m1 x hx) (irr x)
      · exact hx'
theorem words_ext {l m : List (List Nat)} (hl : l.Pairwise (· < ·)) (hm : m.Pairwise (· < ·)) (h : ∀ x, x ∈ l ↔ x ∈ m) : l = m :=
  strict_ext (fun a => List.lt_irrefl a) (fun a b c => List.lt_trans) hl hm h
theorem strict_nodup {l : List (List Nat)} (h : l.Pairwise (· < ·)) : l.Nodup := by
  refine List.Pairwise.imp ?_ h
  intro a b h e
  subst e
  exact List.lt_irrefl _ h
/-- as many turns as the root has letters -/
theorem turns_count {w : List Nat} (hw : w ≠ []) {ys : List (List Nat)} (hs : ys.Pairwise (· < ·)) (hm : ∀ y, y ∈ ys ↔ ∃ k, k ≤ w.length ∧ y = turn w k) : ys.length = rl w := by
  obtain ⟨_, h1, h2, h3, h4⟩ := rl_spec hw
  have hp : ys.Perm ((List.range (rl w)).map (turn w)) := by
    refine (List.perm_ext_iff_of_nodup (strict_nodup hs) ?_).mpr fun y => ?_
    · refine List.pairwise_map.mpr ?_
      refine List.Pairwise.imp_of_mem ?_ List.nodup_range
      intro a b ha hb hne e
      exact hne (turn_inj hw (List.mem_range.mp ha) (List.mem_range.mp hb) e)
    · rw [hm, List.mem_map]
      constructor
      · rintro ⟨k, hk, rfl⟩
        exact ⟨k % rl w, List.mem_range.mpr (Nat.mod_lt _ h1), (turn_mod hw hk).symm⟩
      · rintro ⟨k, hk, rfl⟩
        exact ⟨k, by have := List.mem_range.mp hk; omega, rfl⟩
  rw [hp.length_eq, List.length_map, List.length_range]
end L2.W3

/-! Conditions shared by laws: turn_to, is_word; small lemmas. -/
namespace L2.W3
open PySem PySem.Spec PyProof.Rows
def turnTo (x y : List Nat) : Option Nat := ((List.range (x.length + 1)).filter fun k => decide (turn x k = y)).head?
def C_turn_to : Con := fun ds P => ∃ x y : List Nat, ds = [.str x, .str y] ∧ x.length ≤ 1000 ∧ y.length ≤ 1000 ∧ P (.val (optI (turnTo x y)))
def isW : D → Bool
  | .str s => decide (s.length ≤ 60) && s.all fun c => decide (c ∈ abc)
  | _ => false
/-- what may be asked: any value but a type, the box, a dict; a text is not too long -/
def askW : D → Prop
  | .str s => s.length ≤ sizeLine
  | .ty _ => False
  | .box => False
  | .obj _ => False
  | .dik _ => False
  | .dit _ => False
  | _ => True
def C_is_word : Con := fun ds P => ∃ d, ds = [d] ∧ askW d ∧ P (.val (.bl (isW d)))
def b_turn_to : WS :=
  (wSeq (wIfS (wTB (wBin neD (wUn lenD (wVar 0)) (wUn lenD (wVar 1)))) (wRet (wC .non)) wNext)
    (wSeq (wSet 2 (wLc (wRng1 (wACons (wBin max2D (wC (.int 1)) (wUn lenD (wVar 0))) wANil)) (wName 3) (wTB (wBin eqD (wBin addD (wSl (wVar 0) (wOSome (wVar 3)) wONone) (wSl (wVar 0) wONone (wOSome (wVar 3)))) (wVar 1))) (wVar 3) [3]))
    (wRet (wIf (wTru (wVar 2)) (wBin ixD (wVar 2) (wC (.int 0))) (wC .non)))))
def b_is_word : WS :=
  (wRet (wAnd (wIsi "str" (wVar 0)) (wAnd (wBin leD (wUn lenD (wVar 0)) (wC (.int 60))) (wUn allD (wLc (wIter (wVar 0)) (wName 1) wYes (wBin inD (wVar 1) (wC (.str abc))) [1])))))
theorem turn_cut (w : List Nat) (k : Nat) : cut w (some (k : Int)) none ++ cut w none (some (k : Int)) = turn w k := by
  rw [cut_from, cut_to]; rfl
theorem allStr_map {α : Type} (f : α → List Nat) (l : List α) : (l.map fun a => D.str (f a)).all isStr = true := by
  rw [List.all_map, List.all_eq_true]; intro x _; rfl
theorem strOf_map {α : Type} (f : α → List Nat) (l : List α) : (l.map fun a => D.str (f a)).map strOf = l.map f := by
  rw [List.map_map]; rfl
theorem max1 (n : Nat) : (max (1 : Int) (n : Int)).toNat = max 1 n := by omega
theorem turnTo_range (x y : List Nat) : ((List.range (max 1 x.length)).filter fun k => decide (turn x k = y)).head? = turnTo x y := by
  unfold turnTo
  by_cases h : x = []
  · subst h; rfl
  have hl : 1 ≤ x.length := List.length_pos_iff.mpr h
  rw [show max 1 x.length = x.length by omega, List.range_succ, List.filter_append, List.head?_append]
  cases e : ((List.range x.length).filter fun k => decide (turn x k = y)).head? with
  | some k => rfl
  | none =>
    have h2 := head_filter_none e
    have : ¬ turn x x.length = y := fun hh => h2 0 (List.mem_range.mpr (by omega)) (by rw [turn_zero]; rw [turn_all] at hh; exact decide_eq_true hh)
    simp [this]
theorem ixHead {l : List Nat} {k : Nat} (h : l.head? = some k) : atI (l.map fun n : Nat => D.int (n : Int)) 0 = some (.int (k : Int)) := by
  cases l with
  | nil => cases h
  | cons a r => cases h; exact atI_zero _ _
theorem vc_turn_to : ∀ ds Q, C_turn_to ds Q → b_turn_to { nx := fun _ => Q (.val .non), rt := Q } (start3 ["word", "other", "found", "k"] ds) := by
  rintro ds Q ⟨x, y, rfl, hx, hy, q⟩
  have s1 : x.length ≤ sizeLine := by rw [sL]; omega
  have s2 : y.length ≤ sizeLine := by rw [sL]; omega
  (repeat (refine And.intro (by first | exact True.intro | assumption | exact Nat.le_of_ble_eq_true rfl | omega | (unfold SmallI; omega) | (rw [sL]; omega) | (simp only [sL, SmallI, List.length_map, List.length_append, List.length_range, List.length_cons, List.length_nil, List.length_take, List.length_drop]; omega)) ?_))
  refine ite_w (fun h => ?_) fun h => ?_
  · rw [eqv_int, Bool.not_eq_true', decide_eq_false_iff_not] at h
    have : turnTo x y = none := by
      unfold turnTo
      rw [List.head?_eq_none_iff, List.filter_eq_nil_iff]
      intro k _ hk
      have := of_decide_eq_true hk
      rw [← this, turn_len] at h
      exact h rfl
    rw [this] at q
    exact q
  · (repeat (refine And.intro (by first | exact True.intro | assumption | exact Nat.le_of_ble_eq_true rfl | omega | (unfold SmallI; omega) | (rw [sL]; omega) | (simp only [sL, SmallI, List.length_map, List.length_append, List.length_range, List.length_cons, List.length_nil, List.length_take, List.length_drop]; omega)) ?_))
    refine lc0 (fun k => decide (turn x k = y)) (fun k => D.int (k : Int)) (by rw [max1, sL]; omega) (fun k hk C hC => ?_) (fun k _ _ C hC => hC) ?_
    · refine And.intro s1 (And.intro s1 (And.intro ?_ (And.intro trivial (And.intro trivial ?_))))
      · rw [← List.length_append, turn_cut, turn_len]; exact s1
      · rw [turn_cut, eqv_str]; exact hC
    rw [max1, ← turnTo_range] at *
    refine ite_w (fun h => ?_) fun h => ?_
    · cases e : ((List.range (max 1 x.length)).filter fun k => decide (turn x k = y)).head? with
      | none =>
        rw [List.head?_eq_none_iff] at e
        rw [e] at h; cases h
      | some k =>
        rw [e] at q
        exact Exists.intro _ (And.intro (ixHead e) q)
    · cases e : ((List.range (max 1 x.length)).filter fun k => decide (turn x k = y)) with
      | nil =>
        rw [e] at q
        exact q
      | cons a r => rw [e] at h; cases h
theorem same_ok {a b : D} {Q : R → Prop} (e : a = b) (f : FlatS 7 a) (q : Q (.val (.bl true))) : C_same 8 [a, b] Q := by
  subst e
  exact ⟨a, a, rfl, f, f.flat, by rw [sameD_refl f.flat]; exact q⟩
theorem flatS_strs (ys : List (List Nat)) (h : ys.length ≤ sizeLine) (n : Nat) : FlatS (n + 1) (.tup (ys.map D.str)) := ⟨by rw [List.length_map]; exact h, fun x hx => by
  obtain ⟨y, _, rfl⟩ := List.mem_map.mp hx
  cases n <;> exact True.intro⟩
theorem flatS_optI (o : Option Nat) : FlatS 7 (optI o) := by cases o <;> exact True.intro
theorem mem_str (l : List (List Nat)) (y : List Nat) : ((l.map D.str).any fun d => eqv d (.str y)) = decide (y ∈ l) := by
  rw [List.any_map]
  induction l with
  | nil => simp
  | cons a l ih =>
    rw [List.any_cons, ih]
    show (eqv (.str a) (.str y) || _) = _
    rw [eqv_str]
    by_cases h : a = y
    · subst h; simp
    · have h' : ¬ y = a := fun e => h e.symm
      simp [h, h']
theorem flat_chars : ∀ {l : List D}, (∀ d ∈ l, ∃ c, d = .str [c]) → l.all isStr = true ∧ (l.map fun d => (strOf d).length).sum = l.length ∧ ((l.map strOf).flatten).length = l.length
  | [], _ => ⟨rfl, rfl, rfl⟩
  | d :: l, h => by
    obtain ⟨c, rfl⟩ := h d List.mem_cons_self
    obtain ⟨h1, h2, h3⟩ := flat_chars (l := l) fun x hx => h x (List.mem_cons_of_mem _ hx)
    refine ⟨by rw [List.all_cons, h1]; rfl, ?_, ?_⟩
    · rw [List.map_cons, List.sum_cons, h2, List.length_cons]; show 1 + _ = _; omega
    · rw [List.map_cons, List.flatten_cons, List.length_append, h3, List.length_cons]; show 1 + _ = _; omega
theorem eqv_nats (l m : List Nat) : eqv (.lst (l.map fun n : Nat => D.int (n : Int))) (.lst (m.map fun n : Nat => D.int (n : Int))) = decide (l = m) := by
  rw [eqv_lst]
  refine eqvAll_map (fun a b => ?_) l m
  rw [eqv_nat]
theorem flat_nats (l : List Nat) (n : Nat) : Flat (n + 1) (.lst (l.map fun k : Nat => D.int (k : Int))) := fun x hx => by
  obtain ⟨k, _, rfl⟩ := List.mem_map.mp hx
  cases n <;> exact True.intro
theorem flat_strs3 (l : List (List Nat)) (n : Nat) : ∀ x ∈ l.map D.str, Flat n x := fun x hx => by
  obtain ⟨k, _, rfl⟩ := List.mem_map.mp hx
  cases n <;> exact True.intro
theorem chars_ok (f : Nat → Nat) (xs : List Nat) : (xs.map fun k => D.str [f k]).all isStr = true ∧ ((xs.map fun k => D.str [f k]).map fun d => (strOf d).length).sum = xs.length ∧ ((xs.map fun k => D.str [f k]).map strOf).flatten = xs.map f := by
  induction xs with
  | nil => exact ⟨rfl, rfl, rfl⟩
  | cons x r ih =>
    obtain ⟨h1, h2, h3⟩ := ih
    refine ⟨by rw [List.map_cons, List.all_cons, h1]; rfl, by rw [List.map_cons, List.map_cons, List.sum_cons, h2, List.length_cons]; show 1 + r.length = r.length + 1; omega, ?_⟩
    rw [List.map_cons, List.map_cons, List.flatten_cons, h3]
    rfl
theorem all_bl (s : List Nat) : (s.map fun c => D.bl (decide (c ∈ abc))).all isBl = true := by
  rw [List.all_map, List.all_eq_true]; intro x _; rfl
theorem vc_is_word : ∀ ds Q, C_is_word ds Q → b_is_word { nx := fun _ => Q (.val .non), rt := Q } (start3 ["value", "letter"] ds) := by
  rintro ds Q ⟨d, rfl, ha, q⟩
  cases d with
  | str s =>
    have hs : s.length ≤ sizeLine := ha
    refine And.intro hs ?_
    refine ite_w (fun h => ?_) fun h => ?_
    · have h := of_decide_eq_true h
      refine And.intro hs ?_
      refine lcNY (fun c : Nat => D.str [c]) (fun c => D.bl (decide (c ∈ abc))) (by exact Nat.le_of_ble_eq_true rfl) hs (fun c hc C hC => hC) ?_
      refine And.intro (all_bl s) ?_
      have e : (s.map fun c => D.bl (decide (c ∈ abc))).all blOf = isW (.str s) := by
        have h6 : s.length ≤ 60 := by omega
        rw [List.all_map]
        show _ = (decide (s.length ≤ 60) && _)
        rw [decide_eq_true h6, Bool.true_and]; rfl
      rw [e]; exact q
    · have h := of_decide_eq_false h
      have e : isW (.str s) = false := by
        have h6 : ¬ s.length ≤ 60 := by omega
        show (decide (s.length ≤ 60) && _) = _
        rw [decide_eq_false h6, Bool.false_and]
      rw [e] at q
      have e2 : decide ((s.length : Int) ≤ 60) = false := decide_eq_false h
      show Q (.val (.bl (decide ((s.length : Int) ≤ 60))))
      rw [e2]; exact q
  | ty n => exact ha.elim
  | box => exact ha.elim
  | obj a => exact ha.elim
  | dik l => exact ha.elim
  | dit l => exact ha.elim
  | _ => exact q
end L2.W3

/-! W4, part n: small rules used by many laws. -/
namespace L2.W3
open PySem PySem.Spec PyProof.Rows
theorem nextK {E : Ends3} {ρ : Env3} (h : E.nx ρ) : wNext E ρ := h
theorem tru_k {K : Bool → Env3 → Prop} {b : Bool} {ρ : Env3} (h : K b ρ) : (fun r ρ1 => pk r ρ1 fun d => truD d fun b => K b ρ1) (R.val (.bl b)) ρ := h
theorem atI_any {l : List D} {r : Int} {P : D → Prop} (h0 : 0 ≤ r) (h8 : r < l.length) (h : ∀ d ∈ l, P d) : ∃ d, atI l r = some d ∧ P d := by
  have e : r = ((r.toNat : Nat) : Int) := by omega
  have hl : r.toNat < l.length := by omega
  rw [e, atI_lt hl]
  exact ⟨_, rfl, h _ (List.getElem_mem hl)⟩
theorem both {F : R → Prop} {L : List D} (e : F (.new (.lst L)) = F (.val (.lst L))) (h : F (.new (.lst L))) : ∀ r, r = .new (.lst L) ∨ r = .val (.lst L) → F r := by
  rintro r (rfl | rfl)
  · exact h
  · rw [← e]; exact h
theorem lcNYe {α : Type} {xs : List α} {items : List D} {i : Nat} {te : WE} {ρ : Env3} {T : List D → Env3 → Prop} {enc : α → D} (e : items = xs.map enc) (f : α → D) (hi : i < ρ.length) (hl : xs.length ≤ sizeLine)
    (he : ∀ x ∈ xs, ∀ k, k (.val (f x)) (ρ.set i (.val (enc x))) → te (ρ.set i (.val (enc x))) k)
    (hQ : T (xs.map f) (ρ.set i (keptE (ρ.getD i .un)))) : lcRun (wName i) wYes te [i] items ρ T := by
  rw [e]
  exact lcNY enc f hi hl he hQ
theorem take_fil {α : Type} {l : List α} {p : α → Bool} {i : Nat} {x : α} (h : l[i]? = some x) : (l.take (i + 1)).filter p = (l.take i).filter p ++ [x].filter p := by
  obtain ⟨hi, e⟩ := List.getElem?_eq_some_iff.mp h
  rw [List.take_succ_eq_append_getElem hi, List.filter_append, e]
theorem cut_seg (w : List Nat) (p h : Nat) : cut w (some (p : Int)) (some ((p + h : Nat) : Int)) = (w.drop p).take h := by
  rw [cut_nat, List.drop_take, show p + h - p = h by omega]
theorem chars_of {P : Nat → Prop} : ∀ l : List D, (∀ d ∈ l, ∃ c, d = .str [c] ∧ P c) → ∃ w : List Nat, l = w.map (fun c => D.str [c]) ∧ ∀ c ∈ w, P c
  | [], _ => ⟨[], rfl, fun c h => by cases h⟩
  | a :: l, h => by
    obtain ⟨c, rfl, hc⟩ := h a (List.mem_cons_self ..)
    obtain ⟨w, rfl, hw⟩ := chars_of l fun d hd => h d (List.mem_cons_of_mem _ hd)
    refine ⟨c :: w, rfl, fun x hx => ?_⟩
    rcases List.mem_cons.mp hx with rfl | hx
    · exact hc
    · exact hw x hx
theorem join_chars (w : List Nat) : (w.map fun c => D.str [c]).all isStr = true ∧ ((w.map fun c => D.str [c]).map strOf).flatten = w := by
  refine ⟨by rw [List.all_map, List.all_eq_true]; intro x _; rfl, ?_⟩
  rw [List.map_map]
  induction w with
  | nil => rfl
  | cons c w ih => rw [List.map_cons, List.flatten_cons, ih]; rfl
theorem abc_at {y : Nat} (h : y < 26) : atI abc ((y : Nat) : Int) = some (97 + y) := by
  have H : ∀ y : Fin 26, atI abc ((y.val : Nat) : Int) = some (97 + y.val) := by decide
  exact H ⟨y, h⟩
theorem ms_get {ms : List (List Nat)} {i : Nat} {x : D} (h : (ms.map D.str)[i]? = some x) : ∃ m, ms[i]? = some m ∧ x = .str m := by
  rw [List.getElem?_map] at h
  cases e : ms[i]? with
  | none => rw [e] at h; cases h
  | some m => rw [e] at h; exact ⟨m, rfl, (Option.some.inj h).symm⟩
theorem cut_abc {k : Nat} (hk : k ≤ 26) : cut ([97, 98, 99, 100, 101, 102, 103, 104, 105, 106, 107, 108, 109, 110, 111, 112, 113, 114, 115, 116, 117, 118, 119, 120, 121, 122] : List Nat) none (some ((k : Nat) : Int)) = (List.range k).map (fun j => 97 + j) := by
  have H : ∀ k : Fin 27, cut ([97, 98, 99, 100, 101, 102, 103, 104, 105, 106, 107, 108, 109, 110, 111, 112, 113, 114, 115, 116, 117, 118, 119, 120, 121, 122] : List Nat) none (some ((k.val : Nat) : Int)) = (List.range k.val).map (fun j => 97 + j) := by decide
  exact H ⟨k, by omega⟩
theorem all_blD (f : D → Bool) (l : List D) : (l.map fun d => D.bl (f d)).all isBl = true ∧ (l.map fun d => D.bl (f d)).all blOf = l.all f := by
  refine ⟨?_, ?_⟩
  · rw [List.all_map]; exact List.all_eq_true.mpr fun x _ => rfl
  · rw [List.all_map]; rfl
theorem lcD {l : List D} {i : Nat} {te : WE} {ρ : Env3} {T : List D → Env3 → Prop} (f : D → D) (hi : i < ρ.length) (hl : l.length ≤ sizeLine)
    (he : ∀ x ∈ l, ∀ k, k (.val (f x)) (ρ.set i (.val x)) → te (ρ.set i (.val x)) k)
    (hQ : T (l.map f) (ρ.set i (keptE (ρ.getD i .un)))) : lcRun (wName i) wYes te [i] l ρ T := by
  have L := lcNY (fun d : D => d) f hi hl he hQ
  rwa [List.map_id'] at L
theorem lcDe {l items : List D} {i : Nat} {te : WE} {ρ : Env3} {T : List D → Env3 → Prop} (e : items = l) (f : D → D) (hi : i < ρ.length) (hl : l.length ≤ sizeLine)
    (he : ∀ x ∈ l, ∀ k, k (.val (f x)) (ρ.set i (.val x)) → te (ρ.set i (.val x)) k)
    (hQ : T (l.map f) (ρ.set i (keptE (ρ.getD i .un)))) : lcRun (wName i) wYes te [i] items ρ T := by
  rw [e]
  exact lcD f hi hl he hQ
theorem lcDp {l : List D} {i : Nat} {tt : WTs} {te : WE} {ρ : Env3} {T : List D → Env3 → Prop} (p : D → Bool) (f : D → D) (hi : i < ρ.length) (hl : l.length ≤ sizeLine)
    (ht : ∀ x ∈ l, ∀ k, k (p x) (ρ.set i (.val x)) → tt (ρ.set i (.val x)) k) (he : ∀ x ∈ l, p x = true → ∀ k, k (.val (f x)) (ρ.set i (.val x)) → te (ρ.set i (.val x)) k)
    (hQ : T ((l.filter p).map f) (ρ.set i (keptE (ρ.getD i .un)))) : lcRun (wName i) tt te [i] l ρ T := by
  have L := lcN (fun d : D => d) p f hi hl ht he hQ
  rwa [List.map_id'] at L
theorem filterMap_eq (sel : D → Option D) (l : List D) : (l.filter fun d => (sel d).isSome).map (fun d => (sel d).getD .non) = l.filterMap sel := by
  induction l with
  | nil => rfl
  | cons a l ih =>
    rw [List.filter_cons, List.filterMap_cons]
    cases h : sel a with
    | none => exact ih
    | some x =>
      show ((sel a).getD .non) :: _ = _
      rw [h, ih]; rfl
theorem key_eq (s t : List Nat) : ((Sum.inr { cps := s.toArray } : Key) = Sum.inr { cps := t.toArray }) ↔ s = t := by
  constructor
  · intro h
    have h := Str.mk.inj (Sum.inr.inj h)
    exact congrArg Array.toList h
  · rintro rfl; rfl
theorem eqv_ints : ∀ (ns ms : List Int), eqv (.lst (ns.map D.int)) (.lst (ms.map D.int)) = decide (ns = ms) := by
  intro ns ms
  rw [eqv_lst]
  exact eqvAll_map (fun a b => eqv_int a b) ns ms
theorem ints_of : ∀ (l : List D), (∀ d ∈ l, ∃ i, d = .int i) → ∃ ns : List Int, l = ns.map D.int
  | [], _ => ⟨[], rfl⟩
  | a :: l, h => by
    obtain ⟨i, rfl⟩ := h a (List.mem_cons_self ..)
    obtain ⟨ns, rfl⟩ := ints_of l fun d hd => h d (List.mem_cons_of_mem _ hd)
    exact ⟨i :: ns, rfl⟩
theorem int_lst (l : List D) (h : ∀ d ∈ l, ∃ i, d = .int i) : Flat 50 (.lst l) := fun d hd => by
  obtain ⟨i, rfl⟩ := h d hd
  exact True.intro
end L2.W3

/-! W4, part o: a, b, .. = a list of that length. -/
namespace L2.W3
open PySem PySem.Spec PyProof.Rows
section
variable {X : Cx} {bx : Bx} {tgs : List Expr} {pos : Pos}
def wGTupL (n : Nat) (gs : List D → Env3 → (Env3 → Prop) → Prop) : WG := fun d ρ Q => match d with
  | .lst l => l.length = n ∧ gs l ρ Q
  | _ => False
theorem g_tupL {k n : Nat} {gs : List D → Env3 → (Env3 → Prop) → Prop} {ts : List Nat} (hc : X.calm = true) (h : Gs3 X bx tgs ts gs) (hn : (assignEach tgs X.env).length = n := by rfl) (hst : (assignEach tgs X.env).findIdx? (·.1) = none := by rfl) : G3 X bx (.Tuple tgs k pos) ts (wGTupL n gs) := by
  refine ⟨PG.weaken (pg_lst hc h.pgs hn hst) fun v σ H Q ⟨F, ρ, G, d, P, st, r, h, hQ⟩ => ?_⟩
  cases d with
  | lst l =>
    cases r with
    | lst hs rl => exact ⟨_, _, rfl, .inl (.inl (st.gs _ _ hs)), rl.length.trans h.1, F, ρ, G, _, _, st, rl, h.2, hQ⟩
  | _ => exact (show False from h).elim
end
end L2.W3

/-! W4, part p: a comprehension over an own list that stays own (it cannot be read in the turns). -/
namespace L2.W3
open PySem PySem.Spec PyProof.Rows
section
variable {K : PySem.W.Frag} {bx : Bx} {F G G' H H' : Hp} {ρ ρ' : Env3} {σ : L2.St} {p : Addr}
theorem Stt.lend {i : Nat} {l : List D} {vs : List V} (st : Stt K bx F ρ σ G H) (h : ρ[i]? = some (Sl.own (.lst l))) (hp : σ[i]? = some (some (V.ref p))) (e : H p = some (.lst vs)) : Stt K bx (W3.addF F p (.lst vs)) (ρ.set i .un) σ G H ∧ F p = none ∧ p ∉ bx.fp := by
  obtain ⟨q, e1, t, gp, fp, bp⟩ := st.ow i _ h
  rw [hp] at e1; cases e1
  refine ⟨⟨⟨st.gs, fun a u e2 => ?_, fun a u e2 => ?_, st.bi, fun a ha => ⟨(st.bg a ha).1, ?_⟩⟩, by simp [st.len], fun j d' e2 => ?_, fun j d' e2 => ?_, fun j k q ⟨⟨d1, h1⟩, e1⟩ ⟨⟨d2, h2⟩, e2⟩ => ?_⟩, fp, bp⟩
  · by_cases h3 : a = p
    · subst h3; rw [addF_same] at e2; cases e2; exact e
    · rw [addF_ne h3] at e2; exact st.fs a u e2
  · by_cases h3 : a = p
    · subst h3; rw [addF_same] at e2; cases e2; exact ⟨gp, True.intro⟩
    · rw [addF_ne h3] at e2; exact st.fg a u e2
  · have h3 : a ≠ p := fun h3 => bp (h3 ▸ ha)
    rw [addF_ne h3]; exact (st.bg a ha).2
  · rcases get_set e2 with ⟨_, e2, _⟩ | ⟨_, e2⟩
    · cases e2
    · exact st.vl j d' e2
  · rcases get_set e2 with ⟨_, e2, _⟩ | ⟨hj, e2⟩
    · cases e2
    · obtain ⟨q, f1, f2, f3, f4, f5⟩ := st.ow j d' e2
      have hq : q ≠ p := fun hq => by
        subst hq
        exact hj (st.dj j i q ⟨⟨_, e2⟩, f1⟩ ⟨⟨_, h⟩, hp⟩)
      exact ⟨q, f1, f2, f3, by rw [addF_ne hq]; exact f4, f5⟩
  · rcases get_set h1 with ⟨_, h1, _⟩ | ⟨_, h1⟩
    · cases h1
    rcases get_set h2 with ⟨_, h2, _⟩ | ⟨_, h2⟩
    · cases h2
    exact st.dj j k q ⟨⟨d1, h1⟩, e1⟩ ⟨⟨d2, h2⟩, e2⟩
theorem Stt.unlend {i : Nat} {l : List D} {vs : List V} (st : Stt K bx (W3.addF F p (.lst vs)) ρ σ G H) (fp : F p = none) (bp : p ∉ bx.fp) (hp : σ[i]? = some (some (V.ref p))) (r : RepL K bx.adr G vs l) : Stt K bx F (ρ.set i (.own (.lst l))) σ G H := by
  obtain ⟨st2, hH, gp, _, no⟩ := st.dropF fp
  have own : ∀ j q d', (ρ.set i (.own (.lst l)))[j]? = some (Sl.own d') → σ[j]? = some (some (V.ref q)) → (j = i ∧ q = p ∧ d' = .lst l) ∨ (j ≠ i ∧ q ≠ p ∧ ρ[j]? = some (Sl.own d')) := fun j q d' e e1 => by
    rcases get_set e with ⟨rfl, e, _⟩ | ⟨hj, e⟩
    · cases e
      rw [hp] at e1; cases e1
      exact .inl ⟨rfl, rfl, rfl⟩
    · refine .inr ⟨hj, fun hq => ?_, e⟩
      subst hq
      exact no j ⟨⟨_, e⟩, e1⟩
  refine ⟨st2.toFr3, by simp [st2.len], fun j d' e => ?_, fun j d' e => ?_, fun j k q ⟨⟨d1, h1⟩, e1⟩ ⟨⟨d2, h2⟩, e2⟩ => ?_⟩
  · rcases get_set e with ⟨_, e, _⟩ | ⟨_, e⟩
    · cases e
    · exact st2.vl j d' e
  · rcases get_set e with ⟨rfl, e2, _⟩ | ⟨hj, e2⟩
    · cases e2
      exact ⟨p, hp, .lst hH r, gp, fp, bp⟩
    · exact st2.ow j d' e2
  · rcases own j q d1 h1 e1 with ⟨a1, a2, _⟩ | ⟨a1, a2, a3⟩ <;> rcases own k q d2 h2 e2 with ⟨b1, b2, _⟩ | ⟨b1, b2, b3⟩
    · rw [a1, b1]
    · exact absurd a2 b2
    · exact absurd b2 a2
    · exact st2.dj j k q ⟨⟨d1, a3⟩, e1⟩ ⟨⟨d2, b3⟩, e2⟩
end
/-- over the own list in slot i, which nobody reads in the turns -/
def wLcO (i : Nat) (g : WG) (tt : WTs) (te : WE) (vs : List Nat) : WE := fun ρ Q => onLst i ρ fun l => lcRun g tt te vs l (ρ.set i .un) fun acc ρ2 => Q (.new (.lst acc)) (ρ2.set i (.own (.lst l)))
/-- either the list is given away, or it stays own -/
def wLcW (i : Nat) (g : WG) (tt : WTs) (te : WE) (vs : List Nat) : WE := fun ρ Q => wLc (wIter (wVar i)) g tt te vs ρ Q ∨ wLcO i g tt te vs ρ Q
section
variable {X : Cx} {bx : Bx} {tg : Expr} {pos : Pos} {x : Str}
theorem lE_lcO {K : PySem.W.Frag} {i : Nat} {g : WG} {tt : WTs} {te : WE} {ts vs : List Nat} (hs : ∀ j ∈ ts, j ∈ vs) (hi : i ∉ vs) (σ : L2.St) (H : Hp) (Q : VK) (h : lE K bx (wLcO i g tt te vs) σ H Q) : tLc (iAny K (tVar i)) (lG K bx ts g) (lT K bx tt) (lE K bx te) vs σ H Q := by
  obtain ⟨F0, ρ0, G1, P, st0, h, hQ⟩ := h
  obtain ⟨items, p, vsl, h1, eo, e1, hp, rl0⟩ := own_lst st0 h
  obtain ⟨st1, fp, bp⟩ := st0.lend eo e1 hp
  refine ⟨_, e1, .inl ⟨p, rfl, ⟨_, .inl (.inl hp)⟩, fun Da hD => ?_⟩⟩
  have fD : W3.addF F0 p (.lst vsl) Da = none := st1.nF hD
  have hne : Da ≠ p := fun e => by subst e; rw [addF_same] at fD; cases fD
  generalize hF : W3.addF F0 p (.lst vsl) = F at *
  have fsp : F p = some (.lst vsl) := by rw [← hF, addF_same]
  generalize hρ1 : ρ0.set i .un = ρ1 at *
  refine ⟨fun k m H => m = items.length - k ∧ k ≤ items.length ∧ ∃ ρ2 G2 acc accV, lcGo g tt te vs (items.drop k) ρ2 acc (fun acc ρ2 => P (.new (.lst acc)) ((backE (wipeE ρ2 vs) ρ1 vs).set i (.own (.lst items)))) ∧ Same G1 G2 ∧
    Stt K bx (W3.addF F Da (.lst accV)) (wipeE ρ2 vs) (L2.wipe σ vs) G2 H ∧ RepL K bx.adr G2 accV acc, ⟨items.length, rfl, Nat.zero_le _, ρ1, G1, [], [], h1, Same.refl G1, (st1.addF hD).wipe vs, .nil⟩, ?_⟩
  rintro k m H2 ⟨rfl, hi2, ρ2, G2, acc, accV, hgo, g2, st2, rl⟩
  have hp2 : ∀ {ρ H G accV τ}, Stt K bx (W3.addF F Da (.lst accV)) ρ τ G H → H p = some (.lst vsl) := fun st => st.fs p _ (by rw [addF_ne (Ne.symm hne)]; exact fsp)
  by_cases hlt : k < items.length
  · obtain ⟨v, hv, rv⟩ := rl0.get (List.getElem?_eq_getElem hlt)
    refine .inr ⟨⟨vsl, v, .inl (.inl (hp2 st2)), hv⟩, fun H' => k + 1 ≤ items.length ∧ ∃ ρ2 G2 acc accV, lcGo g tt te vs (items.drop (k + 1)) ρ2 acc (fun acc ρ2 => P (.new (.lst acc)) ((backE (wipeE ρ2 vs) ρ1 vs).set i (.own (.lst items)))) ∧ Same G1 G2 ∧
      Stt K bx (W3.addF F Da (.lst accV)) (wipeE ρ2 vs) (L2.wipe σ vs) G2 H' ∧ RepL K bx.adr G2 accV acc, fun H' hN => ⟨items.length - (k + 1), by omega, rfl, hN⟩, fun x H' hy => ?_⟩
    obtain ⟨ey, hx⟩ := hy
    subst ey
    obtain ⟨d, hd, rd⟩ := rl0.getV (hx vsl (.inl (.inl (hp2 st2))))
    rw [List.drop_eq_getElem_cons hlt] at hgo
    have ed : items[k] = d := by rw [List.getElem?_eq_getElem hlt] at hd; exact Option.some.inj hd
    rw [ed] at hgo
    refine ⟨_, _, G2, d, _, st2, rd.mono g2, hgo, fun ρ4 σ4 G4 H4 h4 g4 st4 b4 => ⟨but_wipe hs b4, ?_⟩⟩
    have ew := but_wipe hs b4
    refine ⟨_, ρ4, G4, _, st4, h4, fun b ρ5 G5 H5 h5 g5 st5 => ?_⟩
    by_cases hb : b = true
    · rw [if_pos hb] at h5 ⊢
      refine ⟨_, ρ5, G5, _, st5, h5, fun r ρ6 v G6 H6 h6 g6 st6 rr6 => ?_⟩
      obtain ⟨y, ρ7, G7, h7, g7, st7, ry⟩ := fz_ok st6 rr6 h6
      refine ⟨accV, st7.fs Da _ addF_same, by rw [rl.length]; exact h7.1, by omega, ρ7, G7, _, _, h7.2, g2.trans (g4.trans (g5.trans (g6.trans g7))), ?_, (rl.mono (g4.trans (g5.trans (g6.trans g7)))).append (.cons ry .nil)⟩
      have := (st7.setF (o' := .lst (accV ++ [v]))).wipe vs
      rw [ew] at this
      exact this
    · rw [if_neg hb] at h5 ⊢
      refine ⟨by omega, ρ5, G5, acc, accV, h5, g2.trans (g4.trans g5), ?_, rl.mono (g4.trans g5)⟩
      have := st5.wipe vs
      rw [ew] at this
      exact this
  · have ei : k = items.length := by omega
    subst ei
    refine .inl ⟨⟨vsl, .inl (.inl (hp2 st2)), by rw [rl0.length]; exact Nat.le_refl _⟩, ?_⟩
    rw [List.drop_length] at hgo
    obtain ⟨st5, hD5, gD5, nD5, no5⟩ := st2.dropF fD
    have stU := st1.unwipe g2 st5
    rw [← hF] at stU fD
    have stL := stU.unlend fp bp e1 (rl0.mono g2)
    rw [addF_ne hne] at fD
    refine hQ _ _ _ G2 H2 hgo g2 stL ⟨Da, rfl, ⟨.lst hD5 rl, gD5, fD, nD5⟩, fun j ⟨⟨d', e⟩, e3⟩ => ?_⟩
    rcases get_set e with ⟨rfl, e, _⟩ | ⟨hj, e⟩
    · rw [e1] at e3; cases e3; exact hne rfl
    · by_cases h : j ∈ vs
      · exact keptE_own (backE_in h e).symm
      · rw [backE_out h] at e
        exact no5 j ⟨⟨d', e⟩, by rw [wipe_out h]; exact e3⟩
theorem PE.or {e : Expr} {t t' : TE} (h : PE X e t) (h' : PE X e t') : PE X e (fun σ H Q => t σ H Q ∨ t' σ H Q) := ⟨fun pins s σ H Q I q => q.elim (h.run pins s σ H Q I) (h'.run pins s σ H Q I)⟩
theorem e_lcW (i : Nat) {elt : Expr} {ifs : List Expr} {scope : Scope} {own : List (Str × Nat)} {vpos : Pos} {g : WG} {tt : WTs} {te : WE} {ts vs : List Nat} (hc : X.calm = true) (hN : X.N.Nodup) (ok : BlkOk X.N X.env.scope scope own)
    (hg : ∀ (s : Shared) (H : Hp) (C : Addr) (cl : List (Str × Addr)) (fp : List Addr), G3 (X.blk s H scope (compEnvC scope cl C X.env) fp) bx tg ts g) (ht : ∀ (s : Shared) (H : Hp) (C : Addr) (cl : List (Str × Addr)) (fp : List Addr), Ts3 (X.blk s H scope (compEnvC scope cl C X.env) fp) bx ifs tt)
    (he : ∀ (s : Shared) (H : Hp) (C : Addr) (cl : List (Str × Addr)) (fp : List Addr), E3 (X.blk s H scope (compEnvC scope cl C X.env) fp) bx elt te)
    (hn : X.N[i]? = some x := by rfl) (hv : Vis X.env.scope x := by first | exact Or.inl rfl | exact Or.inr (Or.inl rfl) | exact Or.inr (Or.inr rfl)) (hd : (x == ("__debug__" : Str)) = false := by decide) (hcd : (x == ("__classdict__" : Str)) = false := by decide)
    (hts : ∀ j ∈ ts, j ∈ own.map (·.2) := by decide) (hs : ∀ y, foldedSetIterable (.Name x vpos) X.env y = pure y := by intro _; rfl) (hvs : own.map (·.2) = vs := by rfl) (hout : i ∉ vs := by decide) :
    E3 X bx (.ListComp elt [⟨tg, .Name x vpos, ifs, 0⟩] scope pos) (wLcW i g tt te vs) := by
  subst hvs
  refine ⟨PE.weaken (PE.or (e_lc hc hN (i_any (e_var i hn hv hd hcd)) ok hg ht he hts hs).pe (PE.weaken (pe_lc hc hN (pi_any (pv i hn hv hd hcd)) ok (fun s H C cl fp => (hg s H C cl fp).pg) (fun s H C cl fp => (ht s H C cl fp).pts) (fun s H C cl fp => (he s H C cl fp).pe) hs) (lE_lcO hts hout))) fun σ H Q ⟨F, ρ, G, P, st, h, hQ⟩ => ?_⟩
  rcases h with h | h
  · exact .inl ⟨F, ρ, G, P, st, h, hQ⟩
  · exact .inr ⟨F, ρ, G, P, st, h, hQ⟩
end
theorem lcWo {α : Type} {xs : List α} {i v : Nat} {tt : WTs} {te : WE} {ρ : Env3} {Q : R → Env3 → Prop} (enc : α → D) (p : α → Bool) (f : α → D) (e : ρ[i]? = some (Sl.own (.lst (xs.map enc)))) (hv : v < ρ.length) (hl : xs.length ≤ sizeLine)
    (ht : ∀ x ∈ xs, ∀ k, k (p x) ((ρ.set i .un).set v (.val (enc x))) → tt ((ρ.set i .un).set v (.val (enc x))) k) (he : ∀ x ∈ xs, p x = true → ∀ k, k (.val (f x)) ((ρ.set i .un).set v (.val (enc x))) → te ((ρ.set i .un).set v (.val (enc x))) k)
    (hQ : Q (.new (.lst ((xs.filter p).map f))) (((ρ.set i .un).set v (keptE ((ρ.set i .un).getD v .un))).set i (.own (.lst (xs.map enc))))) : wLcW i (wName v) tt te [v] ρ Q := by
  refine .inr ?_
  unfold wLcO onLst
  rw [e]
  exact lcN enc p f (by rw [List.length_set]; exact hv) hl ht he hQ
theorem lcWoY {α : Type} {xs : List α} {i v : Nat} {te : WE} {ρ : Env3} {Q : R → Env3 → Prop} (enc : α → D) (f : α → D) (e : ρ[i]? = some (Sl.own (.lst (xs.map enc)))) (hv : v < ρ.length) (hl : xs.length ≤ sizeLine)
    (he : ∀ x ∈ xs, ∀ k, k (.val (f x)) ((ρ.set i .un).set v (.val (enc x))) → te ((ρ.set i .un).set v (.val (enc x))) k)
    (hQ : Q (.new (.lst (xs.map f))) (((ρ.set i .un).set v (keptE ((ρ.set i .un).getD v .un))).set i (.own (.lst (xs.map enc))))) : wLcW i (wName v) wYes te [v] ρ Q := by
  refine .inr ?_
  unfold wLcO onLst
  rw [e]
  exact lcNY enc f (by rw [List.length_set]; exact hv) hl he hQ
end L2.W3

/-! W4, part q: list(range(a, b)). -/
namespace L2.W3
open PySem PySem.Spec PyProof.Rows
section
variable {X : Cx} {bx : Bx} {a b c e tg : Expr} {es elts : List Expr} {fa fb fc : WE} {fr : WA} {pos pos2 : Pos} {x : Str} {p p2 : Pos} {ta : TA}
def tLstR2 (ta : TA) : TE := fun σ H Q => ta σ H fun vs H1 => ∃ i j : Int, vs = [.int i, .int j] ∧ (-(2 ^ 62) ≤ i ∧ i < 2 ^ 62) ∧ (-(2 ^ 62) ≤ j ∧ j < 2 ^ 62) ∧ (j - i).toNat ≤ sizeLine ∧ ∀ T, H1 T = none → Q (.ref T) (upd H1 T (.lst ((List.range (j - i).toNat).map fun k : Nat => V.int (i + (k : Int) * 1))))
theorem pe_lstR2 (hc : X.calm = true) (ha : PA X [a, b] ta) (hmT : X.mg "list" = none) (hm : X.mg "range" = none) (hgT : Gl X "list" := by rfl) (hg : Gl X "range" := by rfl)
    (hsT : starEach [Expr.Call (.Name "range" p2) [a, b] [] pos2] X.env = (false, eval (.Call (.Name "range" p2) [a, b] [] pos2) X.env) :: starEach [] X.env := by rfl) (hs : starEach [a, b] X.env = [(false, eval a X.env), (false, eval b X.env)] := by rfl) (hs2 : starEach [b] X.env = [(false, eval b X.env)] := by rfl) :
    PE X (.Call (.Name "list" p) [.Call (.Name "range" p2) [a, b] [] pos2] [] pos) (tLstR2 ta) := by
  refine ⟨fun pins s σ H Q I h => ?_⟩
  refine Call_ (ld_blt I hgT hmT boot_list (PyProof.Rows.callWith_type1 ?_ hsT rfl))
  rw [hsT]
  show wpAny _ _ (spliced ((false, eval (.Call (.Name "range" p2) [a, b] [] pos2) X.env) :: backTo pos (starEach [] X.env))) _ _ s
  refine Calls.spliced_cons ?_
  refine Call_ (ld_blt I hg hm boot_range (PyProof.Rows.callWith_type1 (thn (ha.run pos2 pins s σ H _ I h) fun us s1 ⟨vs, H1, I1, r1, q1⟩ => ?_) (by rw [hs, hs2]) (by rw [hs2]; rfl)))
  obtain ⟨i, j, e, ⟨h1, h2⟩, ⟨h3, h4⟩, h5, q⟩ := q1
  subst e
  cases r1 with
  | cons r rr =>
    cases rr with
    | cons r' rr =>
      cases rr
      obtain ⟨t, rfl⟩ := r
      obtain ⟨t', rfl⟩ := r'
      refine call_range_2 (Calls.spliced_nil ?_)
      have hn : Builtin.Range.rangeSize i j 1 = (((j - i).toNat : Nat) : Int) := by rw [rangeSize_one]; split <;> omega
      refine call_list_range (I1.ok.hd hc) (IsRange.new ..) (small_one h1 h2 h3 h4) hn h5 fun h' tk acc cc hk hacc1 hacc => ?_
      have rv := items_vals hacc
      have hz : ((List.range (j - i).toNat).map fun k : Nat => V.int (i + (k : Int) * 1)).length ≤ sizeLine := by rw [List.length_map, List.length_range]; exact h5
      exact ⟨.ref _, _, I1.laid (t' := tk) (fun b o q => hk b o (Heap.get?_push_of_some _ q)) (by rw [size_push']; exact Nat.le_succ _) (show ObjOk X.prog X.w _ _ _ (.lst ((List.range (j - i).toNat).map fun k : Nat => V.int (i + (k : Int) * 1))) from ⟨hz, acc.toList, cc, rv, by simpa using hacc1⟩), rfl, q _ (I1.hok.fresh (by rw [size_push']; exact Nat.le_succ _))⟩
def wListRng2 (fa : WA) : WE := fun ρ Q => fa ρ fun ds ρ1 => match ds with
  | [.int i, .int j] => SmallI i ∧ SmallI j ∧ (j - i).toNat ≤ sizeLine ∧ Q (.new (.lst (rng i 1 (j - i).toNat))) ρ1
  | _ => False
theorem rng_rep2 {K : PySem.W.Frag} {B : Addr} {G : Hp} (lo : Int) (n : Nat) : RepL K B G ((List.range n).map fun k : Nat => V.int (lo + (k : Int) * 1)) (rng lo 1 n) := by
  unfold rng
  induction (List.range n) with
  | nil => exact .nil
  | cons x l ih => exact .cons (.int _) ih
theorem e_listRng2 (ha : A3 X bx [a, b] fr) (hmT : X.mg "list" = none) (hm : X.mg "range" = none) (hc : X.calm = true := by rfl) (hgT : Gl X "list" := by rfl) (hg : Gl X "range" := by rfl)
    (hsT : starEach [Expr.Call (.Name "range" p2) [a, b] [] pos2] X.env = (false, eval (.Call (.Name "range" p2) [a, b] [] pos2) X.env) :: starEach [] X.env := by rfl) (hs : starEach [a, b] X.env = [(false, eval a X.env), (false, eval b X.env)] := by rfl) (hs2 : starEach [b] X.env = [(false, eval b X.env)] := by rfl) :
    E3 X bx (.Call (.Name "list" p) [.Call (.Name "range" p2) [a, b] [] pos2] [] pos) (wListRng2 fr) := by
  refine ⟨PE.weaken (pe_lstR2 hc ha.pa hmT hm hgT hg hsT hs hs2) fun σ H Q ⟨F, ρ, G, P, st, h, hQ⟩ => ⟨F, ρ, G, _, st, h, fun ds ρ1 vs G1 H1 h1 g1 st1 rl => ?_⟩⟩
  have R := res_of st1 (P := fun r => P r ρ1) fun r v G' H' h g st rr => hQ r ρ1 v G' H' h (g1.trans g) st rr
  unfold wListRng2 at h
  split at h1
  · rename_i i j
    obtain ⟨v, w, rfl, r1, r2⟩ := repL2 rl
    obtain rfl := rep_int r1
    obtain rfl := rep_int r2
    obtain ⟨s1, s2, s3, h1⟩ := h1
    unfold SmallI at s1 s2
    exact ⟨i, j, rfl, s1, s2, s3, fun T hT => R.lst _ _ T h1 hT (rng_rep2 _ _)⟩
  · exact h1.elim
end
end L2.W3

/-! W4, part e: statements that are never reached. -/
namespace L2.W3
open PySem PySem.Spec PyProof.Rows
def wNever : WS := fun _ _ => False
theorem s_never {X : Cx} {bx : Bx} {st : Stmt} : S3 X bx st wNever := ⟨PS.weaken ps_never fun D σ H ⟨F, ρ, G, P, st, h, e⟩ => h⟩
end L2.W3

/-! M12: ratios in lowest terms. -/
namespace L2.W3
def lowP (n d : Int) : Int × Int := (n / ((Int.gcd n d : Nat) : Int), d / ((Int.gcd n d : Nat) : Int))
def low (n d : Int) : Int × Int := if d < 0 then lowP (-n) (-d) else lowP n d
theorem lowP_rat {n : Int} {d : Nat} (hd : d ≠ 0) : lowP n d = ((mkRat n d).num, ((mkRat n d).den : Int)) := by
  rw [Rat.mkRat_def, dif_neg hd, Rat.normalize_eq]
  show _ = (n / ((n.natAbs.gcd d : Nat) : Int), ((d / n.natAbs.gcd d : Nat) : Int))
  unfold lowP
  rw [Int.natCast_ediv]
  rfl
theorem low_nat {n d : Int} (hd : 0 < d) : low n d = lowP n ((d.toNat : Nat) : Int) := by
  unfold low
  rw [if_neg (by omega), Int.toNat_of_nonneg (by omega)]
theorem low_neg {n d : Int} (hd : d < 0) : low n d = low (-n) (-d) := by
  unfold low
  rw [if_pos hd, if_neg (by omega)]
theorem low_eqP {n d n' d' : Int} (hd : 0 < d) (hd' : 0 < d') (h : n * d' = n' * d) : low n d = low n' d' := by
  rw [low_nat hd, low_nat hd', lowP_rat (by omega), lowP_rat (by omega)]
  have e : mkRat n d.toNat = mkRat n' d'.toNat := (Rat.mkRat_eq_iff (by omega) (by omega)).mpr (by
    rw [Int.toNat_of_nonneg (by omega), Int.toNat_of_nonneg (by omega)]; exact h)
  rw [e]
theorem low_eq {n d n' d' : Int} (hd : d ≠ 0) (hd' : d' ≠ 0) (h : n * d' = n' * d) : low n d = low n' d' := by
  rcases Int.lt_or_gt_of_ne hd with h1 | h1 <;> rcases Int.lt_or_gt_of_ne hd' with h2 | h2
  · rw [low_neg h1, low_neg h2]
    exact low_eqP (by omega) (by omega) (by rw [Int.neg_mul_neg, Int.neg_mul_neg]; exact h)
  · rw [low_neg h1]
    exact low_eqP (by omega) h2 (by rw [Int.neg_mul, Int.mul_neg, h])
  · rw [low_neg h2]
    exact low_eqP h1 (by omega) (by rw [Int.mul_neg, Int.neg_mul, h])
  · exact low_eqP h1 h2 h
theorem lowP_facts {n d : Int} (hd : 0 < d) : 0 < (lowP n d).2 ∧ (lowP n d).1 * d = n * (lowP n d).2 ∧ (lowP n d).1.natAbs ≤ n.natAbs ∧ (lowP n d).2.natAbs ≤ d.natAbs := by
  have hg : (0 : Int) < ((Int.gcd n d : Nat) : Int) := by
    have := Int.gcd_pos_of_ne_zero_right n (show d ≠ 0 by omega)
    omega
  obtain ⟨a, ha⟩ := Int.gcd_dvd_left n d
  obtain ⟨b, hb⟩ := Int.gcd_dvd_right n d
  unfold lowP
  generalize ((Int.gcd n d : Nat) : Int) = g at *
  subst ha
  subst hb
  rw [Int.mul_ediv_cancel_left _ (by omega), Int.mul_ediv_cancel_left _ (by omega)]
  refine ⟨Int.pos_of_mul_pos_right hd (by omega), ?_, ?_, ?_⟩
  · show a * (g * b) = g * a * b
    rw [← Int.mul_assoc, Int.mul_comm a g]
  · show a.natAbs ≤ _
    rw [Int.natAbs_mul]
    exact Nat.le_mul_of_pos_left _ (by omega)
  · show b.natAbs ≤ _
    rw [Int.natAbs_mul]
    exact Nat.le_mul_of_pos_left _ (by omega)
theorem low_facts {n d : Int} (hd : d ≠ 0) : 0 < (low n d).2 ∧ (low n d).1 * d = n * (low n d).2 ∧ (low n d).1.natAbs ≤ n.natAbs ∧ (low n d).2.natAbs ≤ d.natAbs := by
  rcases Int.lt_or_gt_of_ne hd with h1 | h1
  · have := lowP_facts (n := -n) (d := -d) (by omega)
    unfold low
    rw [if_pos h1]
    rw [Int.natAbs_neg, Int.natAbs_neg] at this
    refine ⟨this.1, ?_, this.2.2⟩
    have h2 := this.2.1
    rw [Int.mul_neg, Int.neg_mul] at h2
    omega
  · have := lowP_facts (n := n) (d := d) h1
    unfold low
    rw [if_neg (by omega)]
    exact this
theorem low_self {a b : Int} (hb : 0 < b) : low a b = (a, b) ↔ Int.gcd a b = 1 := by
  unfold low
  rw [if_neg (by omega)]
  unfold lowP
  have hg : (0 : Int) < ((Int.gcd a b : Nat) : Int) := by
    have := Int.gcd_pos_of_ne_zero_right a (show b ≠ 0 by omega)
    omega
  constructor
  · intro h
    have h2 : b / ((Int.gcd a b : Nat) : Int) = b := (Prod.mk.inj h).2
    obtain ⟨c, hc⟩ := Int.gcd_dvd_right a b
    have h3 := Int.ediv_mul_cancel (Int.gcd_dvd_right a b)
    rw [h2] at h3
    have h4 : b * ((Int.gcd a b : Nat) : Int) = b * 1 := by rw [h3, Int.mul_one]
    have := Int.eq_of_mul_eq_mul_left (show b ≠ 0 by omega) h4
    omega
  · intro h
    rw [h]
    show (a / 1, b / 1) = (a, b)
    rw [Int.ediv_one, Int.ediv_one]
end L2.W3
namespace L2.W3
theorem low_add {p q r s : Int} (hq : q ≠ 0) (hs : s ≠ 0) : low ((low p q).1 * (low r s).2 + (low r s).1 * (low p q).2) ((low p q).2 * (low r s).2) = low (p * s + r * q) (q * s) := by
  obtain ⟨a1, a2, _⟩ := low_facts (n := p) hq
  obtain ⟨b1, b2, _⟩ := low_facts (n := r) hs
  generalize (low p q).1 = a at *
  generalize (low p q).2 = y at *
  generalize (low r s).1 = z at *
  generalize (low r s).2 = w at *
  refine low_eq (Int.mul_ne_zero (by omega) (by omega)) (Int.mul_ne_zero hq hs) ?_
  grind
theorem low_mul {p q r s : Int} (hq : q ≠ 0) (hs : s ≠ 0) : low ((low p q).1 * (low r s).1) ((low p q).2 * (low r s).2) = low (p * r) (q * s) := by
  obtain ⟨a1, a2, _⟩ := low_facts (n := p) hq
  obtain ⟨b1, b2, _⟩ := low_facts (n := r) hs
  generalize (low p q).1 = a at *
  generalize (low p q).2 = y at *
  generalize (low r s).1 = z at *
  generalize (low r s).2 = w at *
  refine low_eq (Int.mul_ne_zero (by omega) (by omega)) (Int.mul_ne_zero hq hs) ?_
  grind
theorem low_plus {S K M L : Int} (hK : K ≠ 0) (hL : L ≠ 0) (e : K = M * L) : low ((low S K).1 * (low 1 L).2 + (low 1 L).1 * (low S K).2) ((low S K).2 * (low 1 L).2) = low (S + M) K := by
  rw [low_add hK hL]
  refine low_eq (Int.mul_ne_zero hK hL) hK ?_
  subst e
  grind
theorem low_zero {K : Int} (hK : K ≠ 0) : low 0 K = (0, 1) := by
  rw [low_eq hK (show (1 : Int) ≠ 0 by decide) (show (0 : Int) * 1 = 0 * K by rw [Int.zero_mul, Int.zero_mul])]
  rfl
end L2.W3

/-! Binary words, and lengths in order. -/
namespace L2.W3

/-- the word of l letters with the number n -/
def bw (n : Nat) : Nat → List Nat
  | 0 => []
  | l + 1 => (97 + n / 2 ^ l % 2) :: bw n l
theorem bw_len (n : Nat) : ∀ l, (bw n l).length = l
  | 0 => rfl
  | l + 1 => by rw [bw, List.length_cons, bw_len n l]
theorem bw_map (n : Nat) : ∀ l, bw n l = (List.range l).map fun k => 97 + n / 2 ^ (l - 1 - k) % 2
  | 0 => rfl
  | l + 1 => by
    rw [bw, bw_map n l, List.range_succ_eq_map, List.map_cons, List.map_map]
    congr 1
    refine List.map_congr_left fun k hk => ?_
    show _ = 97 + n / 2 ^ (l + 1 - 1 - (k + 1)) % 2
    rw [show l + 1 - 1 - (k + 1) = l - 1 - k by omega]
theorem bw_rev (n : Nat) : ∀ l, ((List.range l).map fun k => 97 + n / 2 ^ k % 2).reverse = bw n l
  | 0 => rfl
  | l + 1 => by
    rw [List.range_succ, List.map_append, List.reverse_append, bw_rev n l]
    rfl
theorem bw_snoc (n : Nat) : ∀ l, bw n (l + 1) = bw (n / 2) l ++ [97 + n % 2]
  | 0 => by show [97 + n / 1 % 2] = _; rw [Nat.div_one]; rfl
  | l + 1 => by
    rw [bw, bw_snoc n l, bw]
    rw [Nat.div_div_eq_div_mul, Nat.pow_succ, Nat.mul_comm (2 ^ l) 2]
    rfl
theorem bw_lt : ∀ (l n m : Nat), bw n l < bw m l ↔ n % 2 ^ l < m % 2 ^ l
  | 0, n, m => by
    show ([] : List Nat) < [] ↔ n % 1 < m % 1
    rw [Nat.mod_one, Nat.mod_one]
    constructor
    · intro h; exact absurd h (List.not_lt_nil _)
    · intro h; omega
  | l + 1, n, m => by
    rw [bw, bw, List.cons_lt_cons_iff, bw_lt l n m, Nat.mod_pow_succ, Nat.mod_pow_succ]
    have hn := Nat.mod_lt n (Nat.two_pow_pos l)
    have hm := Nat.mod_lt m (Nat.two_pow_pos l)
    generalize n % 2 ^ l = a at *
    generalize m % 2 ^ l = b at *
    have hp := Nat.mod_lt (n / 2 ^ l) (show 0 < 2 by omega)
    have hq := Nat.mod_lt (m / 2 ^ l) (show 0 < 2 by omega)
    generalize n / 2 ^ l % 2 = p at *
    generalize m / 2 ^ l % 2 = q at *
    generalize 2 ^ l = N at *
    rcases (show p = 0 ∨ p = 1 by omega) with rfl | rfl <;> rcases (show q = 0 ∨ q = 1 by omega) with rfl | rfl <;> simp only [Nat.mul_zero, Nat.mul_one] <;> constructor <;> intro h <;> first | omega | exact .inr ⟨trivial, by omega⟩
theorem bw_ne {l n m : Nat} (h : n % 2 ^ l ≠ m % 2 ^ l) : bw n l ≠ bw m l := by
  intro e
  rcases Nat.lt_or_gt_of_ne h with h | h
  · have := (bw_lt l n m).mpr h; rw [e] at this; exact absurd this (List.lt_irrefl _)
  · have := (bw_lt l m n).mpr h; rw [e] at this; exact absurd this (List.lt_irrefl _)
theorem bw_take (n : Nat) : ∀ (l b : Nat), b ≤ l → (bw n l).take b = bw (n / 2 ^ (l - b)) b
  | l, 0, _ => by rw [List.take_zero]; rfl
  | 0, b + 1, h => by omega
  | l + 1, b + 1, h => by
    rw [bw, List.take_succ_cons, bw_take n l b (by omega), bw]
    rw [show l + 1 - (b + 1) = l - b by omega, Nat.div_div_eq_div_mul, ← Nat.pow_add, show l - b + b = l by omega]
theorem bw_app (n : Nat) {l b : Nat} (h : b ≤ l) : bw n l = bw (n / 2 ^ (l - b)) b ++ (bw n l).drop b := by
  rw [← bw_take n l b h, List.take_append_drop]
theorem lt_appL : ∀ (u v x : List Nat), u.length = v.length → (u ++ x < v ↔ u < v)
  | [], [], x, _ => by
    constructor
    · intro h; exact absurd h (List.not_lt_nil _)
    · intro h; exact absurd h (List.not_lt_nil _)
  | [], b :: v, x, h => by cases h
  | a :: u, [], x, h => by cases h
  | a :: u, b :: v, x, h => by
    have h : u.length = v.length := Nat.succ.inj h
    rw [List.cons_append, List.cons_lt_cons_iff, List.cons_lt_cons_iff, lt_appL u v x h]
theorem lt_appR : ∀ (u v y : List Nat), u.length = v.length → (u < v ++ y ↔ u < v ∨ (u = v ∧ y ≠ []))
  | [], [], y, _ => by
    cases y with
    | nil =>
      constructor
      · intro h; exact absurd h (List.not_lt_nil _)
      · rintro (h | ⟨_, h⟩)
        · exact absurd h (List.not_lt_nil _)
        · exact absurd rfl h
    | cons c y => exact ⟨fun _ => .inr ⟨rfl, by simp⟩, fun _ => List.nil_lt_cons ..⟩
  | [], b :: v, x, h => by cases h
  | a :: u, [], x, h => by cases h
  | a :: u, b :: v, y, h => by
    have h0 : u.length = v.length := Nat.succ.inj h
    clear h
    rw [List.cons_append, List.cons_lt_cons_iff, List.cons_lt_cons_iff, lt_appR u v y h0, List.cons.injEq]
    constructor
    · rintro (h | ⟨e, h | ⟨e2, h⟩⟩)
      · exact .inl (.inl h)
      · exact .inl (.inr ⟨e, h⟩)
      · exact .inr ⟨⟨e, e2⟩, h⟩
    · rintro ((h | ⟨e, h⟩) | ⟨⟨e, e2⟩, h⟩)
      · exact .inl h
      · exact .inr ⟨e, .inl h⟩
      · exact .inr ⟨e, .inr ⟨e2, h⟩⟩
/-- behind a word, and all that begin with it -/
theorem bw_after {m b n l : Nat} (hm : m < 2 ^ b) (hn : n < 2 ^ l) : (bw m b < bw n l ∧ (bw n l).take b ≠ bw m b) ↔ (m + 1) * 2 ^ l ≤ n * 2 ^ b := by
  rcases Nat.le_total b l with h | h
  · have hq : n / 2 ^ (l - b) < 2 ^ b := by
      rw [Nat.div_lt_iff_lt_mul (Nat.two_pow_pos _), ← Nat.pow_add, show b + (l - b) = l by omega]; exact hn
    have e : (m + 1) * 2 ^ l ≤ n * 2 ^ b ↔ m < n / 2 ^ (l - b) := by
      rw [← Nat.succ_le_iff, Nat.le_div_iff_mul_le (Nat.two_pow_pos _)]
      have e2 : (2 : Nat) ^ l = 2 ^ (l - b) * 2 ^ b := by rw [← Nat.pow_add, show l - b + b = l by omega]
      rw [e2, ← Nat.mul_assoc]
      exact ⟨fun h => Nat.le_of_mul_le_mul_right h (Nat.two_pow_pos _), fun h => Nat.mul_le_mul_right _ h⟩
    rw [e, bw_take n l b h, bw_app n h]
    rw [lt_appR _ _ _ (by rw [bw_len, bw_len]), bw_lt, Nat.mod_eq_of_lt hm, Nat.mod_eq_of_lt hq]
    constructor
    · rintro ⟨h1 | ⟨h1, _⟩, h2⟩
      · exact h1
      · exact absurd h1.symm h2
    · intro h1
      exact ⟨.inl h1, bw_ne (by rw [Nat.mod_eq_of_lt hm, Nat.mod_eq_of_lt hq]; omega)⟩
  · rcases Nat.lt_or_eq_of_le h with h | rfl
    · have hq : m / 2 ^ (b - l) < 2 ^ l := by
        rw [Nat.div_lt_iff_lt_mul (Nat.two_pow_pos _), ← Nat.pow_add, show l + (b - l) = b by omega]; exact hm
      have e : (m + 1) * 2 ^ l ≤ n * 2 ^ b ↔ m / 2 ^ (b - l) < n := by
        rw [Nat.div_lt_iff_lt_mul (Nat.two_pow_pos _), ← Nat.succ_le_iff]
        have e2 : (2 : Nat) ^ b = 2 ^ (b - l) * 2 ^ l := by rw [← Nat.pow_add, show b - l + l = b by omega]
        rw [e2, ← Nat.mul_assoc]
        exact ⟨fun h => Nat.le_of_mul_le_mul_right h (Nat.two_pow_pos _), fun h => Nat.mul_le_mul_right _ h⟩
      rw [e, bw_app m (Nat.le_of_lt h), lt_appL _ _ _ (by rw [bw_len, bw_len]), bw_lt, Nat.mod_eq_of_lt hq, Nat.mod_eq_of_lt hn]
      refine ⟨fun h => h.1, fun h1 => ⟨h1, fun e => ?_⟩⟩
      rw [← bw_app m (Nat.le_of_lt h)] at e
      have := congrArg List.length e
      rw [List.length_take, bw_len, bw_len] at this
      omega
    · rw [List.take_of_length_le (by rw [bw_len]; omega), bw_lt, Nat.mod_eq_of_lt hm, Nat.mod_eq_of_lt hn, Nat.mul_le_mul_right_iff (Nat.two_pow_pos _)]
      refine ⟨fun h => h.1, fun h1 => ⟨h1, bw_ne (by rw [Nat.mod_eq_of_lt hm, Nat.mod_eq_of_lt hn]; omega)⟩⟩

/-- the least number of length l from x over 2 ^ b on -/
def cl (x b l : Nat) : Nat := (x * 2 ^ l + (2 ^ b - 1)) / 2 ^ b
theorem ceil_le {A D n : Nat} (hD : 0 < D) : (A + (D - 1)) / D ≤ n ↔ A ≤ n * D := by
  rw [← Nat.lt_succ_iff, Nat.div_lt_iff_lt_mul hD, Nat.succ_mul]
  omega
theorem cl_le {x b l n : Nat} : cl x b l ≤ n ↔ x * 2 ^ l ≤ n * 2 ^ b := ceil_le (Nat.two_pow_pos _)
theorem eq_of_le {a b : Nat} (h : ∀ n, a ≤ n ↔ b ≤ n) : a = b := Nat.le_antisymm ((h b).mpr (Nat.le_refl _)) ((h a).mp (Nat.le_refl _))
theorem cl_up {x b l : Nat} (h : b ≤ l) : cl x b l = x * 2 ^ (l - b) := by
  refine eq_of_le fun n => ?_
  rw [cl_le]
  have e2 : (2 : Nat) ^ l = 2 ^ (l - b) * 2 ^ b := by rw [← Nat.pow_add, show l - b + b = l by omega]
  rw [e2, ← Nat.mul_assoc]
  exact ⟨fun h => Nat.le_of_mul_le_mul_right h (Nat.two_pow_pos _), fun h => Nat.mul_le_mul_right _ h⟩
theorem cl_down {x b l : Nat} (h : l ≤ b) : cl x b l = (x + (2 ^ (b - l) - 1)) / 2 ^ (b - l) := by
  refine eq_of_le fun n => ?_
  rw [cl_le, ceil_le (Nat.two_pow_pos _)]
  have e2 : (2 : Nat) ^ b = 2 ^ (b - l) * 2 ^ l := by rw [← Nat.pow_add, show b - l + l = b by omega]
  rw [e2, ← Nat.mul_assoc]
  exact ⟨fun h => Nat.le_of_mul_le_mul_right h (Nat.two_pow_pos _), fun h => Nat.mul_le_mul_right _ h⟩
theorem cl_succ {m b l : Nat} (h : l ≤ b) : cl (m + 1) b l = m / 2 ^ (b - l) + 1 := by
  rw [cl_down h]
  have hD := Nat.two_pow_pos (b - l)
  rw [show m + 1 + (2 ^ (b - l) - 1) = m + 2 ^ (b - l) by omega, Nat.add_div_right _ hD]
/-- whether the lengths fit from x over 2 ^ b on -/
def gr : Nat → Nat → List Nat → Bool
  | _, _, [] => true
  | x, b, l :: ls => decide (cl x b l < 2 ^ l) && gr (cl x b l + 1) l ls
theorem gr_mono : ∀ (ls : List Nat) (x b y c : Nat), x * 2 ^ c ≤ y * 2 ^ b → gr y c ls = true → gr x b ls = true
  | [], _, _, _, _, _, _ => rfl
  | l :: ls, x, b, y, c, h, g => by
    rw [gr, Bool.and_eq_true, decide_eq_true_iff] at *
    have h1 : cl x b l ≤ cl y c l := by
      rw [cl_le]
      have h2 : y * 2 ^ l ≤ cl y c l * 2 ^ c := cl_le.mp (Nat.le_refl _)
      refine Nat.le_of_mul_le_mul_right (c := 2 ^ c) ?_ (Nat.two_pow_pos _)
      calc x * 2 ^ l * 2 ^ c = x * 2 ^ c * 2 ^ l := by rw [Nat.mul_right_comm]
        _ ≤ y * 2 ^ b * 2 ^ l := Nat.mul_le_mul_right _ h
        _ = y * 2 ^ l * 2 ^ b := by rw [Nat.mul_right_comm]
        _ ≤ cl y c l * 2 ^ c * 2 ^ b := Nat.mul_le_mul_right _ h2
        _ = cl y c l * 2 ^ b * 2 ^ c := by rw [Nat.mul_right_comm]
    exact ⟨by omega, gr_mono ls _ _ _ _ (Nat.mul_le_mul_right _ (by omega)) g.2⟩
/-- one word behind another one, and behind all that begin with it -/
def Af (o u : Nat × Nat) : Prop := (o.1 + 1) * 2 ^ u.2 ≤ u.1 * 2 ^ o.2
theorem Af.trans {a b c : Nat × Nat} (h : Af a b) (g : Af b c) : Af a c := by
  unfold Af at *
  refine Nat.le_of_mul_le_mul_right (c := 2 ^ b.2) ?_ (Nat.two_pow_pos _)
  calc (a.1 + 1) * 2 ^ c.2 * 2 ^ b.2 = (a.1 + 1) * 2 ^ b.2 * 2 ^ c.2 := by rw [Nat.mul_right_comm]
    _ ≤ b.1 * 2 ^ a.2 * 2 ^ c.2 := Nat.mul_le_mul_right _ h
    _ = b.1 * 2 ^ c.2 * 2 ^ a.2 := by rw [Nat.mul_right_comm]
    _ ≤ (b.1 + 1) * 2 ^ c.2 * 2 ^ a.2 := Nat.mul_le_mul_right _ (Nat.mul_le_mul_right _ (by omega))
    _ ≤ c.1 * 2 ^ b.2 * 2 ^ a.2 := Nat.mul_le_mul_right _ g
    _ = c.1 * 2 ^ a.2 * 2 ^ b.2 := by rw [Nat.mul_right_comm]
end L2.W3

/-! M10: squares, overlaps, words without them. -/
namespace L2.W3
def sqb (w : List Nat) (p h : Nat) : Bool := decide ((w.drop p).take h = (w.drop (p + h)).take h)
def sqAt (w : List Nat) (p : Nat) : List Nat := (List.range' 1 ((w.length - p) / 2)).filter (sqb w p)
def sqL (w : List Nat) : List (Nat × Nat) := ((List.range w.length).map fun p => (sqAt w p).map fun h => (p, h)).flatten
def ovb (w : List Nat) (q : Nat × Nat) : Bool := decide (q.1 + 2 * q.2 < w.length ∧ w.getD (q.1 + 2 * q.2) 0 = w.getD q.1 0)
def ovL (w : List Nat) : List (Nat × Nat) := (sqL w).filter (ovb w)
/-- m = 0: no squares; m = 1: no overlaps -/
def Fr (m : Nat) (w : List Nat) : Prop := ∀ p h, 1 ≤ h → p + 2 * h + m ≤ w.length → ∃ j, j < h + m ∧ w[p + j]? ≠ w[p + h + j]?
def frB (m : Nat) (w : List Nat) : Bool := match m with
  | 0 => decide (sqL w = [])
  | _ => decide (ovL w = [])
def endB (m : Nat) (w : List Nat) : Bool := (List.range' 1 ((w.length - m) / 2)).all fun h => !decide (w.drop (w.length - h - m) = (w.drop (w.length - 2 * h - m)).take (h + m))
theorem cut_eq {w : List Nat} {p h i : Nat} : (w.drop p).take i = (w.drop (p + h)).take i ↔ ∀ j, j < i → w[p + j]? = w[p + h + j]? := by
  constructor
  · intro e j hj
    have := congrArg (fun l => l[j]?) e
    simp only [List.getElem?_take, List.getElem?_drop, hj, if_true] at this
    exact this
  · intro H
    refine List.ext_getElem? fun j => ?_
    rw [List.getElem?_take, List.getElem?_take, List.getElem?_drop, List.getElem?_drop]
    by_cases hj : j < i
    · rw [if_pos hj, if_pos hj]; exact H j hj
    · rw [if_neg hj, if_neg hj]
theorem sqb_iff {w : List Nat} {p h : Nat} : sqb w p h = true ↔ ∀ j, j < h → w[p + j]? = w[p + h + j]? := by
  unfold sqb
  rw [decide_eq_true_iff]
  exact cut_eq
theorem mem_sqAt {w : List Nat} {p h : Nat} : h ∈ sqAt w p ↔ (1 ≤ h ∧ h ≤ (w.length - p) / 2) ∧ sqb w p h = true := by
  unfold sqAt
  rw [List.mem_filter, List.mem_range'_1]
  constructor
  · rintro ⟨h1, h2⟩; exact ⟨by omega, h2⟩
  · rintro ⟨h1, h2⟩; exact ⟨by omega, h2⟩
theorem mem_sqL {w : List Nat} {p h : Nat} : (p, h) ∈ sqL w ↔ 1 ≤ h ∧ p + 2 * h ≤ w.length ∧ sqb w p h = true := by
  unfold sqL
  rw [List.mem_flatten]
  constructor
  · rintro ⟨l, hl, hm⟩
    obtain ⟨p', hp', rfl⟩ := List.mem_map.mp hl
    obtain ⟨h', hh', e⟩ := List.mem_map.mp hm
    obtain ⟨rfl, rfl⟩ := Prod.mk.inj e
    have := List.mem_range.mp hp'
    obtain ⟨h1, h2⟩ := mem_sqAt.mp hh'
    exact ⟨h1.1, by omega, h2⟩
  · rintro ⟨h1, h2, h3⟩
    exact ⟨_, List.mem_map.mpr ⟨p, List.mem_range.mpr (by omega), rfl⟩, List.mem_map.mpr ⟨h, mem_sqAt.mpr ⟨⟨h1, by omega⟩, h3⟩, rfl⟩⟩
/-- the law goes through more halves -/
theorem sqAt_law {w : List Nat} {p : Nat} (hp : p < w.length) : ((List.range' 1 (w.length - 1)).filter fun h => decide (p + 2 * h ≤ w.length) && sqb w p h) = sqAt w p := by
  have e : List.range' 1 (w.length - 1) = List.range' 1 ((w.length - p) / 2) ++ List.range' (1 + (w.length - p) / 2) (w.length - 1 - (w.length - p) / 2) := by
    have := List.range'_append_1 (s := 1) (m := (w.length - p) / 2) (n := w.length - 1 - (w.length - p) / 2)
    rw [this]
    congr 1
    omega
  rw [e, List.filter_append]
  have e2 : (List.range' (1 + (w.length - p) / 2) (w.length - 1 - (w.length - p) / 2)).filter (fun h => decide (p + 2 * h ≤ w.length) && sqb w p h) = [] := by
    rw [List.filter_eq_nil_iff]
    intro h hh
    rw [List.mem_range'_1] at hh
    rw [decide_eq_false (by omega), Bool.false_and]
    exact Bool.false_ne_true
  rw [e2, List.append_nil]
  unfold sqAt
  refine List.filter_congr fun h hh => ?_
  rw [List.mem_range'_1] at hh
  rw [decide_eq_true (by omega), Bool.true_and]
theorem fr0 {w : List Nat} : sqL w = [] ↔ Fr 0 w := by
  rw [List.eq_nil_iff_forall_not_mem]
  constructor
  · intro H p h h1 h2
    have := H (p, h)
    rw [mem_sqL] at this
    refine Classical.byContradiction fun hn => this ⟨h1, by omega, sqb_iff.mpr fun j hj => Classical.byContradiction fun hne => hn ⟨j, by omega, hne⟩⟩
  · rintro H ⟨p, h⟩ hm
    obtain ⟨h1, h2, h3⟩ := mem_sqL.mp hm
    obtain ⟨j, hj, hne⟩ := H p h h1 (by omega)
    exact hne (sqb_iff.mp h3 j (by omega))
theorem getD_eq {w : List Nat} {i j : Nat} (hi : i < w.length) (hj : j < w.length) : w.getD i 0 = w.getD j 0 ↔ w[i]? = w[j]? := by
  rw [List.getD_eq_getElem?_getD, List.getD_eq_getElem?_getD, List.getElem?_eq_getElem hi, List.getElem?_eq_getElem hj]
  constructor
  · intro h; exact congrArg some h
  · intro h; exact Option.some.inj h
theorem mem_ovL {w : List Nat} {p h : Nat} : (p, h) ∈ ovL w ↔ 1 ≤ h ∧ p + 2 * h + 1 ≤ w.length ∧ ∀ j, j < h + 1 → w[p + j]? = w[p + h + j]? := by
  unfold ovL
  rw [List.mem_filter, mem_sqL]
  unfold ovb
  rw [decide_eq_true_iff]
  constructor
  · rintro ⟨⟨h1, h2, h3⟩, h4, h5⟩
    have h4 : p + 2 * h < w.length := h4
    have h5 : w.getD (p + 2 * h) 0 = w.getD p 0 := h5
    have h3 := sqb_iff.mp h3
    refine ⟨h1, by omega, fun j hj => ?_⟩
    rcases Nat.lt_or_ge j h with h6 | h6
    · exact h3 j h6
    · rw [show j = h by omega]
      have a := h3 0 (by omega)
      rw [Nat.add_zero, Nat.add_zero] at a
      rw [← a, show p + h + h = p + 2 * h by omega]
      exact ((getD_eq h4 (by omega)).mp h5).symm
  · rintro ⟨h1, h2, h3⟩
    refine ⟨⟨h1, by omega, sqb_iff.mpr fun j hj => h3 j (by omega)⟩, by show p + 2 * h < _; omega, ?_⟩
    show w.getD (p + 2 * h) 0 = w.getD p 0
    rw [getD_eq (by omega) (by omega)]
    have a := h3 0 (by omega)
    have b := h3 h (by omega)
    rw [Nat.add_zero, Nat.add_zero] at a
    rw [a, b]
    congr 1; omega
theorem fr1 {w : List Nat} : ovL w = [] ↔ Fr 1 w := by
  rw [List.eq_nil_iff_forall_not_mem]
  constructor
  · intro H p h h1 h2
    have := H (p, h)
    rw [mem_ovL] at this
    exact Classical.byContradiction fun hn => this ⟨h1, by omega, fun j hj => Classical.byContradiction fun hne => hn ⟨j, hj, hne⟩⟩
  · rintro H ⟨p, h⟩ hm
    obtain ⟨h1, h2, h3⟩ := mem_ovL.mp hm
    obtain ⟨j, hj, hne⟩ := H p h h1 (by omega)
    exact hne (h3 j hj)
theorem frB_iff {m : Nat} (hm : m ≤ 1) {w : List Nat} : frB m w = true ↔ Fr m w := by
  rcases (by omega : m = 0 ∨ m = 1) with rfl | rfl
  · show decide _ = true ↔ _; rw [decide_eq_true_iff]; exact fr0
  · show decide _ = true ↔ _; rw [decide_eq_true_iff]; exact fr1
theorem endB_iff {m : Nat} {w : List Nat} : endB m w = true ↔ ∀ h, 1 ≤ h → 2 * h + m ≤ w.length → ∃ j, j < h + m ∧ w[w.length - 2 * h - m + j]? ≠ w[w.length - 2 * h - m + h + j]? := by
  unfold endB
  rw [List.all_eq_true]
  have key : ∀ h, 1 ≤ h → 2 * h + m ≤ w.length → ((!decide (w.drop (w.length - h - m) = (w.drop (w.length - 2 * h - m)).take (h + m))) = true ↔ ∃ j, j < h + m ∧ w[w.length - 2 * h - m + j]? ≠ w[w.length - 2 * h - m + h + j]?) := by
    intro h h1 h2
    have e : w.drop (w.length - h - m) = (w.drop (w.length - 2 * h - m + h)).take (h + m) := by
      rw [show w.length - 2 * h - m + h = w.length - h - m by omega]
      exact (List.take_of_length_le (by rw [List.length_drop]; omega)).symm
    rw [e, Bool.not_eq_true', decide_eq_false_iff_not]
    rw [show ((w.drop (w.length - 2 * h - m + h)).take (h + m) = (w.drop (w.length - 2 * h - m)).take (h + m)) ↔ ((w.drop (w.length - 2 * h - m)).take (h + m) = (w.drop (w.length - 2 * h - m + h)).take (h + m)) from eq_comm, cut_eq]
    constructor
    · intro hn
      exact Classical.byContradiction fun h3 => hn fun j hj => Classical.byContradiction fun hne => h3 ⟨j, hj, hne⟩
    · rintro ⟨j, hj, hne⟩ H
      exact hne (H j hj)
  constructor
  · intro H h h1 h2
    exact (key h h1 h2).mp (H h (List.mem_range'_1.mpr (by omega)))
  · intro H h hh
    rw [List.mem_range'_1] at hh
    by_cases h2 : 2 * h + m ≤ w.length
    · exact (key h hh.1 h2).mpr (H h hh.1 h2)
    · omega
theorem fr_snoc {m : Nat} {w : List Nat} {c : Nat} : Fr m (w ++ [c]) ↔ Fr m w ∧ endB m (w ++ [c]) = true := by
  have hl : (w ++ [c]).length = w.length + 1 := by rw [List.length_append]; rfl
  have low : ∀ i, i < w.length → (w ++ [c])[i]? = w[i]? := fun i hi => List.getElem?_append_left hi
  rw [endB_iff]
  constructor
  · intro H
    constructor
    · intro p h h1 h2
      obtain ⟨j, hj, hne⟩ := H p h h1 (by rw [hl]; omega)
      refine ⟨j, hj, ?_⟩
      rwa [low _ (by omega), low _ (by omega)] at hne
    · intro h h1 h2
      exact H _ h h1 (by omega)
  · rintro ⟨H, E⟩ p h h1 h2
    rw [hl] at h2
    rcases Nat.lt_or_ge (p + 2 * h + m) (w.length + 1) with h3 | h3
    · obtain ⟨j, hj, hne⟩ := H p h h1 (by omega)
      exact ⟨j, hj, by rwa [low _ (by omega), low _ (by omega)]⟩
    · obtain ⟨j, hj, hne⟩ := E h h1 (by rw [hl]; omega)
      rw [show (w ++ [c]).length - 2 * h - m = p by rw [hl]; omega] at hne
      exact ⟨j, hj, hne⟩
theorem frB_snoc {m : Nat} (hm : m ≤ 1) (w : List Nat) (c : Nat) : frB m (w ++ [c]) = (frB m w && endB m (w ++ [c])) := by
  have a := frB_iff hm (w := w ++ [c])
  have b := frB_iff hm (w := w)
  have d := fr_snoc (m := m) (w := w) (c := c)
  rw [← a, ← b] at d
  cases h1 : frB m (w ++ [c]) <;> cases h2 : frB m w <;> cases h3 : endB m (w ++ [c]) <;> simp_all
/-- words with one letter more -/
def moreW (k : Nat) (r : List Nat) : List (List Nat) := (List.range k).map fun j => r ++ [97 + j]
def allW (k : Nat) : Nat → List (List Nat)
  | 0 => [[]]
  | n + 1 => ((allW k n).map (moreW k)).flatten
def longW (m k : Nat) (ws : List (List Nat)) : List (List Nat) := (ws.map fun r => (moreW k r).filter (endB m)).flatten
def freeW (m k : Nat) : Nat → List (List Nat)
  | 0 => [[]]
  | n + 1 => longW m k (freeW m k n)
theorem freeW_all {m : Nat} (hm : m ≤ 1) (k : Nat) : ∀ n, freeW m k n = (allW k n).filter (frB m)
  | 0 => by rcases (by omega : m = 0 ∨ m = 1) with rfl | rfl <;> rfl
  | n + 1 => by
    show longW m k (freeW m k n) = (((allW k n).map (moreW k)).flatten).filter (frB m)
    rw [freeW_all hm k n, List.filter_flatten, List.map_map]
    unfold longW
    generalize allW k n = L
    have one : ∀ r, (moreW k r).filter (frB m) = if frB m r then (moreW k r).filter (endB m) else [] := by
      intro r
      cases hr : frB m r with
      | true =>
        rw [if_pos rfl]
        refine List.filter_congr fun x hx => ?_
        obtain ⟨j, _, rfl⟩ := List.mem_map.mp hx
        rw [frB_snoc hm, hr, Bool.true_and]
      | false =>
        rw [if_neg Bool.false_ne_true, List.filter_eq_nil_iff]
        intro x hx
        obtain ⟨j, _, rfl⟩ := List.mem_map.mp hx
        rw [frB_snoc hm, hr, Bool.false_and]
        exact Bool.false_ne_true
    induction L with
    | nil => rfl
    | cons r L ih =>
      rw [List.map_cons, List.flatten_cons, ← ih]
      show _ = (moreW k r).filter (frB m) ++ _
      rw [one, List.filter_cons]
      cases hr : frB m r with
      | true => rw [if_pos rfl, if_pos rfl, List.map_cons, List.flatten_cons]
      | false => rw [if_neg Bool.false_ne_true, if_neg Bool.false_ne_true]; rfl
theorem allW_mem (k : Nat) : ∀ n, ∀ w ∈ allW k n, w.length = n ∧ ∀ c ∈ w, 97 ≤ c ∧ c < 97 + k
  | 0, w, h => by rw [List.mem_singleton.mp h]; exact ⟨rfl, fun c hc => by cases hc⟩
  | n + 1, w, h => by
    obtain ⟨l, hl, hw⟩ := List.mem_flatten.mp h
    obtain ⟨r, hr, rfl⟩ := List.mem_map.mp hl
    obtain ⟨j, hj, rfl⟩ := List.mem_map.mp hw
    obtain ⟨e, hc⟩ := allW_mem k n r hr
    have hj := List.mem_range.mp hj
    refine ⟨by rw [List.length_append, e]; rfl, fun c hc2 => ?_⟩
    rcases List.mem_append.mp hc2 with h3 | h3
    · exact hc c h3
    · rw [List.mem_singleton.mp h3]; omega
theorem freeW_mem {m : Nat} (hm : m ≤ 1) (k n : Nat) {w : List Nat} (h : w ∈ freeW m k n) : w.length = n ∧ (∀ c ∈ w, 97 ≤ c ∧ c < 97 + k) ∧ frB m w = true := by
  rw [freeW_all hm, List.mem_filter] at h
  exact ⟨(allW_mem k n w h.1).1, (allW_mem k n w h.1).2, h.2⟩
theorem allW_len (k : Nat) : ∀ n, (allW k n).length = k ^ n
  | 0 => rfl
  | n + 1 => by
    show (((allW k n).map (moreW k)).flatten).length = _
    rw [List.length_flatten, List.map_map, Nat.pow_succ, ← allW_len k n]
    generalize allW k n = L
    induction L with
    | nil => simp
    | cons a L ih =>
      rw [List.map_cons, List.sum_cons, ih, List.length_cons, Nat.succ_mul, Nat.add_comm]
      congr 1
      show (moreW k a).length = k
      unfold moreW
      rw [List.length_map, List.length_range]
theorem snoc_lt {u v : List Nat} (e : u.length = v.length) (h : u < v) (x y : List Nat) : u ++ x < v ++ y := by
  induction u generalizing v with
  | nil =>
    cases v with
    | nil => exact absurd h (List.lt_irrefl _)
    | cons a v => cases e
  | cons a u ih =>
    cases v with
    | nil => cases e
    | cons b v =>
      rcases List.cons_lt_cons_iff.mp h with h1 | ⟨h1, h2⟩
      · exact List.cons_lt_cons_iff.mpr (.inl h1)
      · exact List.cons_lt_cons_iff.mpr (.inr ⟨h1, ih (Nat.succ.inj e) h2⟩)
theorem lt_snoc (u : List Nat) {a b : Nat} (h : a < b) : u ++ [a] < u ++ [b] := by
  induction u with
  | nil => exact List.cons_lt_cons_iff.mpr (.inl h)
  | cons c u ih => exact List.cons_lt_cons_iff.mpr (.inr ⟨rfl, ih⟩)
theorem allW_sorted (k : Nat) : ∀ n, (allW k n).Pairwise (· < ·)
  | 0 => List.pairwise_singleton _ _
  | n + 1 => by
    show (((allW k n).map (moreW k)).flatten).Pairwise _
    rw [List.pairwise_flatten]
    constructor
    · intro l hl
      obtain ⟨r, hr, rfl⟩ := List.mem_map.mp hl
      unfold moreW
      exact List.pairwise_map.mpr (List.pairwise_lt_range.imp fun {a b} h => lt_snoc r (by omega))
    · refine List.pairwise_map.mpr (List.Pairwise.imp_of_mem (fun {a b} ha hb h => ?_) (allW_sorted k n))
      intro x hx y hy
      obtain ⟨i, _, rfl⟩ := List.mem_map.mp hx
      obtain ⟨j, _, rfl⟩ := List.mem_map.mp hy
      exact snoc_lt ((allW_mem k n a ha).1.trans (allW_mem k n b hb).1.symm) h _ _
theorem freeW_sorted {m : Nat} (hm : m ≤ 1) (k n : Nat) : (freeW m k n).Pairwise (· < ·) := by
  rw [freeW_all hm]
  exact (allW_sorted k n).filter _
end L2.W3

/-! M13: words as numbers over k letters; codes for lengths. -/
namespace L2.W3
/-- the word of l letters with the number n -/
def wr (k n l : Nat) : List Nat := ((List.range l).map fun t => 97 + n / k ^ t % k).reverse
theorem wr_len (k n l : Nat) : (wr k n l).length = l := by
  unfold wr
  rw [List.length_reverse, List.length_map, List.length_range]
theorem wr_get (k n : Nat) {l j : Nat} (h : j < l) : (wr k n l)[j]? = some (97 + n / k ^ (l - 1 - j) % k) := by
  unfold wr
  rw [List.getElem?_reverse (by rw [List.length_map, List.length_range]; exact h), List.length_map, List.length_range, List.getElem?_map, List.getElem?_range (by omega)]
  rfl
theorem wr_succ (k n l : Nat) : wr k n (l + 1) = (97 + n / k ^ l % k) :: wr k n l := by
  unfold wr
  rw [List.range_succ, List.map_append, List.reverse_append]
  rfl
theorem wr_take (k n : Nat) {l b : Nat} (h : b ≤ l) : (wr k n l).take b = wr k (n / k ^ (l - b)) b := by
  refine List.ext_getElem? fun j => ?_
  rw [List.getElem?_take]
  by_cases hj : j < b
  · rw [if_pos hj, wr_get k n (by omega), wr_get k _ hj, Nat.div_div_eq_div_mul, ← Nat.pow_add]
    rw [show l - b + (b - 1 - j) = l - 1 - j by omega]
  · rw [if_neg hj]
    exact (List.getElem?_eq_none (by rw [wr_len]; omega)).symm
theorem wr_snoc {k : Nat} (n l : Nat) {j : Nat} (hj : j < k) : wr k (n * k + j) (l + 1) = wr k n l ++ [97 + j] := by
  refine List.ext_getElem? fun i => ?_
  by_cases hi : i < l
  · rw [wr_get k _ (by omega), List.getElem?_append_left (by rw [wr_len]; exact hi), wr_get k n hi]
    rw [show l + 1 - 1 - i = (l - 1 - i) + 1 by omega, Nat.pow_succ, Nat.mul_comm (k ^ (l - 1 - i)), ← Nat.div_div_eq_div_mul]
    rw [Nat.mul_comm n k, Nat.mul_add_div (by omega), Nat.div_eq_of_lt hj, Nat.add_zero]
  · by_cases h2 : i = l
    · subst h2
      rw [wr_get k _ (by omega), List.getElem?_append_right (by rw [wr_len]; exact Nat.le_refl _), wr_len]
      rw [show i + 1 - 1 - i = 0 by omega, Nat.sub_self, Nat.pow_zero, Nat.div_one, Nat.mul_comm n k, Nat.mul_add_mod, Nat.mod_eq_of_lt hj]
      rfl
    · rw [List.getElem?_eq_none (by rw [wr_len]; omega), List.getElem?_eq_none (by rw [List.length_append, wr_len]; show l + 1 ≤ i; omega)]
theorem wr_inj {k : Nat} (hk : 0 < k) : ∀ (l : Nat) {a b : Nat}, a < k ^ l → b < k ^ l → wr k a l = wr k b l → a = b
  | 0, a, b, ha, hb, _ => by
    rw [Nat.pow_zero] at ha hb
    omega
  | l + 1, a, b, ha, hb, h => by
    have ea : a = a / k * k + a % k := by have := Nat.div_add_mod a k; rw [Nat.mul_comm] at this; omega
    have eb : b = b / k * k + b % k := by have := Nat.div_add_mod b k; rw [Nat.mul_comm] at this; omega
    rw [ea, eb, wr_snoc _ _ (Nat.mod_lt _ hk), wr_snoc _ _ (Nat.mod_lt _ hk)] at h
    have h1 := List.append_inj_left' h rfl
    have h2 := List.append_inj_right' h rfl
    have h3 := wr_inj hk l (a := a / k) (b := b / k) (by rw [Nat.pow_succ] at ha; exact Nat.div_lt_of_lt_mul (by rw [Nat.mul_comm]; exact ha)) (by rw [Nat.pow_succ] at hb; exact Nat.div_lt_of_lt_mul (by rw [Nat.mul_comm]; exact hb)) h1
    have h4 : a % k = b % k := by
      have := (List.cons.inj h2).1
      omega
    rw [ea, eb, h3, h4]
theorem range_blocks (k : Nat) : ∀ a, ((List.range a).map fun x => (List.range k).map fun j => x * k + j).flatten = List.range (a * k)
  | 0 => by rw [Nat.zero_mul]; rfl
  | a + 1 => by
    rw [List.range_succ, List.map_append, List.flatten_append, range_blocks k a, Nat.succ_mul, List.range_add]
    show _ ++ ((_ : List Nat) ++ []) = _
    rw [List.append_nil]
theorem allW_wr {k : Nat} : ∀ l, allW k l = (List.range (k ^ l)).map fun n => wr k n l
  | 0 => rfl
  | l + 1 => by
    show ((allW k l).map (moreW k)).flatten = _
    rw [allW_wr l, Nat.pow_succ, ← range_blocks, List.map_flatten, List.map_map, List.map_map]
    congr 1
    refine List.map_congr_left fun n _ => ?_
    show (List.range k).map (fun j => wr k n l ++ [97 + j]) = ((List.range k).map fun j => n * k + j).map fun n => wr k n (l + 1)
    rw [List.map_map]
    refine List.map_congr_left fun j hj => ?_
    exact (wr_snoc n l (List.mem_range.mp hj)).symm
/-- the words that are told, by their places -/
def canW (k : Nat) : List (Nat × Nat) → Nat → Nat → List (List Nat) → List (List Nat)
  | [], _, _, W => W
  | (l, i) :: ps, N, b, W => canW k ps (N * k ^ (l - b) + 1) l (W.set i (wr k (N * k ^ (l - b)) l))
/-- the same with places that have no word yet; none where there is no word left -/
def canO (k : Nat) : List (Nat × Nat) → Nat → Nat → List (Option (List Nat)) → Option (List (Option (List Nat)))
  | [], _, _, W => some W
  | (l, i) :: ps, N, b, W => if N * k ^ (l - b) < k ^ l then canO k ps (N * k ^ (l - b) + 1) l (W.set i (some (wr k (N * k ^ (l - b)) l))) else none
/-- which words begin with one that is there -/
def Occ (k : Nat) (W : List (Option (List Nat))) (N b : Nat) : Prop := ∀ l, b ≤ l → ∀ n, n < k ^ l → ((∃ w, some w ∈ W ∧ (wr k n l).take w.length = w) ↔ n < N * k ^ (l - b))
theorem occ_nil (k m : Nat) : Occ k (List.replicate m none) 0 0 := fun l _ n _ => by
  rw [Nat.zero_mul]
  constructor
  · rintro ⟨w, hw, _⟩
    have := List.eq_of_mem_replicate hw
    cases this
  · intro h; exact absurd h (Nat.not_lt_zero _)
theorem mem_set_none {W : List (Option (List Nat))} {i : Nat} {v w : List Nat} (hi : W[i]? = some none) : some w ∈ W.set i (some v) ↔ w = v ∨ some w ∈ W := by
  obtain ⟨hlt, e⟩ := List.getElem?_eq_some_iff.mp hi
  constructor
  · intro h
    rcases List.mem_or_eq_of_mem_set h with h | h
    · exact .inr h
    · exact .inl (Option.some.inj h)
  · rintro (rfl | h)
    · exact List.mem_set hlt _
    · obtain ⟨j, hj, e2⟩ := List.mem_iff_getElem.mp h
      have hne : i ≠ j := by
        rintro rfl
        rw [e] at e2; cases e2
      have : (W.set i (some v))[j]'(by rw [List.length_set]; exact hj) = some w := by
        rw [List.getElem_set_ne hne]; exact e2
      exact this ▸ List.getElem_mem _
theorem occ_step {k N b l i : Nat} {W : List (Option (List Nat))} (hk : 0 < k) (ho : Occ k W N b) (hb : b ≤ l) (hN : N * k ^ (l - b) < k ^ l) (hi : W[i]? = some none) : Occ k (W.set i (some (wr k (N * k ^ (l - b)) l))) (N * k ^ (l - b) + 1) l := by
  intro l' hl' n hn
  have hK : 0 < k ^ (l' - l) := Nat.pow_pos hk
  have e1 : N * k ^ (l' - b) = N * k ^ (l - b) * k ^ (l' - l) := by
    rw [Nat.mul_assoc, ← Nat.pow_add, show l - b + (l' - l) = l' - b by omega]
  have hold := ho l' (by omega) n hn
  rw [e1] at hold
  generalize N * k ^ (l - b) = M at *
  have hnew : (wr k n l').take (wr k M l).length = wr k M l ↔ n / k ^ (l' - l) = M := by
    rw [wr_len, wr_take k n hl']
    constructor
    · intro h
      refine wr_inj hk l ?_ hN h
      refine Nat.div_lt_of_lt_mul ?_
      rw [← Nat.pow_add, show l' - l + l = l' by omega]
      exact hn
    · intro h; rw [h]
  have hdiv : n / k ^ (l' - l) = M ↔ M * k ^ (l' - l) ≤ n ∧ n < (M + 1) * k ^ (l' - l) := by
    constructor
    · intro h
      subst h
      refine ⟨Nat.div_mul_le_self n _, ?_⟩
      have h1 := Nat.div_add_mod n (k ^ (l' - l))
      have h2 := Nat.mod_lt n hK
      rw [Nat.succ_mul, Nat.mul_comm (n / k ^ (l' - l))]
      omega
    · rintro ⟨h1, h2⟩
      exact Nat.div_eq_of_lt_le h1 h2
  constructor
  · rintro ⟨w, hw, ht⟩
    rcases (mem_set_none hi).mp hw with rfl | hw
    · exact (hdiv.mp (hnew.mp ht)).2
    · have := hold.mp ⟨w, hw, ht⟩
      rw [Nat.succ_mul]; omega
  · intro h
    by_cases h2 : n < M * k ^ (l' - l)
    · obtain ⟨w, hw, ht⟩ := hold.mpr h2
      exact ⟨w, (mem_set_none hi).mpr (.inr hw), ht⟩
    · exact ⟨_, (mem_set_none hi).mpr (.inl rfl), hnew.mpr (hdiv.mpr ⟨by omega, h⟩)⟩
/-- there is a word each time just if the sum is at most one -/
theorem canO_fits {k T : Nat} (hk : 0 < k) : ∀ (ps : List (Nat × Nat)) (N b : Nat) (W : List (Option (List Nat))), b ≤ T → N ≤ k ^ b → (∀ p ∈ ps, b ≤ p.1 ∧ p.1 ≤ T) → ps.Pairwise (fun x y => x.1 ≤ y.1) → ((canO k ps N b W).isSome = true ↔ N * k ^ (T - b) + (ps.map fun p => k ^ (T - p.1)).sum ≤ k ^ T)
  | [], N, b, W, hb, hN, _, _ => by
    show (some W).isSome = true ↔ N * k ^ (T - b) + 0 ≤ k ^ T
    have : N * k ^ (T - b) ≤ k ^ T := by
      rw [show k ^ T = k ^ b * k ^ (T - b) by rw [← Nat.pow_add, show b + (T - b) = T by omega]]
      exact Nat.mul_le_mul_right _ hN
    simp [this]
  | (l, i) :: ps, N, b, W, hb, hN, hp, hs => by
    have h1 := hp (l, i) (List.mem_cons_self ..)
    have h1 : b ≤ l ∧ l ≤ T := h1
    rw [List.pairwise_cons] at hs
    have hKT : 0 < k ^ (T - l) := Nat.pow_pos hk
    have e1 : N * k ^ (T - b) = N * k ^ (l - b) * k ^ (T - l) := by
      rw [Nat.mul_assoc, ← Nat.pow_add, show l - b + (T - l) = T - b by omega]
    have e2 : k ^ T = k ^ l * k ^ (T - l) := by rw [← Nat.pow_add, show l + (T - l) = T by omega]
    show (if N * k ^ (l - b) < k ^ l then canO k ps (N * k ^ (l - b) + 1) l (W.set i (some (wr k (N * k ^ (l - b)) l))) else none).isSome = true ↔ N * k ^ (T - b) + (k ^ (T - l) + (ps.map fun p => k ^ (T - p.1)).sum) ≤ k ^ T
    rw [e1]
    by_cases h2 : N * k ^ (l - b) < k ^ l
    · rw [if_pos h2, canO_fits hk ps _ l _ h1.2 h2 (fun p hpp => ⟨hs.1 p hpp, (hp p (List.mem_cons_of_mem _ hpp)).2⟩) hs.2, Nat.succ_mul]
      generalize (ps.map fun p => k ^ (T - p.1)).sum = S
      constructor <;> intro h <;> omega
    · rw [if_neg h2]
      have h3 : k ^ l * k ^ (T - l) ≤ N * k ^ (l - b) * k ^ (T - l) := Nat.mul_le_mul_right _ (by omega)
      rw [e2]
      constructor
      · intro h; cases h
      · intro h; omega
/-- all places are filled with the same words -/
theorem canO_canW {k : Nat} : ∀ (ps : List (Nat × Nat)) (N b : Nat) (W : List (Option (List Nat))) (V : List (List Nat)), W.length = V.length → (∀ j, j < V.length → (∀ p ∈ ps, p.2 ≠ j) → W[j]? = some V[j]?) → ∀ R, canO k ps N b W = some R → R = (canW k ps N b V).map some
  | [], N, b, W, V, hl, hw, R, h => by
    cases h
    refine List.ext_getElem? fun j => ?_
    show W[j]? = (V.map some)[j]?
    rw [List.getElem?_map]
    by_cases hj : j < V.length
    · rw [hw j hj (fun p hp => by cases hp), List.getElem?_eq_getElem hj]; rfl
    · rw [List.getElem?_eq_none (by omega), List.getElem?_eq_none (by omega)]; rfl
  | (l, i) :: ps, N, b, W, V, hl, hw, R, h => by
    have h : (if N * k ^ (l - b) < k ^ l then canO k ps (N * k ^ (l - b) + 1) l (W.set i (some (wr k (N * k ^ (l - b)) l))) else none) = some R := h
    by_cases h2 : N * k ^ (l - b) < k ^ l
    · rw [if_pos h2] at h
      refine canO_canW ps _ l _ (V.set i (wr k (N * k ^ (l - b)) l)) (by rw [List.length_set, List.length_set]; exact hl) (fun j hj hp => ?_) R h
      rw [List.length_set] at hj
      by_cases hij : i = j
      · subst hij
        rw [List.getElem?_set_self (by omega), List.getElem?_set_self hj]
      · rw [List.getElem?_set_ne hij, List.getElem?_set_ne hij]
        refine hw j hj fun p hpp => ?_
        rcases List.mem_cons.mp hpp with rfl | hpp
        · exact hij
        · exact hp p hpp
    · rw [if_neg h2] at h; cases h
/-- which words are left -/
theorem left_words (a m : Nat) : (List.range m).filter (fun n => !decide (n < a)) = List.range' a (m - a) := by
  by_cases h : a ≤ m
  · have e : List.range m = List.range a ++ List.range' a (m - a) := by
      rw [List.range_eq_range', List.range_eq_range']
      have := List.range'_append_1 (s := 0) (m := a) (n := m - a)
      rw [Nat.zero_add] at this
      rw [this]
      congr 1; omega
    rw [e, List.filter_append]
    have e1 : (List.range a).filter (fun n => !decide (n < a)) = [] := by
      rw [List.filter_eq_nil_iff]
      intro n hn
      rw [decide_eq_true (List.mem_range.mp hn)]
      exact Bool.false_ne_true
    have e2 : (List.range' a (m - a)).filter (fun n => !decide (n < a)) = List.range' a (m - a) := List.filter_eq_self.mpr fun n hn => by
      rw [List.mem_range'_1] at hn
      rw [decide_eq_false (by omega)]; rfl
    rw [e1, e2, List.nil_append]
  · rw [show m - a = 0 by omega]
    show _ = []
    rw [List.filter_eq_nil_iff]
    intro n hn
    have := List.mem_range.mp hn
    rw [decide_eq_true (by omega)]
    exact Bool.false_ne_true
end L2.W3

namespace L2.W3.K33
open PySem PySem.Spec PyProof.Rows
def topS (i : Nat) : Stmt := PySem.Challenge.pw_tworeadings_k33_whole_codes_for_lengths.main.body.getD i (.Pass ⟨0, 0, 0, 0⟩)
abbrev s_common_part : Stmt := topS 1
abbrev n_common_part : List Str := ["p", "q"]
theorem sc_common_part : FnScope n_common_part ["p", "q"] (defScope s_common_part) := ⟨rfl, rfl, rfl, by decide +kernel, rfl, by decide +kernel, by decide +kernel⟩
abbrev s_ratio : Stmt := topS 2
abbrev n_ratio : List Str := ["p", "q", "common"]
theorem sc_ratio : FnScope n_ratio ["p", "q"] (defScope s_ratio) := ⟨rfl, rfl, rfl, by decide +kernel, rfl, by decide +kernel, by decide +kernel⟩
abbrev s_plus : Stmt := topS 3
abbrev n_plus : List Str := ["one", "other"]
theorem sc_plus : FnScope n_plus ["one", "other"] (defScope s_plus) := ⟨rfl, rfl, rfl, by decide +kernel, rfl, by decide +kernel, by decide +kernel⟩
abbrev s_less : Stmt := topS 4
abbrev n_less : List Str := ["one", "other"]
theorem sc_less : FnScope n_less ["one", "other"] (defScope s_less) := ⟨rfl, rfl, rfl, by decide +kernel, rfl, by decide +kernel, by decide +kernel⟩
abbrev s_power : Stmt := topS 7
abbrev n_power : List Str := ["k", "count", "found", "_"]
theorem sc_power : FnScope n_power ["k", "count"] (defScope s_power) := ⟨rfl, rfl, rfl, by decide +kernel, rfl, by decide +kernel, by decide +kernel⟩
abbrev s_lengths_sum : Stmt := topS 8
abbrev n_lengths_sum : List Str := ["lengths", "k", "total", "length"]
theorem sc_lengths_sum : FnScope n_lengths_sum ["lengths", "k"] (defScope s_lengths_sum) := ⟨rfl, rfl, rfl, by decide +kernel, rfl, by decide +kernel, by decide +kernel⟩
abbrev s_written : Stmt := topS 9
abbrev n_written : List Str := ["number", "length", "k", "letters", "_"]
theorem sc_written : FnScope n_written ["number", "length", "k"] (defScope s_written) := ⟨rfl, rfl, rfl, by decide +kernel, rfl, by decide +kernel, by decide +kernel⟩
abbrev s_code_for : Stmt := topS 10
abbrev n_code_for : List Str := ["lengths", "k", "total", "words", "number", "before", "length", "i"]
theorem sc_code_for : FnScope n_code_for ["lengths", "k"] (defScope s_code_for) := ⟨rfl, rfl, rfl, by decide +kernel, rfl, by decide +kernel, by decide +kernel⟩
abbrev s__law_mix : Stmt := topS 12
abbrev n__law_mix : List Str := ["number"]
theorem sc__law_mix : FnScope n__law_mix ["number"] (defScope s__law_mix) := ⟨rfl, rfl, rfl, by decide +kernel, rfl, by decide +kernel, by decide +kernel⟩
abbrev s__law_tape : Stmt := topS 13
abbrev n__law_tape : List Str := ["script"]
theorem sc__law_tape : FnScope n__law_tape ["script"] (defScope s__law_tape) := ⟨rfl, rfl, rfl, by decide +kernel, rfl, by decide +kernel, by decide +kernel⟩
abbrev s__law_take : Stmt := topS 14
abbrev n__law_take : List Str := ["tape", "many", "cell", "digit"]
theorem sc__law_take : FnScope n__law_take ["tape", "many"] (defScope s__law_take) := ⟨rfl, rfl, rfl, by decide +kernel, rfl, by decide +kernel, by decide +kernel⟩
abbrev s__law_same : Stmt := topS 15
abbrev n__law_same : List Str := ["a", "b", "k"]
theorem sc__law_same : FnScope n__law_same ["a", "b"] (defScope s__law_same) := ⟨rfl, rfl, rfl, by decide +kernel, rfl, by decide +kernel, by decide +kernel⟩
abbrev s__law_mixed : Stmt := topS 16
abbrev n__law_mixed : List Str := ["tape", "row", "left", "k"]
theorem sc__law_mixed : FnScope n__law_mixed ["tape", "row"] (defScope s__law_mixed) := ⟨rfl, rfl, rfl, by decide +kernel, rfl, by decide +kernel, by decide +kernel⟩
abbrev s__law_power : Stmt := topS 17
abbrev n__law_power : List Str := ["base", "count", "found", "k"]
theorem sc__law_power : FnScope n__law_power ["base", "count"] (defScope s__law_power) := ⟨rfl, rfl, rfl, by decide +kernel, rfl, by decide +kernel, by decide +kernel⟩
abbrev s__law_lowest : Stmt := topS 18
abbrev n__law_lowest : List Str := ["p", "q", "a", "b"]
theorem sc__law_lowest : FnScope n__law_lowest ["p", "q"] (defScope s__law_lowest) := ⟨rfl, rfl, rfl, by decide +kernel, rfl, by decide +kernel, by decide +kernel⟩
abbrev s__law_total : Stmt := topS 19
abbrev n__law_total : List Str := ["lengths", "k", "top", "length"]
theorem sc__law_total : FnScope n__law_total ["lengths", "k"] (defScope s__law_total) := ⟨rfl, rfl, rfl, by decide +kernel, rfl, by decide +kernel, by decide +kernel⟩
abbrev s__law_words : Stmt := topS 20
abbrev n__law_words : List Str := ["length", "k", "rows", "turn"]
theorem sc__law_words : FnScope n__law_words ["length", "k"] (defScope s__law_words) := ⟨rfl, rfl, rfl, by decide +kernel, rfl, by decide +kernel, by decide +kernel⟩
abbrev s__law_longer : Stmt := topS 21
abbrev n__law_longer : List Str := ["rows", "k", "found", "row", "letter"]
theorem sc__law_longer : FnScope n__law_longer ["rows", "k"] (defScope s__law_longer) := ⟨rfl, rfl, rfl, by decide +kernel, rfl, by decide +kernel, by decide +kernel⟩
abbrev s__law_first : Stmt := topS 22
abbrev n__law_first : List Str := ["lengths", "k", "words", "length", "i", "free", "word", "other"]
theorem sc__law_first : FnScope n__law_first ["lengths", "k"] (defScope s__law_first) := ⟨rfl, rfl, rfl, by decide +kernel, rfl, by decide +kernel, by decide +kernel⟩
abbrev s__law_counted : Stmt := topS 23
abbrev n__law_counted : List Str := ["lengths", "k", "words", "number", "before", "length", "i", "left", "word", "turn"]
theorem sc__law_counted : FnScope n__law_counted ["lengths", "k"] (defScope s__law_counted) := ⟨rfl, rfl, rfl, by decide +kernel, rfl, by decide +kernel, by decide +kernel⟩
abbrev s__law_fine : Stmt := topS 24
abbrev n__law_fine : List Str := ["lengths", "k", "small", "total", "fits", "due"]
theorem sc__law_fine : FnScope n__law_fine ["lengths", "k", "small"] (defScope s__law_fine) := ⟨rfl, rfl, rfl, by decide +kernel, rfl, by decide +kernel, by decide +kernel⟩
abbrev s_law : Stmt := topS 25
abbrev n_law : List Str := ["script", "tape", "turn", "k", "lengths", "great", "full", "step"]
theorem sc_law : FnScope n_law ["script"] (defScope s_law) := ⟨rfl, rfl, rfl, by decide +kernel, rfl, by decide +kernel, by decide +kernel⟩
structure Tx (K : PySem.W.Frag) (mg : Str → Option Value) where
  a_common_part : Addr
  fd_common_part : FuncData
  F_common_part : Fun K "common_part" "common_part" s_common_part a_common_part fd_common_part
  g_common_part : mg "common_part" = some (.ref a_common_part)
  B_common_part : Binds K fd_common_part ["p", "q"] []
  a_ratio : Addr
  fd_ratio : FuncData
  F_ratio : Fun K "ratio" "ratio" s_ratio a_ratio fd_ratio
  g_ratio : mg "ratio" = some (.ref a_ratio)
  B_ratio : Binds K fd_ratio ["p", "q"] []
  a_plus : Addr
  fd_plus : FuncData
  F_plus : Fun K "plus" "plus" s_plus a_plus fd_plus
  g_plus : mg "plus" = some (.ref a_plus)
  B_plus : Binds K fd_plus ["one", "other"] []
  a_less : Addr
  fd_less : FuncData
  F_less : Fun K "less" "less" s_less a_less fd_less
  g_less : mg "less" = some (.ref a_less)
  B_less : Binds K fd_less ["one", "other"] []
  a_power : Addr
  fd_power : FuncData
  F_power : Fun K "power" "power" s_power a_power fd_power
  g_power : mg "power" = some (.ref a_power)
  B_power : Binds K fd_power ["k", "count"] []
  a_lengths_sum : Addr
  fd_lengths_sum : FuncData
  F_lengths_sum : Fun K "lengths_sum" "lengths_sum" s_lengths_sum a_lengths_sum fd_lengths_sum
  g_lengths_sum : mg "lengths_sum" = some (.ref a_lengths_sum)
  B_lengths_sum : Binds K fd_lengths_sum ["lengths", "k"] []
  a_written : Addr
  fd_written : FuncData
  F_written : Fun K "written" "written" s_written a_written fd_written
  g_written : mg "written" = some (.ref a_written)
  B_written : Binds K fd_written ["number", "length", "k"] []
  a_code_for : Addr
  fd_code_for : FuncData
  F_code_for : Fun K "code_for" "code_for" s_code_for a_code_for fd_code_for
  g_code_for : mg "code_for" = some (.ref a_code_for)
  B_code_for : Binds K fd_code_for ["lengths", "k"] []
  a__law_mix : Addr
  fd__law_mix : FuncData
  F__law_mix : Fun K "_law_mix" "_law_mix" s__law_mix a__law_mix fd__law_mix
  g__law_mix : mg "_law_mix" = some (.ref a__law_mix)
  B__law_mix : Binds K fd__law_mix ["number"] []
  a__law_tape : Addr
  fd__law_tape : FuncData
  F__law_tape : Fun K "_law_tape" "_law_tape" s__law_tape a__law_tape fd__law_tape
  g__law_tape : mg "_law_tape" = some (.ref a__law_tape)
  B__law_tape : Binds K fd__law_tape ["script"] []
  a__law_take : Addr
  fd__law_take : FuncData
  F__law_take : Fun K "_law_take" "_law_take" s__law_take a__law_take fd__law_take
  g__law_take : mg "_law_take" = some (.ref a__law_take)
  B__law_take : Binds K fd__law_take ["tape", "many"] []
  a__law_same : Addr
  fd__law_same : FuncData
  F__law_same : Fun K "_law_same" "_law_same" s__law_same a__law_same fd__law_same
  g__law_same : mg "_law_same" = some (.ref a__law_same)
  B__law_same : Binds K fd__law_same ["a", "b"] []
  a__law_mixed : Addr
  fd__law_mixed : FuncData
  F__law_mixed : Fun K "_law_mixed" "_law_mixed" s__law_mixed a__law_mixed fd__law_mixed
  g__law_mixed : mg "_law_mixed" = some (.ref a__law_mixed)
  B__law_mixed : Binds K fd__law_mixed ["tape", "row"] []
  a__law_power : Addr
  fd__law_power : FuncData
  F__law_power : Fun K "_law_power" "_law_power" s__law_power a__law_power fd__law_power
  g__law_power : mg "_law_power" = some (.ref a__law_power)
  B__law_power : Binds K fd__law_power ["base", "count"] []
  a__law_lowest : Addr
  fd__law_lowest : FuncData
  F__law_lowest : Fun K "_law_lowest" "_law_lowest" s__law_lowest a__law_lowest fd__law_lowest
  g__law_lowest : mg "_law_lowest" = some (.ref a__law_lowest)
  B__law_lowest : Binds K fd__law_lowest ["p", "q"] []
  a__law_total : Addr
  fd__law_total : FuncData
  F__law_total : Fun K "_law_total" "_law_total" s__law_total a__law_total fd__law_total
  g__law_total : mg "_law_total" = some (.ref a__law_total)
  B__law_total : Binds K fd__law_total ["lengths", "k"] []
  a__law_words : Addr
  fd__law_words : FuncData
  F__law_words : Fun K "_law_words" "_law_words" s__law_words a__law_words fd__law_words
  g__law_words : mg "_law_words" = some (.ref a__law_words)
  B__law_words : Binds K fd__law_words ["length", "k"] []
  a__law_longer : Addr
  fd__law_longer : FuncData
  F__law_longer : Fun K "_law_longer" "_law_longer" s__law_longer a__law_longer fd__law_longer
  g__law_longer : mg "_law_longer" = some (.ref a__law_longer)
  B__law_longer : Binds K fd__law_longer ["rows", "k"] []
  a__law_first : Addr
  fd__law_first : FuncData
  F__law_first : Fun K "_law_first" "_law_first" s__law_first a__law_first fd__law_first
  g__law_first : mg "_law_first" = some (.ref a__law_first)
  B__law_first : Binds K fd__law_first ["lengths", "k"] []
  a__law_counted : Addr
  fd__law_counted : FuncData
  F__law_counted : Fun K "_law_counted" "_law_counted" s__law_counted a__law_counted fd__law_counted
  g__law_counted : mg "_law_counted" = some (.ref a__law_counted)
  B__law_counted : Binds K fd__law_counted ["lengths", "k"] []
  a__law_fine : Addr
  fd__law_fine : FuncData
  F__law_fine : Fun K "_law_fine" "_law_fine" s__law_fine a__law_fine fd__law_fine
  g__law_fine : mg "_law_fine" = some (.ref a__law_fine)
  B__law_fine : Binds K fd__law_fine ["lengths", "k", "small"] []
  a_law : Addr
  fd_law : FuncData
  F_law : Fun K "law" "law" s_law a_law fd_law
  g_law : mg "law" = some (.ref a_law)
  B_law : Binds K fd_law ["script"] []
  z_abs : mg "abs" = none
  z_all : mg "all" = none
  z_any : mg "any" = none
  z_bool : mg "bool" = none
  z_enumerate : mg "enumerate" = none
  z_int : mg "int" = none
  z_isinstance : mg "isinstance" = none
  z_len : mg "len" = none
  z_list : mg "list" = none
  z_max : mg "max" = none
  z_range : mg "range" = none
  z_sorted : mg "sorted" = none
  z_str : mg "str" = none
  z_sum : mg "sum" = none
  z_tuple : mg "tuple" = none
  c_LETTERS : ∃ t, mg "LETTERS" = some (.str (Str.ofString "abcdefghijklmnopqrstuvwxyz") t)
abbrev k_LETTERS : D := .str [97, 98, 99, 100, 101, 102, 103, 104, 105, 106, 107, 108, 109, 110, 111, 112, 113, 114, 115, 116, 117, 118, 119, 120, 121, 122]
theorem Tx.e_LETTERS {K : PySem.W.Frag} {mg : Str → Option Value} (T : Tx K mg) {X : Cx} {bx : Bx} {pos : Pos} (hm : X.mg = mg := by rfl) (hg : Gl X "LETTERS" := by rfl) : E3 X bx (.Name "LETTERS" pos) (wC k_LETTERS) := by
  obtain ⟨t, e⟩ := T.c_LETTERS
  exact e_glob (v := .str ⟨([97, 98, 99, 100, 101, 102, 103, 104, 105, 106, 107, 108, 109, 110, 111, 112, 113, 114, 115, 116, 117, 118, 119, 120, 121, 122] : List Nat).toArray⟩) hg (by rw [hm]; exact e) (show ∃ t, _ = Value.str _ t from ⟨t, by rw [show Str.ofString "abcdefghijklmnopqrstuvwxyz" = ⟨([97, 98, 99, 100, 101, 102, 103, 104, 105, 106, 107, 108, 109, 110, 111, 112, 113, 114, 115, 116, 117, 118, 119, 120, 121, 122] : List Nat).toArray⟩ by decide +kernel]⟩) fun _ => .str (by decide +kernel)
abbrev C__law_take : Con := C_draw
abbrev C__law_mix : Con := C_any1
def bigI (b : Nat) (i : Int) : Prop := i.natAbs < 2 ^ b
def lowD (p q : Int) : D := .tup [.int (low p q).1, .int (low p q).2]
def natsD (l : List Nat) : List D := l.map fun k => .int ((k : Nat) : Int)
def maxL (l : List Nat) : Nat := l.foldr max 0
def sumK (k T : Nat) (l : List Nat) : Nat := (l.map fun x => k ^ (T - x)).sum
def strsD (ws : List (List Nat)) : List D := ws.map D.str
def okL (l : List Nat) : Prop := l.length ≤ 30 ∧ ∀ x ∈ l, x ≤ 20
/-- pairs in order -/
def leP (x y : Nat × Nat) : Bool := !decide (y.1 < x.1 ∨ (y.1 = x.1 ∧ y.2 < x.2))
def idxP (l : List Nat) : List (Nat × Nat) := (List.range l.length).map fun i => (l.getD i 0, i)
def srtP (l : List Nat) : List (Nat × Nat) := (idxP l).mergeSort leP
def encP (p : Nat × Nat) : D := .tup [.int ((p.1 : Nat) : Int), .int ((p.2 : Nat) : Int)]
def fits (k : Nat) (l : List Nat) : Prop := sumK k (maxL l) l ≤ k ^ maxL l
def codeW (k : Nat) (l : List Nat) : List (List Nat) := canW k (srtP l) 0 0 (List.replicate l.length [])
def codeO (k : Nat) (l : List Nat) : Option (List (Option (List Nat))) := canO k (srtP l) 0 0 (List.replicate l.length none)
def optD : Option (List Nat) → D
  | none => .non
  | some w => .str w
def totD (k : Nat) (l : List Nat) : D := lowD ((sumK k (maxL l) l : Nat) : Int) ((k ^ maxL l : Nat) : Int)
def dueD (k : Nat) (l : List Nat) : D := if sumK k (maxL l) l ≤ k ^ maxL l then .tup [.str [99, 111, 100, 101], .tup (strsD (codeW k l))] else .tup [.str [115, 117, 109], totD k l]
def C_common_part : Con := fun ds P => ∃ p q : Int, ds = [.int p, .int q] ∧ bigI 800 p ∧ bigI 800 q ∧ P (.val (.int ((Int.gcd p q : Nat) : Int)))
def C_ratio : Con := fun ds P => ∃ p q : Int, ds = [.int p, .int q] ∧ bigI 800 p ∧ bigI 800 q ∧ q ≠ 0 ∧ P (.val (lowD p q))
def C_plus : Con := fun ds P => ∃ x y z w : Int, ds = [.tup [.int x, .int y], .tup [.int z, .int w]] ∧ bigI 300 x ∧ bigI 300 y ∧ bigI 300 z ∧ bigI 300 w ∧ y ≠ 0 ∧ w ≠ 0 ∧ P (.val (lowD (x * w + z * y) (y * w)))
def C_less : Con := fun ds P => ∃ x y z w : Int, ds = [.tup [.int x, .int y], .tup [.int z, .int w]] ∧ bigI 300 x ∧ bigI 300 y ∧ bigI 300 z ∧ bigI 300 w ∧ P (.val (.bl (decide (x * w < z * y))))
def C_power : Con := fun ds P => ∃ k n : Nat, ds = [.int k, .int n] ∧ k ≤ 6 ∧ n ≤ 20 ∧ P (.val (.int ((k ^ n : Nat) : Int)))
def C_lengths_sum : Con := fun ds P => ∃ (l : List Nat) (k : Nat), ds = [.tup (natsD l), .int k] ∧ okL l ∧ 1 ≤ k ∧ k ≤ 6 ∧ P (.val (lowD ((sumK k (maxL l) l : Nat) : Int) ((k ^ maxL l : Nat) : Int)))
def C_written : Con := fun ds P => ∃ n l k : Nat, ds = [.int n, .int l, .int k] ∧ n < 2 ^ 60 ∧ l ≤ 20 ∧ 1 ≤ k ∧ k ≤ 6 ∧ P (.val (.str (wr k n l)))
def C_code_for : Con := fun ds P => ∃ (l : List Nat) (k : Nat), ds = [.tup (natsD l), .int k] ∧ okL l ∧ 1 ≤ k ∧ k ≤ 6 ∧ P (.val (dueD k l))
def C__law_mixed : Con := fun ds P => ∃ l : List Nat, ds = [.box, .lst (natsD l)] ∧ l.length ≤ 30 ∧ ∀ l', List.Perm l' l → P (.new (.lst (natsD l')))
def C__law_power : Con := fun ds P => ∃ k n : Nat, ds = [.int k, .int n] ∧ k ≤ 6 ∧ n ≤ 20 ∧ P (.val (.int ((k ^ n : Nat) : Int)))
def C__law_lowest : Con := fun ds P => ∃ p q : Int, ds = [.int p, .int q] ∧ bigI 800 p ∧ bigI 800 q ∧ q ≠ 0 ∧ P (.val (lowD p q))
def C__law_total : Con := fun ds P => ∃ (l : List Nat) (k : Nat), ds = [.tup (natsD l), .int k] ∧ okL l ∧ 1 ≤ k ∧ k ≤ 6 ∧ P (.val (lowD ((sumK k (maxL l) l : Nat) : Int) ((k ^ maxL l : Nat) : Int)))
def C__law_words : Con := fun ds P => ∃ n k : Nat, ds = [.int n, .int k] ∧ 1 ≤ k ∧ k ≤ 6 ∧ n ≤ 20 ∧ k ^ n ≤ 1000 ∧ P (.new (.lst (strsD (allW k n))))
def C__law_longer : Con := fun ds P => ∃ (ws : List (List Nat)) (k : Nat), ds = [.lst (strsD ws), .int k] ∧ k ≤ 6 ∧ (∀ w ∈ ws, w.length ≤ 20) ∧ ws.length ≤ 1000 ∧ P (.new (.lst (strsD ((ws.map (moreW k)).flatten))))
def firstD (k : Nat) (l : List Nat) : D := match codeO k l with
  | some R => .tup (R.map optD)
  | none => .non
def small (k : Nat) (l : List Nat) : Prop := ∀ x ∈ l, k ^ x ≤ 1000
def C__law_first : Con := fun ds P => ∃ (l : List Nat) (k : Nat), ds = [.tup (natsD l), .int k] ∧ okL l ∧ 1 ≤ k ∧ k ≤ 6 ∧ small k l ∧ P (.val (firstD k l))
def C__law_counted : Con := fun ds P => ∃ (l : List Nat) (k : Nat), ds = [.tup (natsD l), .int k] ∧ okL l ∧ 1 ≤ k ∧ k ≤ 6 ∧ fits k l ∧ P (.val (.tup (strsD (codeW k l))))
def C__law_fine : Con := fun ds P => ∃ (l : List Nat) (k : Nat) (b : Bool), ds = [.tup (natsD l), .int k, .bl b] ∧ okL l ∧ 1 ≤ k ∧ k ≤ 6 ∧ (b = true → small k l) ∧ P (.val (.bl true))
def b_common_part : WS :=
  (wSeq (wPar2 0 1 (wUn absD (wVar 0)) (wUn absD (wVar 1)))
    (wSeq (wWhile (wTB (wBin gtD (wVar 1) (wC (.int 0)))) (wPar2 0 1 (wVar 1) (wBin subD (wVar 0) (wBin mulD (wBin fdivD (wVar 0) (wVar 1)) (wVar 1)))))
    (wRet (wVar 0))))
def b_ratio : WS :=
  (wSeq (wIfS (wTB (wBin ltD (wVar 1) (wC (.int 0)))) (wPar2 0 1 (wUn negD (wVar 0)) (wUn negD (wVar 1))) wNext)
    (wSeq (wSet 2 (wCall C_common_part (wACons (wVar 0) (wACons (wVar 1) wANil))))
    (wRet (wTup (wACons (wBin fdivD (wVar 0) (wVar 2)) (wACons (wBin fdivD (wVar 1) (wVar 2)) wANil))))))
def b_plus : WS :=
  (wRet (wCall C_ratio (wACons (wBin addD (wBin mulD (wBin ixD (wVar 0) (wC (.int 0))) (wBin ixD (wVar 1) (wC (.int 1)))) (wBin mulD (wBin ixD (wVar 1) (wC (.int 0))) (wBin ixD (wVar 0) (wC (.int 1))))) (wACons (wBin mulD (wBin ixD (wVar 0) (wC (.int 1))) (wBin ixD (wVar 1) (wC (.int 1)))) wANil))))
def b_less : WS :=
  (wRet (wBin ltD (wBin mulD (wBin ixD (wVar 0) (wC (.int 0))) (wBin ixD (wVar 1) (wC (.int 1)))) (wBin mulD (wBin ixD (wVar 1) (wC (.int 0))) (wBin ixD (wVar 0) (wC (.int 1))))))
def b_power : WS :=
  (wSeq (wSet 2 (wC (.int 1)))
    (wSeq (wFor (wRng1 (wACons (wVar 1) wANil)) (wName 3) (wAug 2 mulA (wVar 0)))
    (wRet (wVar 2))))
def b_lengths_sum : WS :=
  (wSeq (wSet 2 (wTup (wACons (wC (.int 0)) (wACons (wC (.int 1)) wANil))))
    (wSeq (wFor (wIter (wVar 0)) (wName 3) (wSet 2 (wCall C_plus (wACons (wVar 2) (wACons (wCall C_ratio (wACons (wC (.int 1)) (wACons (wCall C_power (wACons (wVar 1) (wACons (wVar 3) wANil))) wANil))) wANil)))))
    (wRet (wVar 2))))
def b_written : WS :=
  (wSeq (wSet 3 (wLst wANil))
    (wSeq (wFor (wRng1 (wACons (wVar 1) wANil)) (wName 4) (wSeq (wExpr (wApp 3 (wBin ixD (wC k_LETTERS) (wBin subD (wVar 0) (wBin mulD (wBin fdivD (wVar 0) (wVar 2)) (wVar 2))))))
    (wAug 0 fdivA (wVar 2))))
    (wRet (wStrM joinD (wC (.str [])) (wUn revD (wVar 3))))))
def b_code_for : WS :=
  (wSeq (wSet 2 (wCall C_lengths_sum (wACons (wVar 0) (wACons (wVar 1) wANil))))
    (wSeq (wIfS (wTru (wCall C_less (wACons (wTup (wACons (wC (.int 1)) (wACons (wC (.int 1)) wANil))) (wACons (wVar 2) wANil)))) (wRet (wTup (wACons (wC (.str [115, 117, 109])) (wACons (wVar 2) wANil)))) wNext)
    (wSeq (wSet 3 (wBin mulD (wLst (wACons (wC (.str [])) wANil)) (wUn lenD (wVar 0))))
    (wSeq (wAsg (wTup (wACons (wC (.int 0)) (wACons (wC (.int 0)) wANil))) (wGTup 2 (wGCons (wName 4) (wGCons (wName 5) wGNil))))
    (wSeq (wFor (wIter (wUn sortedY (wLc (wEnumB (wVar 0)) (wGTup 2 (wGCons (wName 7) (wGCons (wName 6) wGNil))) wYes (wTup (wACons (wVar 6) (wACons (wVar 7) wANil))) [7, 6]))) (wGTup 2 (wGCons (wName 6) (wGCons (wName 7) wGNil))) (wSeq (wAug 4 mulA (wCall C_power (wACons (wVar 1) (wACons (wBin subD (wVar 6) (wVar 5)) wANil))))
    (wSeq (wPutIx 3 (wVar 7) (wCall C_written (wACons (wVar 4) (wACons (wVar 6) (wACons (wVar 1) wANil)))))
    (wPar2 4 5 (wBin addD (wVar 4) (wC (.int 1))) (wVar 6)))))
    (wRet (wTup (wACons (wC (.str [99, 111, 100, 101])) (wACons (wUn tupleD (wVar 3)) wANil)))))))))
def b__law_mix : WS :=
  (wSeq (wSet 0 (wBin modD (wUn intD (wBin addD (wBin mulD (wVar 0) (wC (.int 6364136223846793005))) (wC (.int 1442695040888963407)))) (wC (.int 18446744073709551616))))
    (wRet (wBin modD (wUn intD (wBin addD (wBin fdivD (wBin mulD (wVar 0) (wVar 0)) (wC (.int 4294967296))) (wBin mulD (wVar 0) (wC (.int 69621))))) (wC (.int 18446744073709551557)))))
def b__law_mixed : WS :=
  (wSeq (wSet 2 (wUn listX (wVar 1)))
    (wRet (wLc (wRng1 (wACons (wUn lenD (wVar 1)) wANil)) (wName 3) wYes (wPopAt 2 (wCall C__law_take (wACons (wVar 0) (wACons (wUn lenD (wVar 2)) wANil)))) [3])))
def b__law_power : WS :=
  (wSeq (wSet 2 (wC (.int 1)))
    (wSeq (wFor (wRng1 (wACons (wVar 1) wANil)) (wName 3) (wSet 2 (wBin mulD (wVar 2) (wVar 0))))
    (wRet (wVar 2))))
def b__law_lowest : WS :=
  (wSeq (wPar2 2 3 (wUn absD (wVar 0)) (wUn absD (wVar 1)))
    (wSeq (wWhile (wTB (wBin gtD (wVar 3) (wC (.int 0)))) (wPar2 2 3 (wVar 3) (wBin subD (wVar 2) (wBin mulD (wBin fdivD (wVar 2) (wVar 3)) (wVar 3)))))
    (wRet (wIf (wTB (wBin gtD (wVar 1) (wC (.int 0)))) (wTup (wACons (wBin fdivD (wVar 0) (wVar 2)) (wACons (wBin fdivD (wVar 1) (wVar 2)) wANil))) (wTup (wACons (wBin subD (wC (.int 0)) (wBin fdivD (wVar 0) (wVar 2))) (wACons (wBin subD (wC (.int 0)) (wBin fdivD (wVar 1) (wVar 2))) wANil)))))))
def b__law_total : WS :=
  (wSeq (wSet 2 (wUn maxA (wBin addD (wUn listX (wVar 0)) (wLst (wACons (wC (.int 0)) wANil)))))
    (wRet (wCall C__law_lowest (wACons (wUn sumD (wLc (wIter (wVar 0)) (wName 3) wYes (wCall C__law_power (wACons (wVar 1) (wACons (wBin subD (wVar 2) (wVar 3)) wANil))) [3])) (wACons (wCall C__law_power (wACons (wVar 1) (wACons (wVar 2) wANil))) wANil)))))
def b__law_words : WS :=
  (wSeq (wSet 2 (wLst (wACons (wC (.str [])) wANil)))
    (wSeq (wFor (wRng1 (wACons (wVar 0) wANil)) (wName 3) (wSet 2 (wCall C__law_longer (wACons (wVar 2) (wACons (wVar 1) wANil)))))
    (wRet (wVar 2))))
def b__law_longer : WS :=
  (wSeq (wSet 2 (wLst wANil))
    (wSeq (wFor (wIter (wVar 0)) (wName 3) (wExpr (wExt 2 (wLc (wIter (wSl (wC (.str [97, 98, 99, 100, 101, 102, 103, 104, 105, 106, 107, 108, 109, 110, 111, 112, 113, 114, 115, 116, 117, 118, 119, 120, 121, 122])) wONone (wOSome (wVar 1)))) (wName 4) wYes (wBin addD (wVar 3) (wVar 4)) [4]))))
    (wRet (wVar 2))))
def b__law_first : WS :=
  (wSeq (wSet 2 (wBin mulD (wLst (wACons (wC .non) wANil)) (wUn lenD (wVar 0))))
    (wSeq (wFor (wIter (wUn sortedY (wLc (wRng1 (wACons (wUn lenD (wVar 0)) wANil)) (wName 4) wYes (wTup (wACons (wBin ixD (wVar 0) (wVar 4)) (wACons (wVar 4) wANil))) [4]))) (wGTup 2 (wGCons (wName 3) (wGCons (wName 4) wGNil))) (wSeq (wSet 5 (wLc (wIter (wCall C__law_words (wACons (wVar 3) (wACons (wVar 1) wANil)))) (wName 6) (wTNot (wTru (wUn anyD (wLcW 2 (wName 7) (wTB (wBin isNotD (wVar 7) (wC .non))) (wBin eqD (wSl (wVar 6) wONone (wOSome (wUn lenD (wVar 7)))) (wVar 7)) [7])))) (wVar 6) [6]))
    (wSeq (wIfS (wTB (wBin eqD (wVar 5) (wLst wANil))) (wRet (wC .non)) wNext)
    (wPutIx 2 (wVar 4) (wBin ixD (wVar 5) (wC (.int 0)))))))
    (wRet (wUn tupleD (wVar 2)))))
def b__law_counted : WS :=
  (wSeq (wPar3 2 3 4 (wBin mulD (wLst (wACons (wC (.str [])) wANil)) (wUn lenD (wVar 0))) (wC (.int 0)) (wC (.int 0)))
    (wSeq (wFor (wIter (wUn sortedY (wLc (wRng1 (wACons (wUn lenD (wVar 0)) wANil)) (wName 6) wYes (wTup (wACons (wBin ixD (wVar 0) (wVar 6)) (wACons (wVar 6) wANil))) [6]))) (wGTup 2 (wGCons (wName 5) (wGCons (wName 6) wGNil))) (wSeq (wSet 3 (wBin mulD (wVar 3) (wCall C__law_power (wACons (wVar 1) (wACons (wBin subD (wVar 5) (wVar 4)) wANil)))))
    (wSeq (wPar2 7 8 (wVar 3) (wC (.str [])))
    (wSeq (wFor (wRng1 (wACons (wVar 5) wANil)) (wName 9) (wSeq (wSet 8 (wBin addD (wBin ixD (wC (.str [97, 98, 99, 100, 101, 102, 103, 104, 105, 106, 107, 108, 109, 110, 111, 112, 113, 114, 115, 116, 117, 118, 119, 120, 121, 122])) (wBin subD (wVar 7) (wBin mulD (wBin fdivD (wVar 7) (wVar 1)) (wVar 1)))) (wVar 8)))
    (wSet 7 (wBin fdivD (wVar 7) (wVar 1)))))
    (wAsg (wTup (wACons (wVar 8) (wACons (wBin addD (wVar 3) (wC (.int 1))) (wACons (wVar 5) wANil)))) (wGTup 3 (wGCons (wGIx 2 (wVar 6)) (wGCons (wName 3) (wGCons (wName 4) wGNil)))))))))
    (wRet (wUn tupleD (wVar 2)))))
def b__law_fine : WS :=
  (wSeq (wSet 3 (wCall C__law_total (wACons (wVar 0) (wACons (wVar 1) wANil))))
    (wSeq (wSet 4 (wBin leD (wBin ixD (wVar 3) (wC (.int 0))) (wBin ixD (wVar 3) (wC (.int 1)))))
    (wSeq (wSet 5 (wIf (wTru (wVar 4)) (wTup (wACons (wC (.str [99, 111, 100, 101])) (wACons (wIf (wTru (wVar 2)) (wCall C__law_first (wACons (wVar 0) (wACons (wVar 1) wANil))) (wCall C__law_counted (wACons (wVar 0) (wACons (wVar 1) wANil)))) wANil))) (wTup (wACons (wC (.str [115, 117, 109])) (wACons (wVar 3) wANil)))))
    (wSeq (wIfS (wTAnd (wTru (wVar 2)) (wTB (wBin neD (wBin isNotD (wCall C__law_first (wACons (wVar 0) (wACons (wVar 1) wANil))) (wC .non)) (wVar 4)))) (wRet (wC (.bl false))) wNext)
    (wRet (wCall (C_same 8) (wACons (wCall C_code_for (wACons (wVar 0) (wACons (wVar 1) wANil))) (wACons (wVar 5) wANil))))))))
def b_law : WS :=
  (wSeq (wFor (wRng1 (wACons (wC (.int 3)) wANil)) (wName 2) (wSeq (wSet 3 (wBin addD (wC (.int 2)) (wCall C__law_take (wACons (wVar 1) (wACons (wC (.int 3)) wANil)))))
    (wSeq (wSet 4 (wUn tupleD (wLc (wRng1 (wACons (wCall C__law_take (wACons (wVar 1) (wACons (wC (.int 9)) wANil))) wANil)) (wName 7) wYes (wBin addD (wC (.int 1)) (wCall C__law_take (wACons (wVar 1) (wACons (wIf (wTB (wBin eqD (wVar 3) (wC (.int 2)))) (wC (.int 4)) (wC (.int 3))) wANil)))) [7])))
    (wIfS (wTNot (wTru (wCall C__law_fine (wACons (wVar 4) (wACons (wVar 3) (wACons (wC (.bl true)) wANil)))))) (wRet (wC (.bl false))) wNext))))
    (wSeq (wSet 3 (wBin addD (wC (.int 2)) (wCall C__law_take (wACons (wVar 1) (wACons (wC (.int 5)) wANil)))))
    (wSeq (wSet 5 (wUn tupleD (wLc (wRng1 (wACons (wCall C__law_take (wACons (wVar 1) (wACons (wC (.int 25)) wANil))) wANil)) (wName 7) wYes (wBin addD (wC (.int 1)) (wBin ixD (wLst (wACons (wCall C__law_take (wACons (wVar 1) (wACons (wC (.int 6)) wANil))) (wACons (wCall C__law_take (wACons (wVar 1) (wACons (wC (.int 20)) wANil))) wANil))) (wCall C__law_take (wACons (wVar 1) (wACons (wC (.int 2)) wANil))))) [7])))
    (wSeq (wIfS (wTNot (wTru (wCall C__law_fine (wACons (wVar 5) (wACons (wVar 3) (wACons (wC (.bl false)) wANil)))))) (wRet (wC (.bl false))) wNext)
    (wSeq (wSet 6 (wUn tupleD (wCall C__law_mixed (wACons (wVar 1) (wACons (wBin addD (wListRng2 (wACons (wC (.int 1)) (wACons (wC (.int 20)) wANil))) (wLst (wACons (wC (.int 19)) wANil))) wANil)))))
    (wRet (wAnd (wCall C__law_fine (wACons (wVar 6) (wACons (wC (.int 2)) (wACons (wC (.bl false)) wANil)))) (wAnd (wCall C__law_fine (wACons (wBin addD (wVar 6) (wTup (wACons (wC (.int 20)) wANil))) (wACons (wC (.int 2)) (wACons (wC (.bl false)) wANil)))) (wAnd (wCall C__law_fine (wACons (wBin mulD (wTup (wACons (wC (.int 1)) wANil)) (wVar 3)) (wACons (wVar 3) (wACons (wC (.bl true)) wANil)))) (wCall C__law_fine (wACons (wBin mulD (wTup (wACons (wC (.int 1)) wANil)) (wBin addD (wVar 3) (wC (.int 1)))) (wACons (wVar 3) (wACons (wC (.bl true)) wANil)))))))))))))
theorem vc__law_mix : ∀ ds Q, C__law_mix ds Q → b__law_mix { nx := fun _ => Q (.val .non), rt := Q } (start3 n__law_mix ds) := vc_mix
theorem big_mono {a b : Nat} {i : Int} (h : bigI a i) (hab : a ≤ b) : bigI b i := Nat.lt_of_lt_of_le h (Nat.pow_le_pow_right (by decide) hab)
theorem big_log {b : Nat} {i : Int} (h : bigI b i) : i.natAbs.log2 ≤ b := by
  by_cases h0 : i.natAbs = 0
  · rw [h0]; exact Nat.zero_le _
  · exact Nat.le_of_lt ((Nat.log2_lt h0).mpr h)
theorem big_divW {b : Nat} {i j : Int} (hb : b ≤ 800) (hj : bigI b j) (h0 : 0 < j) : CDivW i j := ⟨h0, by have := big_log hj; omega⟩
theorem big_mulW {a b : Nat} {i j : Int} (ha : a ≤ 800) (hb : b ≤ 800) (hi : bigI a i) (hj : bigI b j) : MulI i j := .inr (by
  have := big_log hi
  have := big_log hj
  show _ + _ < 1000000
  omega)
theorem big_mul {a b : Nat} {i j : Int} (hi : bigI a i) (hj : bigI b j) : bigI (a + b) (i * j) := by
  show (i * j).natAbs < 2 ^ (a + b)
  rw [Int.natAbs_mul, Nat.pow_add]
  exact Nat.mul_lt_mul'' hi hj
theorem big_add {a : Nat} {i j : Int} (hi : bigI a i) (hj : bigI a j) : bigI (a + 1) (i + j) := by
  show (i + j).natAbs < 2 ^ (a + 1)
  have h1 : i.natAbs < 2 ^ a := hi
  have h2 : j.natAbs < 2 ^ a := hj
  rw [Nat.pow_succ]
  generalize 2 ^ a = N at *
  omega
theorem big_neg {a : Nat} {i : Int} (hi : bigI a i) : bigI a (-i) := by
  show (-i).natAbs < _
  rw [Int.natAbs_neg]; exact hi
theorem big_le {a : Nat} {i j : Int} (hi : bigI a i) (h : j.natAbs ≤ i.natAbs) : bigI a j := Nat.lt_of_le_of_lt h hi
theorem big_small {b : Nat} {i : Int} (h : i.natAbs < 2 ^ 20) (hb : 20 ≤ b) : bigI b i := big_mono (a := 20) h hb
theorem abs_int (p : Int) : (if p < 0 then -p else p) = ((p.natAbs : Nat) : Int) := by
  by_cases h : p < 0
  · rw [if_pos h]; omega
  · rw [if_neg h]; omega
theorem big_nat {b n : Nat} : bigI b ((n : Nat) : Int) ↔ n < 2 ^ b := Iff.rfl
theorem gcd_step (a b : Nat) (hb : 0 < b) : Nat.gcd b (a % b) = Nat.gcd a b := by
  rw [Nat.gcd_comm a b, Nat.gcd_rec b a, Nat.gcd_comm]
theorem mod_int (a b : Nat) : ((a : Nat) : Int) - ((a : Nat) : Int) / ((b : Nat) : Int) * ((b : Nat) : Int) = ((a % b : Nat) : Int) := by
  have h := Int.emod_def ((a : Nat) : Int) ((b : Nat) : Int)
  rw [Int.natCast_emod, h, Int.mul_comm ((b : Nat) : Int)]
def gcW (p d : Int) (fr : D → D → Env3) (m : Nat) (ρ : Env3) : Prop := ∃ a b : Nat, ρ = fr (.int (a : Nat)) (.int (b : Nat)) ∧ Nat.gcd a b = Int.gcd p d ∧ bigI 800 (a : Nat) ∧ bigI 800 (b : Nat) ∧ m = b
theorem gcW_step {p d : Int} {fr : D → D → Env3} {a b : Nat} (hg : Nat.gcd a b = Int.gcd p d) (ha : bigI 800 (a : Nat)) (hb : bigI 800 (b : Nat)) (h0 : (0 : Int) < (b : Nat)) : CDivW ((a : Nat) : Int) ((b : Nat) : Int) ∧ MulI (((a : Nat) : Int) / ((b : Nat) : Int)) ((b : Nat) : Int) ∧ ∃ m', m' < b ∧ gcW p d fr m' (fr (.int (b : Nat)) (.int (((a : Nat) : Int) - ((a : Nat) : Int) / ((b : Nat) : Int) * ((b : Nat) : Int)))) := by
  have h0 : 0 < b := by omega
  refine ⟨big_divW (by decide) hb (by omega), big_mulW (by decide) (by decide) (big_le ha ?_) hb, a % b, Nat.mod_lt _ h0, b, a % b, ?_, (gcd_step a b h0).trans hg, hb, big_le hb ?_, rfl⟩
  · show (((a : Nat) : Int) / ((b : Nat) : Int)).natAbs ≤ a
    rw [← Int.natCast_ediv]
    exact Nat.div_le_self a b
  · rw [mod_int]
  · show a % b ≤ b
    exact Nat.le_of_lt (Nat.mod_lt _ h0)
theorem gcd_zero {p d : Int} {a b : Nat} (hg : Nat.gcd a b = Int.gcd p d) (h : ¬ (0 : Int) < (b : Nat)) : a = Int.gcd p d := by
  have : b = 0 := by omega
  subst this
  rw [Nat.gcd_zero_right] at hg
  exact hg
theorem vc_common_part : ∀ ds Q, C_common_part ds Q → b_common_part { nx := fun _ => Q (.val .non), rt := Q } (start3 n_common_part ds) := by
  rintro ds Q ⟨p, q0, rfl, hp, hq, q⟩
  refine Exists.intro (gcW p q0 fun x y => [.val x, .val y]) (And.intro ⟨q0.natAbs, p.natAbs, q0.natAbs, by rw [← abs_int p, ← abs_int q0]; rfl, rfl, hp, hq, rfl⟩ ?_)
  rintro m ρ ⟨a, b, rfl, hg, ha, hb, rfl⟩
  refine ite_w (fun h => ?_) fun h => ?_
  · have h := of_decide_eq_true h
    obtain ⟨c1, c2, c3⟩ := gcW_step (fr := fun x y => [.val x, .val y]) hg ha hb h
    exact And.intro c1 (And.intro c2 c3)
  · have h := of_decide_eq_false h
    rw [← gcd_zero hg h] at q
    exact q
theorem gcd_facts {p d : Int} (hd : bigI 800 d) (h0 : d ≠ 0) : (0 : Int) < ((Int.gcd p d : Nat) : Int) ∧ bigI 800 ((Int.gcd p d : Nat) : Int) := by
  refine ⟨by have := Int.gcd_pos_of_ne_zero_right p h0; omega, big_le hd ?_⟩
  show Int.gcd p d ≤ d.natAbs
  exact Nat.gcd_le_right _ (Int.natAbs_pos.mpr h0)
theorem vc_ratio : ∀ ds Q, C_ratio ds Q → b_ratio { nx := fun _ => Q (.val .non), rt := Q } (start3 n_ratio ds) := by
  rintro ds Q ⟨p, d, rfl, hp, hd, h0, q⟩
  refine ite_w (fun h => ?_) fun h => ?_
  · have h := of_decide_eq_true h
    refine Exists.intro (-p) (Exists.intro (-d) (And.intro rfl (And.intro (big_neg hp) (And.intro (big_neg hd) ?_))))
    obtain ⟨g1, g2⟩ := gcd_facts (p := -p) (big_neg hd) (by omega)
    refine And.intro (big_divW (by decide) g2 g1) (And.intro (big_divW (by decide) g2 g1) (And.intro (by exact Nat.le_of_ble_eq_true rfl) ?_))
    unfold lowD low at q
    rw [if_pos h] at q
    exact q
  · have h := of_decide_eq_false h
    refine nextK ?_
    refine Exists.intro p (Exists.intro d (And.intro rfl (And.intro hp (And.intro hd ?_))))
    obtain ⟨g1, g2⟩ := gcd_facts (p := p) hd h0
    refine And.intro (big_divW (by decide) g2 g1) (And.intro (big_divW (by decide) g2 g1) (And.intro (by exact Nat.le_of_ble_eq_true rfl) ?_))
    unfold lowD low at q
    rw [if_neg h] at q
    exact q
theorem vc__law_lowest : ∀ ds Q, C__law_lowest ds Q → b__law_lowest { nx := fun _ => Q (.val .non), rt := Q } (start3 n__law_lowest ds) := by
  rintro ds Q ⟨p, d, rfl, hp, hd, h0, q⟩
  refine Exists.intro (gcW p d fun x y => [.val (.int p), .val (.int d), .val x, .val y]) (And.intro ⟨d.natAbs, p.natAbs, d.natAbs, by rw [← abs_int p, ← abs_int d]; rfl, rfl, hp, hd, rfl⟩ ?_)
  rintro m ρ ⟨a, b, rfl, hg, ha, hb, rfl⟩
  refine ite_w (fun h => ?_) fun h => ?_
  · have h := of_decide_eq_true h
    obtain ⟨c1, c2, c3⟩ := gcW_step (fr := fun x y => [.val (.int p), .val (.int d), .val x, .val y]) hg ha hb h
    exact And.intro c1 (And.intro c2 c3)
  · have h := of_decide_eq_false h
    have ea := gcd_zero hg h
    obtain ⟨g1, g2⟩ := gcd_facts (p := p) hd h0
    rw [← ea] at g1 g2
    refine ite_w (fun h => ?_) fun h => ?_
    · have h := of_decide_eq_true h
      refine And.intro (big_divW (by decide) g2 g1) (And.intro (big_divW (by decide) g2 g1) (And.intro (by exact Nat.le_of_ble_eq_true rfl) ?_))
      unfold lowD low at q
      rw [if_neg (by omega)] at q
      unfold lowP at q
      rw [← ea] at q
      exact q
    · have h := of_decide_eq_false h
      refine And.intro (big_divW (by decide) g2 g1) (And.intro (big_divW (by decide) g2 g1) (And.intro (by exact Nat.le_of_ble_eq_true rfl) ?_))
      unfold lowD low at q
      rw [if_pos (by omega)] at q
      unfold lowP at q
      rw [Int.gcd_neg, Int.neg_gcd, Int.neg_ediv_of_dvd (Int.gcd_dvd_left p d), Int.neg_ediv_of_dvd (Int.gcd_dvd_right p d), ← ea] at q
      rw [Int.zero_sub, Int.zero_sub]
      exact q
theorem vc_plus : ∀ ds Q, C_plus ds Q → b_plus { nx := fun _ => Q (.val .non), rt := Q } (start3 n_plus ds) := by
  rintro ds Q ⟨x, y, z, w, rfl, hx, hy, hz, hw, h1, h2, q⟩
  refine Exists.intro (.int x) (And.intro (atI_zero _ _) (Exists.intro (.int w) (And.intro rfl (And.intro (big_mulW (by decide) (by decide) hx hw) ?_))))
  refine Exists.intro (.int z) (And.intro (atI_zero _ _) (Exists.intro (.int y) (And.intro rfl (And.intro (big_mulW (by decide) (by decide) hz hy) ?_))))
  refine Exists.intro (.int y) (And.intro rfl (Exists.intro (.int w) (And.intro rfl (And.intro (big_mulW (by decide) (by decide) hy hw) ?_))))
  exact Exists.intro _ (Exists.intro _ (And.intro rfl (And.intro (big_mono (big_add (big_mul hx hw) (big_mul hz hy)) (by decide)) (And.intro (big_mono (big_mul hy hw) (by decide)) (And.intro (Int.mul_ne_zero h1 h2) q)))))
theorem vc_less : ∀ ds Q, C_less ds Q → b_less { nx := fun _ => Q (.val .non), rt := Q } (start3 n_less ds) := by
  rintro ds Q ⟨x, y, z, w, rfl, hx, hy, hz, hw, q⟩
  refine Exists.intro (.int x) (And.intro (atI_zero _ _) (Exists.intro (.int w) (And.intro rfl (And.intro (big_mulW (by decide) (by decide) hx hw) ?_))))
  exact Exists.intro (.int z) (And.intro (atI_zero _ _) (Exists.intro (.int y) (And.intro rfl (And.intro (big_mulW (by decide) (by decide) hz hy) q))))
theorem pow_big {k n : Nat} (hk : k ≤ 6) (hn : n ≤ 20) : k ^ n < 2 ^ 100 := Nat.lt_of_le_of_lt (Nat.pow_le_pow_left hk n) (Nat.lt_of_le_of_lt (Nat.pow_le_pow_right (by decide) hn) (by decide))
theorem big_pow {k n : Nat} (hk : k ≤ 6) (hn : n ≤ 20) : bigI 100 ((k ^ n : Nat) : Int) := pow_big hk hn
theorem big_six {k : Nat} (hk : k ≤ 6) : bigI 100 ((k : Nat) : Int) := big_small (show k < 2 ^ 20 by omega) (by decide)
theorem vc_power : ∀ ds Q, C_power ds Q → b_power { nx := fun _ => Q (.val .non), rt := Q } (start3 n_power ds) := by
  rintro ds Q ⟨k, n, rfl, hk, hn, q⟩
  refine And.intro (by unfold SmallI; omega) ?_
  refine Exists.intro (fun (i : Nat) (ρ : Env3) => ∃ a3, ρ = [.val (.int k), .val (.int n), .val (.int ((k ^ i : Nat) : Int)), a3] ∧ i ≤ n) (And.intro ⟨_, rfl, Nat.zero_le _⟩ (And.intro ?_ ?_))
  · rintro i d ρ hd ⟨a3, rfl, _⟩
    obtain ⟨hi2, rfl⟩ := rng_get hd
    have hi : i < n := by omega
    refine And.intro (by exact Nat.le_of_ble_eq_true rfl) (And.intro (.inr ⟨by omega, by omega⟩) ⟨_, congrArg (fun L => [_, _, Sl.val (.int L), _]) ?_, by omega⟩)
    rw [Nat.pow_succ, Int.natCast_mul]
  · rintro ρ ⟨a3, rfl, _⟩
    have hn : (rng 0 1 ((n : Int)).toNat).length = n := by rw [rng_l1, List.length_map, List.length_range]; omega
    rw [hn]
    exact q
theorem vc__law_power : ∀ ds Q, C__law_power ds Q → b__law_power { nx := fun _ => Q (.val .non), rt := Q } (start3 n__law_power ds) := by
  rintro ds Q ⟨k, n, rfl, hk, hn, q⟩
  refine And.intro (by unfold SmallI; omega) ?_
  refine Exists.intro (fun (i : Nat) (ρ : Env3) => ∃ a3, ρ = [.val (.int k), .val (.int n), .val (.int ((k ^ i : Nat) : Int)), a3] ∧ i ≤ n) (And.intro ⟨_, rfl, Nat.zero_le _⟩ (And.intro ?_ ?_))
  · rintro i d ρ hd ⟨a3, rfl, _⟩
    obtain ⟨hi2, rfl⟩ := rng_get hd
    have hi : i < n := by omega
    refine And.intro (by exact Nat.le_of_ble_eq_true rfl) (And.intro (big_mulW (a := 100) (b := 100) (by decide) (by decide) (big_pow hk (by omega)) (big_six hk)) ⟨_, congrArg (fun L => [_, _, Sl.val (.int L), _]) ?_, by omega⟩)
    rw [Nat.pow_succ, Int.natCast_mul]
  · rintro ρ ⟨a3, rfl, _⟩
    have hn : (rng 0 1 ((n : Int)).toNat).length = n := by rw [rng_l1, List.length_map, List.length_range]; omega
    rw [hn]
    exact q
theorem nats_get {l : List Nat} {i : Nat} {d : D} (h : (natsD l)[i]? = some d) : ∃ x, l[i]? = some x ∧ d = .int ((x : Nat) : Int) := by
  unfold natsD at h
  rw [List.getElem?_map] at h
  cases e : l[i]? with
  | none => rw [e] at h; cases h
  | some m => rw [e] at h; exact ⟨m, rfl, (Option.some.inj h).symm⟩
theorem maxL_le {l : List Nat} {x : Nat} (h : x ∈ l) : x ≤ maxL l := by
  induction l with
  | nil => cases h
  | cons a l ih =>
    show x ≤ max a (maxL l)
    rcases List.mem_cons.mp h with rfl | h
    · omega
    · have := ih h; omega
theorem maxL_bound {l : List Nat} {B : Nat} (h : ∀ x ∈ l, x ≤ B) : maxL l ≤ B := by
  induction l with
  | nil => exact Nat.zero_le _
  | cons a l ih =>
    show max a (maxL l) ≤ B
    have := ih fun x hx => h x (List.mem_cons_of_mem _ hx)
    have := h a (List.mem_cons_self ..)
    omega
theorem sumK_bound {k T : Nat} (hk : k ≤ 6) (h1 : 1 ≤ k) (hT : T ≤ 20) : ∀ l : List Nat, sumK k T l ≤ l.length * 6 ^ 20
  | [] => Nat.zero_le _
  | a :: l => by
    have := sumK_bound hk h1 hT l
    have h2 : k ^ (T - a) ≤ 6 ^ 20 := Nat.le_trans (Nat.pow_le_pow_left hk _) (Nat.pow_le_pow_right (by decide) (by omega))
    show k ^ (T - a) + sumK k T l ≤ (l.length + 1) * 6 ^ 20
    rw [Nat.succ_mul]
    omega
theorem sumK_app (k T : Nat) (a b : List Nat) : sumK k T (a ++ b) = sumK k T a + sumK k T b := by
  unfold sumK
  rw [List.map_append, List.sum_append]
theorem vc_lengths_sum : ∀ ds Q, C_lengths_sum ds Q → b_lengths_sum { nx := fun _ => Q (.val .non), rt := Q } (start3 n_lengths_sum ds) := by
  rintro ds Q ⟨l, k, rfl, ⟨hl, hx⟩, k1, k6, q⟩
  have hT : maxL l ≤ 20 := maxL_bound hx
  have hKp : 0 < k ^ maxL l := Nat.pow_pos (by omega)
  have hK : ((k ^ maxL l : Nat) : Int) ≠ 0 := by omega
  have lz : lowD 0 ((k ^ maxL l : Nat) : Int) = .tup [.int 0, .int 1] := by unfold lowD; rw [low_zero hK]
  refine And.intro (by exact Nat.le_of_ble_eq_true rfl) ?_
  refine Exists.intro (fun (i : Nat) (ρ : Env3) => ∃ a3, ρ = [.val (.tup (natsD l)), .val (.int k), .val (lowD ((sumK k (maxL l) (l.take i) : Nat) : Int) ((k ^ maxL l : Nat) : Int)), a3]) (And.intro ⟨_, by show _ = [_, _, Sl.val (lowD 0 _), _]; rw [lz]; rfl⟩ (And.intro ?_ ?_))
  · rintro i d ρ hd ⟨a3, rfl⟩
    obtain ⟨x, hxg, rfl⟩ := nats_get hd
    obtain ⟨hi, e1⟩ := List.getElem?_eq_some_iff.mp hxg
    have hxm := maxL_le (List.mem_of_getElem? hxg)
    have hLp : 0 < k ^ x := Nat.pow_pos (by omega)
    have hL : ((k ^ x : Nat) : Int) ≠ 0 := by omega
    have bK : bigI 100 ((k ^ maxL l : Nat) : Int) := big_pow k6 (by omega)
    have bL : bigI 100 ((k ^ x : Nat) : Int) := big_pow k6 (by omega)
    have hS := sumK_bound k6 k1 hT (l.take i)
    have hlt : (l.take i).length ≤ 30 := by rw [List.length_take]; omega
    have bS : bigI 100 ((sumK k (maxL l) (l.take i) : Nat) : Int) := by
      refine big_mono (a := 60) ?_ (by decide)
      show sumK k (maxL l) (l.take i) < 2 ^ 60
      omega
    obtain ⟨f1, f2, f3, f4⟩ := low_facts (n := ((sumK k (maxL l) (l.take i) : Nat) : Int)) hK
    obtain ⟨g1, g2, g3, g4⟩ := low_facts (n := 1) hL
    refine And.intro (by exact Nat.le_of_ble_eq_true rfl) ?_
    refine Exists.intro k (Exists.intro x (And.intro rfl (And.intro k6 (And.intro (by omega) ?_))))
    refine Exists.intro 1 (Exists.intro _ (And.intro rfl (And.intro (big_small (by decide) (by decide)) (And.intro (big_mono bL (by decide)) (And.intro hL ?_)))))
    refine Exists.intro _ (Exists.intro _ (Exists.intro _ (Exists.intro _ (And.intro rfl (And.intro (big_mono (big_le bS f3) (by decide)) (And.intro (big_mono (big_le bK f4) (by decide)) (And.intro (big_le (big_small (i := 1) (by decide) (by decide)) g3) (And.intro (big_mono (big_le bL g4) (by decide)) (And.intro (by omega) (And.intro (by omega) ?_)))))))))) 
    have es : sumK k (maxL l) (l.take (i + 1)) = sumK k (maxL l) (l.take i) + k ^ (maxL l - x) := by
      rw [List.take_succ_eq_append_getElem hi, sumK_app, e1]; rfl
    have eK : ((k ^ maxL l : Nat) : Int) = ((k ^ (maxL l - x) : Nat) : Int) * ((k ^ x : Nat) : Int) := by
      rw [← Int.natCast_mul, ← Nat.pow_add, Nat.sub_add_cancel hxm]
    have eF : lowD ((low ((sumK k (maxL l) (l.take i) : Nat) : Int) ((k ^ maxL l : Nat) : Int)).1 * (low 1 ((k ^ x : Nat) : Int)).2 + (low 1 ((k ^ x : Nat) : Int)).1 * (low ((sumK k (maxL l) (l.take i) : Nat) : Int) ((k ^ maxL l : Nat) : Int)).2) ((low ((sumK k (maxL l) (l.take i) : Nat) : Int) ((k ^ maxL l : Nat) : Int)).2 * (low 1 ((k ^ x : Nat) : Int)).2) = lowD ((sumK k (maxL l) (l.take (i + 1)) : Nat) : Int) ((k ^ maxL l : Nat) : Int) := by
      unfold lowD
      rw [low_plus hK hL eK, es, Int.natCast_add]
    rw [eF]
    exact ⟨_, rfl⟩
  · rintro ρ ⟨a3, rfl⟩
    have e : (natsD l).length = l.length := List.length_map _
    rw [e, List.take_length]
    exact q
theorem maxI_cons (x : Int) {l : List Int} (h : l ≠ []) : maxI (x :: l) = max x (maxI l) := by
  cases l with
  | nil => exact absurd rfl h
  | cons y r => rfl
theorem maxI_nats (l : List Nat) : maxI ((natsD l ++ [D.int 0]).map intOf) = ((maxL l : Nat) : Int) := by
  induction l with
  | nil => rfl
  | cons a l ih =>
    show maxI (((a : Nat) : Int) :: (natsD l ++ [D.int 0]).map intOf) = ((max a (maxL l) : Nat) : Int)
    rw [maxI_cons _ (by simp), ih]
    omega
theorem vc__law_total : ∀ ds Q, C__law_total ds Q → b__law_total { nx := fun _ => Q (.val .non), rt := Q } (start3 n__law_total ds) := by
  rintro ds Q ⟨l, k, rfl, ⟨hl, hx⟩, k1, k6, q⟩
  have hT : maxL l ≤ 20 := maxL_bound hx
  have hKp : 0 < k ^ maxL l := Nat.pow_pos (by omega)
  have hK : ((k ^ maxL l : Nat) : Int) ≠ 0 := by omega
  have hn : (natsD l).length = l.length := List.length_map _
  refine And.intro (by exact Nat.le_of_ble_eq_true rfl) (And.intro (by rw [hn, sL]; show _ + 1 ≤ _; omega) (And.intro ?_ (And.intro (by simp) ?_)))
  · rw [List.all_append, Bool.and_eq_true]
    refine ⟨?_, rfl⟩
    rw [List.all_eq_true]
    intro d hd
    obtain ⟨x, _, rfl⟩ := List.mem_map.mp hd
    rfl
  rw [maxI_nats]
  refine lcNY (fun x : Nat => D.int ((x : Nat) : Int)) (fun x => .int ((k ^ (maxL l - x) : Nat) : Int)) (by exact Nat.le_of_ble_eq_true rfl) (by rw [sL]; omega) (fun x hxl C hC => ?_) ?_
  · have := maxL_le hxl
    exact Exists.intro k (Exists.intro (maxL l - x) (And.intro (by rw [show ((maxL l - x : Nat) : Int) = ((maxL l : Nat) : Int) - ((x : Nat) : Int) by omega]) (And.intro k6 (And.intro (by omega) hC))))
  refine And.intro (by rw [List.all_map, List.all_eq_true]; intro x _; rfl) ?_
  have es : ((l.map fun x => D.int ((k ^ (maxL l - x) : Nat) : Int)).map intOf).sum = ((sumK k (maxL l) l : Nat) : Int) := by
    unfold sumK
    rw [List.map_map]
    generalize maxL l = T
    clear q hn hx hl hK hKp hT
    induction l with
    | nil => rfl
    | cons a l ih => rw [List.map_cons, List.map_cons, List.sum_cons, List.sum_cons, ih]; show ((_ : Nat) : Int) + _ = _; rw [Int.natCast_add]
  rw [es]
  refine Exists.intro k (Exists.intro (maxL l) (And.intro rfl (And.intro k6 (And.intro (by omega) ?_))))
  have hS := sumK_bound k6 k1 hT l
  have bS : bigI 800 ((sumK k (maxL l) l : Nat) : Int) := by
    refine big_mono (a := 60) ?_ (by decide)
    show sumK k (maxL l) l < 2 ^ 60
    have : l.length * 6 ^ 20 ≤ 30 * 6 ^ 20 := Nat.mul_le_mul_right _ hl
    omega
  exact Exists.intro _ (Exists.intro _ (And.intro rfl (And.intro bS (And.intro (big_mono (big_pow k6 (by omega)) (by decide)) (And.intro hK q)))))
theorem nats_at {l : List Nat} {i : Nat} (h : i < l.length) : atI (natsD l) ((i : Nat) : Int) = some (.int ((l.getD i 0 : Nat) : Int)) := by
  rw [atI_nat (v := .int ((l.getD i 0 : Nat) : Int))]
  unfold natsD
  rw [List.getElem?_map, List.getD_eq_getElem?_getD, List.getElem?_eq_getElem h]; rfl
theorem natsD_len (l : List Nat) : (natsD l).length = l.length := List.length_map _
theorem strsD_len (l : List (List Nat)) : (strsD l).length = l.length := List.length_map _
/-! the pairs in order -/
theorem leP_dat (x y : Nat × Nat) : leP x y = leDat (encP x) (encP y) := by
  unfold leP leDat encP
  simp only [pyD, pyL]
  rw [PySem.W.dataLt_ii]
  congr 1
  refine decide_eq_decide.mpr ?_
  omega
theorem srt_enc (l : List Nat) : ((idxP l).map encP).mergeSort leDat = (srtP l).map encP := (List.map_mergeSort (r := leP) (s := leDat) (f := encP) fun a _ b _ => leP_dat a b).symm
theorem idxP_len (l : List Nat) : (idxP l).length = l.length := by unfold idxP; rw [List.length_map, List.length_range]
theorem srtP_perm (l : List Nat) : (srtP l).Perm (idxP l) := List.mergeSort_perm ..
theorem srtP_len (l : List Nat) : (srtP l).length = l.length := by rw [(srtP_perm l).length_eq, idxP_len]
theorem idxP_map (l : List Nat) (f : Nat → Nat) : (idxP l).map (fun p => f p.1) = l.map f := by
  unfold idxP
  rw [List.map_map]
  refine List.ext_getElem? fun j => ?_
  rw [List.getElem?_map, List.getElem?_map]
  by_cases hj : j < l.length
  · rw [List.getElem?_range hj, List.getElem?_eq_getElem hj]
    show some (f (l.getD j 0)) = some (f l[j])
    rw [List.getD_eq_getElem?_getD, List.getElem?_eq_getElem hj]; rfl
  · rw [List.getElem?_eq_none (by rw [List.length_range]; omega), List.getElem?_eq_none (by omega)]; rfl
theorem srtP_sum (l : List Nat) (f : Nat → Nat) : ((srtP l).map fun p => f p.1).sum = (l.map f).sum := by
  rw [← idxP_map l f]
  exact ((srtP_perm l).map _).sum_nat
theorem srtP_mem {l : List Nat} {p : Nat × Nat} (h : p ∈ srtP l) : p.2 < l.length ∧ p.1 ∈ l := by
  have h := (srtP_perm l).mem_iff.mp h
  unfold idxP at h
  obtain ⟨i, hi, rfl⟩ := List.mem_map.mp h
  have hi := List.mem_range.mp hi
  refine ⟨hi, ?_⟩
  show l.getD i 0 ∈ l
  rw [List.getD_eq_getElem?_getD, List.getElem?_eq_getElem hi]
  exact List.getElem_mem _
theorem srtP_pw (l : List Nat) : (srtP l).Pairwise fun x y => x.1 ≤ y.1 := by
  have h : (srtP l).Pairwise (fun x y => leP x y = true) := by
    refine List.pairwise_mergeSort (fun a b c h1 h2 => ?_) (fun a b => ?_) _
    · unfold leP at *
      simp only [Bool.not_eq_true', decide_eq_false_iff_not] at *
      omega
    · unfold leP
      rw [Bool.or_eq_true]
      simp only [Bool.not_eq_true', decide_eq_false_iff_not]
      omega
  refine h.imp fun {a b} h => ?_
  unfold leP at h
  simp only [Bool.not_eq_true', decide_eq_false_iff_not] at h
  omega
theorem srtP_nd (l : List Nat) : ((srtP l).map (·.2)).Nodup := by
  refine ((srtP_perm l).map (·.2)).nodup_iff.mpr ?_
  unfold idxP
  rw [List.map_map]
  show ((List.range l.length).map fun i => i).Nodup
  rw [List.map_id']
  exact List.nodup_range
theorem srt_ok (l : List (Nat × Nat)) : SortOk (l.map encP) := by
  refine ⟨fun d hd => ?_, fun a ha b hb => ?_, .inl fun a ha => ?_, fun d hd => ?_⟩
  · obtain ⟨s, _, rfl⟩ := List.mem_map.mp hd
    rfl
  · obtain ⟨x, hx, rfl⟩ := List.mem_map.mp ha
    obtain ⟨y, hy, rfl⟩ := List.mem_map.mp hb
    obtain ⟨s, _, rfl⟩ := List.mem_map.mp hx
    obtain ⟨t, _, rfl⟩ := List.mem_map.mp hy
    rfl
  · obtain ⟨x, hx, rfl⟩ := List.mem_map.mp ha
    obtain ⟨s, _, rfl⟩ := List.mem_map.mp hx
    exact ⟨_, _, rfl⟩
  · obtain ⟨s, _, rfl⟩ := List.mem_map.mp hd
    exact Nat.le_of_ble_eq_true rfl
theorem sort_pairs {l : List Nat} {P : R → Prop} {L : List D} (e : L = (idxP l).map encP) (hl : l.length ≤ 30) (h : P (.new (.lst ((srtP l).map encP)))) : sortedY (.lst L) P := by
  subst e
  refine .inr ⟨_, rfl, by rw [List.length_map, idxP_len, sL]; omega, srt_ok _, ?_⟩
  rw [srt_enc]; exact h
/-! what is kept while words are given -/
def Fit (k T n : Nat) (ps : List (Nat × Nat)) (N b : Nat) : Prop := b ≤ T ∧ N * k ^ (T - b) + (ps.map fun p => k ^ (T - p.1)).sum ≤ k ^ T ∧ (∀ p ∈ ps, b ≤ p.1 ∧ p.1 ≤ T ∧ p.2 < n) ∧ ps.Pairwise (fun x y => x.1 ≤ y.1)
theorem fit_start {k : Nat} {l : List Nat} (h : fits k l) : Fit k (maxL l) l.length (srtP l) 0 0 := by
  refine ⟨Nat.zero_le _, ?_, fun p hp => ?_, srtP_pw l⟩
  · rw [Nat.zero_mul, Nat.zero_add, srtP_sum l fun x => k ^ (maxL l - x)]
    exact h
  · obtain ⟨h1, h2⟩ := srtP_mem hp
    exact ⟨Nat.zero_le _, maxL_le h2, h1⟩
theorem fit_step {k T n l i N b : Nat} {ps : List (Nat × Nat)} (hk : 0 < k) (h : Fit k T n ((l, i) :: ps) N b) : b ≤ l ∧ l ≤ T ∧ i < n ∧ N * k ^ (l - b) < k ^ l ∧ Fit k T n ps (N * k ^ (l - b) + 1) l := by
  obtain ⟨h1, h2, h3, h4⟩ := h
  obtain ⟨a1, a2, a3⟩ := h3 (l, i) (List.mem_cons_self ..)
  have a1 : b ≤ l := a1
  have a2 : l ≤ T := a2
  rw [List.pairwise_cons] at h4
  have e1 : N * k ^ (T - b) = N * k ^ (l - b) * k ^ (T - l) := by
    rw [Nat.mul_assoc, ← Nat.pow_add, show l - b + (T - l) = T - b by omega]
  have e2 : k ^ T = k ^ l * k ^ (T - l) := by rw [← Nat.pow_add, show l + (T - l) = T by omega]
  have hK : 0 < k ^ (T - l) := Nat.pow_pos hk
  rw [List.map_cons, List.sum_cons, e1] at h2
  have h2 : N * k ^ (l - b) * k ^ (T - l) + (k ^ (T - l) + (ps.map fun p => k ^ (T - p.1)).sum) ≤ k ^ T := h2
  refine ⟨a1, a2, a3, ?_, a2, ?_, fun p hp => ⟨h4.1 p hp, (h3 p (List.mem_cons_of_mem _ hp)).2⟩, h4.2⟩
  · refine Nat.lt_of_mul_lt_mul_right (a := k ^ (T - l)) ?_
    rw [← e2]; omega
  · rw [Nat.succ_mul]; omega
theorem pow_20 {k l : Nat} (hk : k ≤ 6) (hl : l ≤ 20) : k ^ l < 2 ^ 60 := Nat.lt_of_le_of_lt (Nat.pow_le_pow_left hk l) (Nat.lt_of_le_of_lt (Nat.pow_le_pow_right (by decide) hl) (by decide))
theorem vc_written : ∀ ds Q, C_written ds Q → b_written { nx := fun _ => Q (.val .non), rt := Q } (start3 n_written ds) := by
  rintro ds Q ⟨n, l, k, rfl, hn, hl, k1, k6, q⟩
  have hd : ∀ i, n / k ^ i < 2 ^ 60 := fun i => Nat.lt_of_le_of_lt (Nat.div_le_self ..) hn
  refine And.intro (by exact Nat.le_of_ble_eq_true rfl) (And.intro (by unfold SmallI; omega) ?_)
  refine Exists.intro (fun (i : Nat) (ρ : Env3) => ∃ a4, ρ = [.val (.int ((n / k ^ i : Nat) : Int)), .val (.int l), .val (.int k), .own (.lst ((List.range i).map fun t => D.str [97 + n / k ^ t % k])), a4] ∧ i ≤ l) (And.intro ⟨_, by rw [Nat.pow_zero, Nat.div_one]; rfl, Nat.zero_le _⟩ (And.intro ?_ ?_))
  · rintro i d ρ hdd ⟨a4, rfl, _⟩
    obtain ⟨hi2, rfl⟩ := rng_get hdd
    have hi : i < l := by omega
    have hm := hd i
    have bn : bigI 60 ((n / k ^ i : Nat) : Int) := hm
    have bk : bigI 60 ((k : Nat) : Int) := big_small (show k < 2 ^ 20 by omega) (by decide)
    have cd : CDivW ((n / k ^ i : Nat) : Int) ((k : Nat) : Int) := big_divW (b := 60) (by decide) bk (by omega)
    have hmod : n / k ^ i % k < 26 := Nat.lt_of_lt_of_le (Nat.mod_lt _ k1) (by omega)
    refine And.intro (by exact Nat.le_of_ble_eq_true rfl) (And.intro cd (And.intro (big_mulW (a := 60) (b := 60) (by decide) (by decide) (big_le bn ?_) bk) (And.intro (by exact Nat.le_of_ble_eq_true rfl) (Exists.intro (97 + n / k ^ i % k) (And.intro ?_ (And.intro ?_ ?_))))))
    · rw [← Int.natCast_ediv]
      show n / k ^ i / k ≤ n / k ^ i
      exact Nat.div_le_self _ _
    · rw [mod_int]
      exact abc_at hmod
    · rw [List.length_map, List.length_range, sL]; omega
    · refine And.intro cd ⟨_, congr (congrArg (fun a b => [Sl.val (.int a), _, _, Sl.own (.lst b), _]) ?_) ?_, by omega⟩
      · rw [← Int.natCast_ediv, Nat.div_div_eq_div_mul, ← Nat.pow_succ]
      · rw [List.range_succ, List.map_append]; rfl
  · rintro ρ ⟨a4, rfl, _⟩
    have hn : (rng 0 1 ((l : Int)).toNat).length = l := by rw [rng_l1, List.length_map, List.length_range]; omega
    rw [hn]
    have e : ((List.range l).map fun t => D.str [97 + n / k ^ t % k]).reverse = (wr k n l).map fun c => D.str [c] := by
      unfold wr
      rw [List.map_reverse, List.map_map]; rfl
    refine And.intro ?_ ?_
    · rw [e]; exact (join_chars _).1
    rw [e]
    obtain ⟨j1, j2⟩ := join_chars (wr k n l)
    refine And.intro ?_ ?_
    · rw [List.map_map]
      have e2 : ((wr k n l).map fun c => (strOf (D.str [c])).length) = (wr k n l).map fun _ => 1 := rfl
      show ((wr k n l).map fun c => (strOf (D.str [c])).length).sum + _ * 0 ≤ _
      rw [e2, List.map_const', List.sum_replicate_nat, wr_len]
      omega
    · show Q (.val (.str (joinS [] _)))
      rw [joinS_nil, j2]
      exact q

theorem low_cmp (S K : Nat) (hK : 0 < K) : (low (S : Int) (K : Int)).2 < (low (S : Int) (K : Int)).1 ↔ K < S := by
  obtain ⟨f1, f2, _, _⟩ := low_facts (n := (S : Int)) (d := (K : Int)) (by omega)
  have hK2 : (0 : Int) < K := by omega
  constructor
  · intro h
    have h1 := Int.mul_lt_mul_of_pos_right h hK2
    rw [f2, Int.mul_comm (S : Int)] at h1
    have := Int.lt_of_mul_lt_mul_left h1 (by omega)
    omega
  · intro h
    have h2 : (K : Int) < S := by omega
    have h1 := Int.mul_lt_mul_of_pos_left h2 f1
    rw [Int.mul_comm (low (S : Int) (K : Int)).2 (S : Int), ← f2] at h1
    exact Int.lt_of_mul_lt_mul_right h1 (by omega)
theorem total_facts {l : List Nat} {k : Nat} (ok : okL l) (k1 : 1 ≤ k) (k6 : k ≤ 6) : 0 < k ^ maxL l ∧ bigI 300 (low ((sumK k (maxL l) l : Nat) : Int) ((k ^ maxL l : Nat) : Int)).1 ∧ bigI 300 (low ((sumK k (maxL l) l : Nat) : Int) ((k ^ maxL l : Nat) : Int)).2 := by
  obtain ⟨hl, hx⟩ := ok
  have hT : maxL l ≤ 20 := maxL_bound hx
  have hKp : 0 < k ^ maxL l := Nat.pow_pos (by omega)
  have hK : ((k ^ maxL l : Nat) : Int) ≠ 0 := by omega
  have bK : bigI 100 ((k ^ maxL l : Nat) : Int) := big_pow k6 (by omega)
  have hS := sumK_bound k6 k1 hT l
  have bS : bigI 100 ((sumK k (maxL l) l : Nat) : Int) := by
    refine big_mono (a := 60) ?_ (by decide)
    show sumK k (maxL l) l < 2 ^ 60
    have : l.length * 6 ^ 20 ≤ 30 * 6 ^ 20 := Nat.mul_le_mul_right _ hl
    omega
  obtain ⟨f1, f2, f3, f4⟩ := low_facts (n := ((sumK k (maxL l) l : Nat) : Int)) hK
  exact ⟨hKp, big_mono (big_le bS f3) (by decide), big_mono (big_le bK f4) (by decide)⟩
theorem enc_get {l : List (Nat × Nat)} {j : Nat} {d : D} (h : (l.map encP)[j]? = some d) : ∃ x i, l[j]? = some (x, i) ∧ d = encP (x, i) := by
  rw [List.getElem?_map] at h
  cases e : l[j]? with
  | none => rw [e] at h; cases h
  | some x => rw [e] at h; exact ⟨x.1, x.2, rfl, (Option.some.inj h).symm⟩
theorem drop_at {α : Type} {l : List α} {j : Nat} {x : α} (h : l[j]? = some x) : l.drop j = x :: l.drop (j + 1) := by
  obtain ⟨hi, e⟩ := List.getElem?_eq_some_iff.mp h
  rw [List.drop_eq_getElem_cons hi, e]
theorem ixn {n j : Nat} (h : j < n) : ixN n ((j : Nat) : Int) = some j := by
  unfold ixN
  rw [if_pos (by omega), if_pos (by omega), Int.toNat_natCast]
theorem strs_set (W : List (List Nat)) (i : Nat) (w : List Nat) : (strsD W).set i (.str w) = strsD (W.set i w) := by
  unfold strsD
  rw [List.map_set]
theorem repN_one {α : Type} (x : α) (n : Nat) : repN ((n : Nat) : Int) [x] = List.replicate n x := by
  unfold repN
  rw [Int.toNat_natCast]
  induction n with
  | zero => rfl
  | succ n ih => rw [List.replicate_succ, List.replicate_succ, List.flatten_cons, ih]; rfl
theorem vc_code_for : ∀ ds Q, C_code_for ds Q → b_code_for { nx := fun _ => Q (.val .non), rt := Q } (start3 n_code_for ds) := by
  rintro ds Q ⟨l, k, rfl, ok, k1, k6, q⟩
  obtain ⟨hl, hx⟩ := id ok
  have hT : maxL l ≤ 20 := maxL_bound hx
  obtain ⟨hKp, b1, b2⟩ := total_facts ok k1 k6
  have hcmp := low_cmp (sumK k (maxL l) l) (k ^ maxL l) hKp
  refine Exists.intro l (Exists.intro k (And.intro rfl (And.intro ok (And.intro k1 (And.intro k6 ?_)))))
  refine And.intro (by exact Nat.le_of_ble_eq_true rfl) ?_
  refine Exists.intro 1 (Exists.intro 1 (Exists.intro _ (Exists.intro _ (And.intro rfl (And.intro (big_small (by decide) (by decide)) (And.intro (big_small (by decide) (by decide)) (And.intro b1 (And.intro b2 ?_))))))))
  rw [Int.one_mul, Int.mul_one]
  refine ite_w (fun h => ?_) fun h => ?_
  · have h := hcmp.mp (of_decide_eq_true h)
    unfold dueD at q
    rw [if_neg (by omega)] at q
    exact And.intro (by exact Nat.le_of_ble_eq_true rfl) q
  · have h : fits k l := by
      have h := of_decide_eq_false h
      unfold fits
      have := mt hcmp.mpr h
      omega
    unfold dueD at q
    rw [if_pos (show sumK k (maxL l) l ≤ k ^ maxL l from h)] at q
    refine nextK ?_
    refine And.intro (by exact Nat.le_of_ble_eq_true rfl) (And.intro (by rw [natsD_len]; omega) (And.intro (by omega) (And.intro (by rw [natsD_len, sL]; show 1 * _ ≤ _; omega) ?_)))
    refine And.intro (by exact Nat.le_of_ble_eq_true rfl) (And.intro rfl (And.intro (by exact Nat.le_of_ble_eq_true rfl) (And.intro (by exact Nat.le_of_ble_eq_true rfl) (And.intro rfl ?_))))
    refine lcI (fun i ρ acc => ∃ a6 a7, ρ = [.val (.tup (natsD l)), .val (.int k), .val (totD k l), .own (.lst (repN (((natsD l).length : Nat) : Int) [D.str []])), .val (.int 0), .val (.int 0), a6, a7] ∧ acc = ((idxP l).take i).map encP) ⟨_, _, rfl, rfl⟩ ?_ ?_
    · rintro i d ρ acc hd ⟨a6, a7, rfl, rfl⟩ K hK
      obtain ⟨y, hy, rfl⟩ := enumD_get hd
      obtain ⟨x, hxg, rfl⟩ := nats_get hy
      obtain ⟨hi, e1⟩ := List.getElem?_eq_some_iff.mp hxg
      refine And.intro rfl (And.intro (by exact Nat.le_of_ble_eq_true rfl) (And.intro (by exact Nat.le_of_ble_eq_true rfl) (And.intro rfl (And.intro (by exact Nat.le_of_ble_eq_true rfl) ?_))))
      have e2 : (idxP l)[i]? = some (x, i) := by
        unfold idxP
        rw [List.getElem?_map, List.getElem?_range hi]
        show some (l.getD i 0, i) = _
        rw [List.getD_eq_getElem?_getD, hxg]; rfl
      obtain ⟨hi2, e3⟩ := List.getElem?_eq_some_iff.mp e2
      refine And.intro (by rw [List.length_map, List.length_take, sL]; omega) (hK _ _ ⟨_, _, rfl, ?_⟩)
      rw [List.take_succ_eq_append_getElem hi2, List.map_append, e3]
      show _ ++ [D.tup [_, .int ((0 + i : Nat) : Int)]] = _ ++ [encP (x, i)]
      rw [Nat.zero_add]; rfl
    · rintro ρ acc ⟨a6, a7, rfl, rfl⟩
      rw [enumD_len, natsD_len, ← idxP_len, List.take_length, idxP_len]
      refine sort_pairs rfl hl ?_
      refine Exists.intro (fun (j : Nat) (ρ : Env3) => ∃ N b W a6 a7, ρ = [.val (.tup (natsD l)), .val (.int k), .val (totD k l), .own (.lst (strsD W)), .val (.int ((N : Nat) : Int)), .val (.int ((b : Nat) : Int)), a6, a7] ∧ canW k ((srtP l).drop j) N b W = codeW k l ∧ W.length = l.length ∧ Fit k (maxL l) l.length ((srtP l).drop j) N b) (And.intro ⟨0, 0, _, _, _, congrArg (fun L => [_, _, _, Sl.own (.lst L), _, _, _, _]) ?_, rfl, List.length_replicate, fit_start h⟩ (And.intro ?_ ?_))
      · rw [repN_one]
        unfold strsD
        rw [List.map_replicate]
      · rintro j d ρ hd ⟨N, b, W, a6, a7, rfl, hc, hW, hf⟩
        obtain ⟨x, i, hg, rfl⟩ := enc_get hd
        rw [drop_at hg] at hc hf
        obtain ⟨g1, g2, g3, g4, g5⟩ := fit_step (by omega) hf
        have hb := pow_20 k6 (show x ≤ 20 by omega)
        have hp := pow_20 k6 (show x - b ≤ 20 by omega)
        refine And.intro rfl (And.intro (by exact Nat.le_of_ble_eq_true rfl) (And.intro (by exact Nat.le_of_ble_eq_true rfl) (And.intro rfl ?_)))
        have kp : 0 < k ^ (x - b) := Nat.pow_pos k1
        have hN : N < 2 ^ 60 := by
          have := Nat.le_mul_of_pos_right N kp
          omega
        refine Exists.intro k (Exists.intro (x - b) (And.intro (by rw [show ((x - b : Nat) : Int) = ((x : Nat) : Int) - ((b : Nat) : Int) by omega]) (And.intro k6 (And.intro (by omega) ?_))))
        refine And.intro (.inl ⟨by omega, by omega⟩) ?_
        rw [← Int.natCast_mul]
        refine Exists.intro (N * k ^ (x - b)) (Exists.intro x (Exists.intro k (And.intro rfl (And.intro (by omega) (And.intro (by omega) (And.intro k1 (And.intro k6 ?_)))))))
        refine Exists.intro i (And.intro (ixn (by rw [strsD_len]; omega)) ?_)
        refine ⟨N * k ^ (x - b) + 1, x, W.set i (wr k (N * k ^ (x - b)) x), _, _, congrArg (fun L => [_, _, _, Sl.own (.lst L), _, _, _, _]) (strs_set ..), hc, by rw [List.length_set]; exact hW, g5⟩
      · rintro ρ ⟨N, b, W, a6, a7, rfl, hc, hW, hf⟩
        rw [List.length_map, List.drop_length] at hc
        have hc : W = codeW k l := hc
        rw [hc]
        exact And.intro (by exact Nat.le_of_ble_eq_true rfl) q

theorem nats_of : ∀ l : List D, (∀ d ∈ l, ∃ n : Nat, d = .int n) → ∃ ys : List Nat, l = natsD ys
  | [], _ => ⟨[], rfl⟩
  | a :: l, h => by
    obtain ⟨c, rfl⟩ := h a (List.mem_cons_self ..)
    obtain ⟨w, rfl⟩ := nats_of l fun d hd => h d (List.mem_cons_of_mem _ hd)
    exact ⟨c :: w, rfl⟩
theorem erase_nats (a : Nat) : ∀ ws : List Nat, (natsD ws).eraseIdx a = natsD (ws.eraseIdx a) := by
  induction a with
  | zero => intro ws; cases ws <;> rfl
  | succ a ih =>
    intro ws
    cases ws with
    | nil => rfl
    | cons w ws => show D.int _ :: (natsD ws).eraseIdx a = D.int _ :: natsD (ws.eraseIdx a); rw [ih]
theorem perm_erase : ∀ (l : List Nat) (i : Nat) (h : i < l.length), List.Perm (l[i] :: l.eraseIdx i) l
  | a :: l, 0, _ => List.Perm.refl _
  | a :: l, i + 1, h => by
    have h : i < l.length := Nat.lt_of_succ_lt_succ h
    exact (List.Perm.swap a l[i] (l.eraseIdx i)).trans ((perm_erase l i h).cons a)
theorem vc__law_mixed : ∀ ds Q, C__law_mixed ds Q → b__law_mixed { nx := fun _ => Q (.val .non), rt := Q } (start3 n__law_mixed ds) := by
  rintro ds Q ⟨l, rfl, hl, q⟩
  refine And.intro (by rw [natsD_len]; unfold SmallI; omega) ?_
  refine lcI (fun i ρ acc => ∃ (left out : List Nat) (a : Sl), ρ = [.val .box, .val (.lst (natsD l)), .own (.lst (natsD left)), a] ∧ acc = natsD out ∧ i ≤ l.length ∧ left.length = l.length - i ∧ List.Perm (out ++ left) l) ?_ ?_ ?_
  · exact ⟨l, [], _, rfl, rfl, Nat.zero_le _, rfl, List.Perm.refl _⟩
  · rintro i d ρ acc hd ⟨left, out, a, rfl, rfl, hi, hlen, hp⟩ K hK
    obtain ⟨hi2, rfl⟩ := rng_get hd
    have hi3 : i < l.length := by rw [natsD_len] at hi2; simpa using hi2
    have hout : out.length = i := by
      have := hp.length_eq
      rw [List.length_append] at this
      omega
    refine And.intro (by exact Nat.le_of_ble_eq_true rfl) ?_
    refine Exists.intro _ (And.intro rfl (And.intro (by rw [natsD_len]; omega) (And.intro (by rw [natsD_len]; omega) fun r r0 r1 => ?_)))
    rw [natsD_len] at r1
    have hr : r.toNat < left.length := by omega
    have hr2 : r.toNat < (natsD left).length := by rw [natsD_len]; exact hr
    refine And.intro (by unfold SmallI; omega) ?_
    refine Exists.intro r.toNat (Exists.intro (.int ((left[r.toNat] : Nat) : Int)) (And.intro ?_ (And.intro ?_ ?_)))
    · unfold ixN
      rw [if_pos r0, if_pos (by rw [natsD_len]; omega)]
    · unfold natsD
      rw [List.getElem?_map, List.getElem?_eq_getElem hr]; rfl
    refine And.intro (by rw [natsD_len, sL]; omega) (hK _ _ ⟨left.eraseIdx r.toNat, out ++ [left[r.toNat]], _, congrArg (fun L => [_, _, Sl.own (.lst L), _]) (erase_nats ..), ?_, by omega, ?_, ?_⟩)
    · unfold natsD
      rw [List.map_append]; rfl
    · rw [List.length_eraseIdx_of_lt hr]; omega
    · rw [List.append_assoc]
      exact (List.Perm.append_left out (perm_erase left r.toNat hr)).trans hp
  · rintro ρ acc ⟨left, out, a, rfl, rfl, hi, hlen, hp⟩
    rw [rng_len, natsD_len, Int.toNat_natCast] at hlen
    have e : left = [] := List.eq_nil_of_length_eq_zero (by omega)
    subst e
    rw [List.append_nil] at hp
    exact q out hp
theorem vc__law_longer : ∀ ds Q, C__law_longer ds Q → b__law_longer { nx := fun _ => Q (.val .non), rt := Q } (start3 n__law_longer ds) := by
  rintro ds Q ⟨ws, k, rfl, hk, hw, hl, q⟩
  refine And.intro (by exact Nat.le_of_ble_eq_true rfl) ?_
  have lm : ∀ l : List (List Nat), ((l.map (moreW k)).flatten).length ≤ 6 * l.length := fun l => by
    rw [List.length_flatten, List.map_map]
    induction l with
    | nil => exact Nat.zero_le _
    | cons a l ih =>
      rw [List.map_cons, List.sum_cons, List.length_cons]
      have : (moreW k a).length ≤ 6 := by
        unfold moreW
        rw [List.length_map, List.length_range]; exact hk
      show (moreW k a).length + _ ≤ _
      omega
  refine Exists.intro (fun (i : Nat) (ρ : Env3) => ∃ a4 a5, ρ = [.val (.lst (strsD ws)), .val (.int k), .own (.lst (strsD (((ws.take i).map (moreW k)).flatten))), a4, a5]) (And.intro ⟨_, _, rfl⟩ (And.intro ?_ ?_))
  · rintro i d ρ hd ⟨a4, a5, rfl⟩
    obtain ⟨r, hr, rfl⟩ := ms_get hd
    obtain ⟨hi, e1⟩ := List.getElem?_eq_some_iff.mp hr
    have hrl := hw r (List.mem_of_getElem? hr)
    refine And.intro (by exact Nat.le_of_ble_eq_true rfl) (And.intro (by exact Nat.le_of_ble_eq_true rfl) ?_)
    rw [cut_abc (by omega)]
    refine And.intro (by rw [List.length_map, List.length_range, sL]; omega) ?_
    rw [List.map_map]
    refine lcNY (xs := List.range k) (fun j => D.str [97 + j]) (fun j => D.str (r ++ [97 + j])) (by exact Nat.le_of_ble_eq_true rfl) (by rw [List.length_range, sL]; omega) (fun j hj C hC => ?_) ?_
    · exact And.intro (by rw [sL]; show _ + 1 ≤ _; omega) hC
    · have e4 : ((ws.take (i + 1)).map (moreW k)).flatten = ((ws.take i).map (moreW k)).flatten ++ moreW k r := by
        rw [List.take_succ_eq_append_getElem hi, List.map_append, List.flatten_append, e1]
        show _ ++ (moreW k r ++ []) = _
        rw [List.append_nil]
      have e5 : (List.range k).map (fun j => D.str (r ++ [97 + j])) = strsD (moreW k r) := by
        unfold moreW strsD
        rw [List.map_map]
        rfl
      have l1 := lm (ws.take i)
      have l2 : (ws.take i).length ≤ 1000 := by rw [List.length_take]; omega
      have l3 : (moreW k r).length ≤ 6 := by
        unfold moreW
        rw [List.length_map, List.length_range]; exact hk
      rw [e5]
      refine And.intro (by rw [strsD_len, strsD_len, sL]; omega) ⟨_, _, congrArg (fun L => [_, _, Sl.own (.lst L), _, _]) (show _ = _ from ?_)⟩
      rw [e4]
      unfold strsD
      rw [List.map_append]
  · rintro ρ ⟨a4, a5, rfl⟩
    rw [strsD_len, List.take_length]
    exact q
theorem allW_len (k n : Nat) : (allW k n).length = k ^ n := by rw [allW_wr, List.length_map, List.length_range]
theorem vc__law_words : ∀ ds Q, C__law_words ds Q → b__law_words { nx := fun _ => Q (.val .non), rt := Q } (start3 n__law_words ds) := by
  rintro ds Q ⟨n, k, rfl, k1, k6, hn, hf, q⟩
  refine And.intro (by exact Nat.le_of_ble_eq_true rfl) (And.intro (by unfold SmallI; omega) ?_)
  refine Exists.intro (fun (i : Nat) (ρ : Env3) => ∃ a3, ρ = [.val (.int n), .val (.int k), .own (.lst (strsD (allW k i))), a3] ∧ i ≤ n) (And.intro ⟨_, rfl, Nat.zero_le _⟩ (And.intro ?_ ?_))
  · rintro i d ρ hd ⟨a3, rfl, _⟩
    obtain ⟨hi2, rfl⟩ := rng_get hd
    have hi : i < n := by omega
    refine And.intro (by exact Nat.le_of_ble_eq_true rfl) ?_
    refine Exists.intro (allW k i) (Exists.intro k (And.intro rfl (And.intro k6 (And.intro (fun w hw => ?_) (And.intro ?_ ?_)))))
    · have := (allW_mem k i w hw).1
      omega
    · rw [allW_len]
      exact Nat.le_trans (Nat.pow_le_pow_right k1 (by omega)) hf
    · exact ⟨_, rfl, by omega⟩
  · rintro ρ ⟨a3, rfl, _⟩
    have hn : (rng 0 1 ((n : Int)).toNat).length = n := by rw [rng_l1, List.length_map, List.length_range]; omega
    rw [hn]
    exact q
theorem vc__law_counted : ∀ ds Q, C__law_counted ds Q → b__law_counted { nx := fun _ => Q (.val .non), rt := Q } (start3 n__law_counted ds) := by
  rintro ds Q ⟨l, k, rfl, ok, k1, k6, h, q⟩
  obtain ⟨hl, hx⟩ := id ok
  have hT : maxL l ≤ 20 := maxL_bound hx
  refine And.intro (by exact Nat.le_of_ble_eq_true rfl) (And.intro (by rw [natsD_len]; omega) (And.intro (by omega) (And.intro (by rw [natsD_len, sL]; show 1 * _ ≤ _; omega) ?_)))
  refine And.intro (by rw [natsD_len]; unfold SmallI; omega) ?_
  refine lc0Y (fun i => encP (l.getD i 0, i)) (by rw [natsD_len, sL]; omega) (fun i hi C hC => ?_) ?_
  · rw [natsD_len] at hi
    exact Exists.intro _ (And.intro (nats_at hi) (And.intro (by exact Nat.le_of_ble_eq_true rfl) hC))
  rw [natsD_len]
  refine sort_pairs (l := l) (by unfold idxP; rw [List.map_map]; rfl) hl ?_
  refine Exists.intro (fun (j : Nat) (ρ : Env3) => ∃ N b W a5 a6 a7 a8 a9, ρ = [.val (.tup (natsD l)), .val (.int k), .own (.lst (strsD W)), .val (.int ((N : Nat) : Int)), .val (.int ((b : Nat) : Int)), a5, a6, a7, a8, a9] ∧ canW k ((srtP l).drop j) N b W = codeW k l ∧ W.length = l.length ∧ Fit k (maxL l) l.length ((srtP l).drop j) N b) (And.intro ⟨0, 0, _, _, _, _, _, _, congrArg (fun L => [_, _, Sl.own (.lst L), _, _, _, _, _, _, _]) ?_, rfl, List.length_replicate, fit_start h⟩ (And.intro ?_ ?_))
  · rw [repN_one]
    unfold strsD
    rw [List.map_replicate]
  · rintro j d ρ hd ⟨N, b, W, a5, a6, a7, a8, a9, rfl, hc, hW, hf⟩
    obtain ⟨x, i, hg, rfl⟩ := enc_get hd
    rw [drop_at hg] at hc hf
    obtain ⟨g1, g2, g3, g4, g5⟩ := fit_step (by omega) hf
    have hb := pow_20 k6 (show x ≤ 20 by omega)
    have hp := pow_20 k6 (show x - b ≤ 20 by omega)
    have kp : 0 < k ^ (x - b) := Nat.pow_pos k1
    have hN : N < 2 ^ 60 := by
      have := Nat.le_mul_of_pos_right N kp
      omega
    refine And.intro rfl (And.intro (by exact Nat.le_of_ble_eq_true rfl) (And.intro (by exact Nat.le_of_ble_eq_true rfl) (And.intro rfl ?_)))
    refine Exists.intro k (Exists.intro (x - b) (And.intro (by rw [show ((x - b : Nat) : Int) = ((x : Nat) : Int) - ((b : Nat) : Int) by omega]) (And.intro k6 (And.intro (by omega) ?_))))
    refine And.intro (big_mulW (a := 60) (b := 60) (by decide) (by decide) (show bigI 60 ((N : Nat) : Int) from hN) (show bigI 60 ((k ^ (x - b) : Nat) : Int) from hp)) ?_
    rw [← Int.natCast_mul]
    have hc2 : canW k ((srtP l).drop (j + 1)) (N * k ^ (x - b) + 1) x (W.set i (wr k (N * k ^ (x - b)) x)) = codeW k l := hc
    generalize hM : N * k ^ (x - b) = M at *
    have hM60 : M < 2 ^ 60 := by omega
    refine And.intro (by unfold SmallI; omega) ?_
    refine Exists.intro (fun (t : Nat) (ρ : Env3) => ∃ a9, ρ = [.val (.tup (natsD l)), .val (.int k), .own (.lst (strsD W)), .val (.int ((M : Nat) : Int)), .val (.int ((b : Nat) : Int)), .val (.int ((x : Nat) : Int)), .val (.int ((i : Nat) : Int)), .val (.int ((M / k ^ t : Nat) : Int)), .val (.str (wr k M t)), a9] ∧ t ≤ x) (And.intro ⟨_, by rw [Nat.pow_zero, Nat.div_one]; rfl, Nat.zero_le _⟩ (And.intro ?_ ?_))
    · rintro t d ρ hdd ⟨a9, rfl, _⟩
      obtain ⟨ht2, rfl⟩ := rng_get hdd
      have ht : t < x := by omega
      have hm : M / k ^ t < 2 ^ 60 := Nat.lt_of_le_of_lt (Nat.div_le_self ..) hM60
      have bn : bigI 60 ((M / k ^ t : Nat) : Int) := hm
      have bk : bigI 60 ((k : Nat) : Int) := big_small (show k < 2 ^ 20 by omega) (by decide)
      have cd : CDivW ((M / k ^ t : Nat) : Int) ((k : Nat) : Int) := big_divW (b := 60) (by decide) bk (by omega)
      have hmod : M / k ^ t % k < 26 := Nat.lt_of_lt_of_le (Nat.mod_lt _ k1) (by omega)
      refine And.intro (by exact Nat.le_of_ble_eq_true rfl) (And.intro cd (And.intro (big_mulW (a := 60) (b := 60) (by decide) (by decide) (big_le bn ?_) bk) (And.intro (by exact Nat.le_of_ble_eq_true rfl) (Exists.intro (97 + M / k ^ t % k) (And.intro ?_ ?_)))))
      · rw [← Int.natCast_ediv]
        show M / k ^ t / k ≤ M / k ^ t
        exact Nat.div_le_self _ _
      · rw [mod_int]
        exact abc_at hmod
      · refine And.intro (by rw [wr_len, sL]; show 1 + t ≤ _; omega) (And.intro cd ⟨_, congr (congrArg (fun a b => [_, _, _, _, _, _, _, Sl.val (.int a), Sl.val (.str b), _]) ?_) ?_, by omega⟩)
        · rw [← Int.natCast_ediv, Nat.div_div_eq_div_mul, ← Nat.pow_succ]
        · exact (wr_succ k M t).symm
    · rintro ρ ⟨a9, rfl, _⟩
      have hn : (rng 0 1 ((x : Int)).toNat).length = x := by rw [rng_l1, List.length_map, List.length_range]; omega
      rw [hn]
      refine And.intro (by exact Nat.le_of_ble_eq_true rfl) (And.intro rfl (Exists.intro i (And.intro (ixn (by rw [strsD_len]; omega)) (And.intro (by exact Nat.le_of_ble_eq_true rfl) (And.intro (by exact Nat.le_of_ble_eq_true rfl) (And.intro rfl ?_))))))
      refine ⟨M + 1, x, W.set i (wr k M x), _, _, _, _, _, congrArg (fun L => [_, _, Sl.own (.lst L), _, _, _, _, _, _, _]) (strs_set ..), hc2, by rw [List.length_set]; exact hW, g5⟩
  · rintro ρ ⟨N, b, W, a5, a6, a7, a8, a9, rfl, hc, hW, hf⟩
    rw [List.length_map, List.drop_length] at hc
    have hc : W = codeW k l := hc
    rw [hc]
    exact q

theorem eqv_lnil (l : List D) : eqv (.lst l) (.lst []) = decide (l = []) := by
  cases l with
  | nil => rfl
  | cons a l => exact (decide_eq_false (List.cons_ne_nil a l)).symm
theorem vc__law_first : ∀ ds Q, C__law_first ds Q → b__law_first { nx := fun _ => Q (.val .non), rt := Q } (start3 n__law_first ds) := by
  rintro ds Q ⟨l, k, rfl, ok, k1, k6, hsm, q⟩
  obtain ⟨hl, hx⟩ := id ok
  have hT : maxL l ≤ 20 := maxL_bound hx
  refine And.intro (by exact Nat.le_of_ble_eq_true rfl) (And.intro (by rw [natsD_len]; omega) (And.intro (by omega) (And.intro (by rw [natsD_len, sL]; show 1 * _ ≤ _; omega) ?_)))
  refine And.intro (by rw [natsD_len]; unfold SmallI; omega) ?_
  refine lc0Y (fun i => encP (l.getD i 0, i)) (by rw [natsD_len, sL]; omega) (fun i hi C hC => ?_) ?_
  · rw [natsD_len] at hi
    exact Exists.intro _ (And.intro (nats_at hi) (And.intro (by exact Nat.le_of_ble_eq_true rfl) hC))
  rw [natsD_len]
  refine sort_pairs (l := l) (by unfold idxP; rw [List.map_map]; rfl) hl ?_
  refine Exists.intro (fun (j : Nat) (ρ : Env3) => ∃ (N b : Nat) (W : List (Option (List Nat))) (a3 a4 a5 : Sl), ρ = [.val (.tup (natsD l)), .val (.int k), .own (.lst (W.map optD)), a3, a4, a5, .un, .un] ∧ canO k ((srtP l).drop j) N b W = codeO k l ∧ W.length = l.length ∧ Occ k W N b ∧ (∀ p ∈ (srtP l).drop j, b ≤ p.1 ∧ p.1 ∈ l ∧ p.2 < l.length ∧ W[p.2]? = some none) ∧ ((srtP l).drop j).Pairwise (fun x y => x.1 ≤ y.1) ∧ (((srtP l).drop j).map (·.2)).Nodup ∧ ∀ w, some w ∈ W → w.length ≤ 20) (And.intro ⟨0, 0, List.replicate l.length none, _, _, _, congrArg (fun L => [_, _, Sl.own (.lst L), _, _, _, _, _]) ?_, rfl, List.length_replicate, occ_nil _ _, fun p hp => ?_, srtP_pw l, srtP_nd l, fun w hw => by have := List.eq_of_mem_replicate hw; cases this⟩ (And.intro ?_ ?_))
  · rw [repN_one, List.map_replicate]; rfl
  · obtain ⟨h1, h2⟩ := srtP_mem hp
    exact ⟨Nat.zero_le _, h2, h1, by rw [List.getElem?_replicate, if_pos h1]⟩
  · rintro j d ρ hd ⟨N, b, W, a3, a4, a5, rfl, hc, hW, ho, hp, hpw, hnd, hwb⟩
    obtain ⟨x, i, hg, rfl⟩ := enc_get hd
    rw [drop_at hg] at hc hp hpw hnd
    obtain ⟨g1, g2, g3, g4⟩ := hp (x, i) (List.mem_cons_self ..)
    have g1 : b ≤ x := g1
    have g4 : W[i]? = some none := g4
    have hsx : k ^ x ≤ 1000 := hsm x g2
    refine And.intro rfl (And.intro (by exact Nat.le_of_ble_eq_true rfl) (And.intro (by exact Nat.le_of_ble_eq_true rfl) (And.intro rfl ?_)))
    refine Exists.intro x (Exists.intro k (And.intro rfl (And.intro k1 (And.intro k6 (And.intro (hx x g2) (And.intro hsx ?_))))))
    rw [show strsD (allW k x) = (List.range (k ^ x)).map (fun n => D.str (wr k n x)) from by unfold strsD; rw [allW_wr, List.map_map]; rfl]
    refine lcN (xs := List.range (k ^ x)) (fun n => D.str (wr k n x)) (fun n => !decide (n < N * k ^ (x - b))) (fun n => D.str (wr k n x)) (by exact Nat.le_of_ble_eq_true rfl) (by rw [List.length_range, sL]; omega) (fun n hn C hC => ?_) (fun n hn _ C hC => hC) ?_
    · have hox := ho x g1 n (List.mem_range.mp hn)
      refine lcWo (xs := W) optD (fun o => o.isSome) (fun o => D.bl (decide ((wr k n x).take (o.getD []).length = o.getD []))) rfl (by exact Nat.le_of_ble_eq_true rfl) (by rw [sL]; omega) (fun o ho2 C2 hC2 => ?_) (fun o ho2 hs C2 hC2 => ?_) ?_
      · cases o <;> exact hC2
      · cases o with
        | none => cases hs
        | some w =>
          have hwl : w.length ≤ 20 := hwb w ho2
          refine And.intro (by rw [sL]; omega) (And.intro (by rw [wr_len, sL]; have := hx x g2; omega) (And.intro True.intro (And.intro True.intro ?_)))
          rw [show optD (some w) = D.str w from rfl, eqv_str, cut_to]
          exact hC2
      · refine And.intro (by rw [List.all_map, List.all_eq_true]; intro x _; rfl) ?_
        rw [List.any_map]
        have e : ((W.filter fun o => o.isSome).any (blOf ∘ fun o => D.bl (decide ((wr k n x).take (o.getD []).length = o.getD [])))) = decide (n < N * k ^ (x - b)) := by
          by_cases h : n < N * k ^ (x - b)
          · rw [decide_eq_true h, List.any_eq_true]
            obtain ⟨w, hw, hw2⟩ := hox.mpr h
            exact ⟨some w, List.mem_filter.mpr ⟨hw, rfl⟩, decide_eq_true hw2⟩
          · rw [decide_eq_false h, List.any_eq_false]
            intro o ho3
            obtain ⟨h1, h2⟩ := List.mem_filter.mp ho3
            cases o with
            | none => cases h2
            | some w =>
              intro h3
              exact h (hox.mp ⟨w, h1, of_decide_eq_true h3⟩)
        rw [e]
        exact hC
    · rw [left_words]
      generalize hM : N * k ^ (x - b) = M at *
      have hle : (List.range' M (k ^ x - M)).length = k ^ x - M := List.length_range' ..
      refine And.intro (by exact Nat.le_of_ble_eq_true rfl) (And.intro (fun y hy => by obtain ⟨n, _, rfl⟩ := List.mem_map.mp hy; exact True.intro) (And.intro (fun y hy => by cases hy) ?_))
      rw [eqv_lnil]
      refine ite_w (fun h => ?_) fun h => ?_
      · have h := of_decide_eq_true h
        have h := congrArg List.length h
        rw [List.length_map, hle] at h
        have h : k ^ x - M = 0 := h
        have e : codeO k l = none := by
          rw [← hc]
          show (if N * k ^ (x - b) < k ^ x then _ else none) = none
          rw [hM, if_neg (by omega)]
        unfold firstD at q
        rw [e] at q
        exact q
      · have h := of_decide_eq_false h
        have hlt : M < k ^ x := by
          refine Nat.lt_of_not_le fun h2 => h ?_
          rw [show k ^ x - M = 0 by omega]; rfl
        have ef : (List.range' M (k ^ x - M)).map (fun n => D.str (wr k n x)) = D.str (wr k M x) :: (List.range' (M + 1) (k ^ x - M - 1)).map (fun n => D.str (wr k n x)) := by
          rw [show k ^ x - M = (k ^ x - M - 1) + 1 by omega]
          rfl
        refine nextK ?_
        refine Exists.intro (.str (wr k M x)) (And.intro (by rw [ef]; exact atI_zero _ _) ?_)
        refine Exists.intro i (And.intro (ixn (by rw [List.length_map]; omega)) ?_)
        have hc3 : canO k ((srtP l).drop (j + 1)) (M + 1) x (W.set i (some (wr k M x))) = codeO k l := by
          rw [← hc]
          show _ = (if N * k ^ (x - b) < k ^ x then canO k ((srtP l).drop (j + 1)) (N * k ^ (x - b) + 1) x (W.set i (some (wr k (N * k ^ (x - b)) x))) else none)
          rw [hM, if_pos hlt]
        have hos := occ_step (by omega) ho g1 (by rw [hM]; exact hlt) g4
        rw [hM] at hos
        rw [List.pairwise_cons] at hpw
        rw [List.map_cons, List.nodup_cons] at hnd
        refine ⟨M + 1, x, W.set i (some (wr k M x)), _, _, _, congrArg (fun L => [_, _, Sl.own (.lst L), _, _, _, _, _]) ?_, hc3, by rw [List.length_set]; exact hW, hos, fun p hpp => ?_, hpw.2, hnd.2, fun w hw => ?_⟩
        · rw [List.map_set]; rfl
        · obtain ⟨a1, a2, a3, a4⟩ := hp p (List.mem_cons_of_mem _ hpp)
          refine ⟨hpw.1 p hpp, a2, a3, ?_⟩
          have hne : i ≠ p.2 := fun e => hnd.1 (by show i ∈ _; rw [e]; exact List.mem_map.mpr ⟨p, hpp, rfl⟩)
          rw [List.getElem?_set_ne hne]; exact a4
        · rcases (mem_set_none g4).mp hw with rfl | hw
          · rw [wr_len]; exact hx x g2
          · exact hwb w hw
  · rintro ρ ⟨N, b, W, a3, a4, a5, rfl, hc, hW, ho, hp, hpw, hnd, hwb⟩
    rw [List.length_map, List.drop_length] at hc
    have hc : some W = codeO k l := hc
    unfold firstD at q
    rw [← hc] at q
    exact q

theorem flat_low (p q : Int) : FlatS 7 (lowD p q) := ⟨by exact Nat.le_of_ble_eq_true rfl, fun x hx => by
  simp only [List.mem_cons, List.not_mem_nil, or_false] at hx
  rcases hx with rfl | rfl <;> exact True.intro⟩
theorem codeO_some (k : Nat) (l : List Nat) (k1 : 1 ≤ k) : (codeO k l).isSome = true ↔ fits k l := by
  have h := canO_fits (k := k) (T := maxL l) (by omega) (srtP l) 0 0 (List.replicate l.length none) (Nat.zero_le _) (Nat.zero_le _) (fun p hp => ⟨Nat.zero_le _, maxL_le (srtP_mem hp).2⟩) (srtP_pw l)
  rw [Nat.zero_mul, Nat.zero_add, srtP_sum l fun x => k ^ (maxL l - x)] at h
  exact h
theorem first_fits {k : Nat} {l : List Nat} (k1 : 1 ≤ k) (h : fits k l) : firstD k l = .tup (strsD (codeW k l)) := by
  obtain ⟨R, e⟩ := Option.isSome_iff_exists.mp ((codeO_some k l k1).mpr h)
  have e2 := canO_canW (srtP l) 0 0 (List.replicate l.length none) (List.replicate l.length []) (by rw [List.length_replicate, List.length_replicate]) (fun j hj hp => ?_) R e
  · unfold firstD
    rw [e]
    show D.tup (R.map optD) = _
    rw [e2, List.map_map]; rfl
  · rw [List.length_replicate] at hj
    have h1 : (l.getD j 0, j) ∈ srtP l := (srtP_perm l).mem_iff.mpr (List.mem_map.mpr ⟨j, List.mem_range.mpr hj, rfl⟩)
    exact absurd rfl (hp _ h1)
theorem first_not {k : Nat} {l : List Nat} (k1 : 1 ≤ k) (h : ¬ fits k l) : firstD k l = .non := by
  unfold firstD
  cases e : codeO k l with
  | none => rfl
  | some R => exact absurd ((codeO_some k l k1).mp (by rw [e]; rfl)) h
theorem canW_len (k : Nat) : ∀ (ps : List (Nat × Nat)) (N b : Nat) (W : List (List Nat)), (canW k ps N b W).length = W.length
  | [], _, _, _ => rfl
  | (l, i) :: ps, N, b, W => by
    rw [canW, canW_len k ps, List.length_set]
theorem flat_due {k : Nat} {l : List Nat} (hl : l.length ≤ 30) : FlatS 7 (dueD k l) := by
  unfold dueD
  by_cases h : sumK k (maxL l) l ≤ k ^ maxL l
  · rw [if_pos h]
    refine ⟨by exact Nat.le_of_ble_eq_true rfl, fun x hx => ?_⟩
    simp only [List.mem_cons, List.not_mem_nil, or_false] at hx
    rcases hx with rfl | rfl
    · exact True.intro
    · refine ⟨?_, fun y hy => ?_⟩
      · rw [strsD_len, sL]
        unfold codeW
        rw [canW_len, List.length_replicate]; omega
      · obtain ⟨w, _, rfl⟩ := List.mem_map.mp hy
        exact True.intro
  · rw [if_neg h]
    refine ⟨by exact Nat.le_of_ble_eq_true rfl, fun x hx => ?_⟩
    simp only [List.mem_cons, List.not_mem_nil, or_false] at hx
    rcases hx with rfl | rfl
    · exact True.intro
    · exact ⟨by exact Nat.le_of_ble_eq_true rfl, fun y hy => by
        simp only [List.mem_cons, List.not_mem_nil, or_false] at hy
        rcases hy with rfl | rfl <;> exact True.intro⟩
def w_fine : WS :=
  (wSeq (wSet 5 (wIf (wTru (wVar 4)) (wTup (wACons (wC (.str [99, 111, 100, 101])) (wACons (wIf (wTru (wVar 2)) (wCall C__law_first (wACons (wVar 0) (wACons (wVar 1) wANil))) (wCall C__law_counted (wACons (wVar 0) (wACons (wVar 1) wANil)))) wANil))) (wTup (wACons (wC (.str [115, 117, 109])) (wACons (wVar 3) wANil)))))
    (wSeq (wIfS (wTAnd (wTru (wVar 2)) (wTB (wBin neD (wBin isNotD (wCall C__law_first (wACons (wVar 0) (wACons (wVar 1) wANil))) (wC .non)) (wVar 4)))) (wRet (wC (.bl false))) wNext)
    (wRet (wCall (C_same 8) (wACons (wCall C_code_for (wACons (wVar 0) (wACons (wVar 1) wANil))) (wACons (wVar 5) wANil))))))
theorem fine_ok {l : List Nat} {k : Nat} {b B : Bool} {Q : R → Prop} (ok : okL l) (k1 : 1 ≤ k) (k6 : k ≤ 6) (hsm : b = true → small k l) (hB : B = true ↔ fits k l) (q : Q (.val (.bl true))) : w_fine { nx := fun _ => Q (.val .non), rt := Q } [.val (.tup (natsD l)), .val (.int k), .val (.bl b), .val (totD k l), .val (.bl B), .un] := by
  have hl := ok.1
  by_cases hf : fits k l
  · have eB : B = true := hB.mpr hf
    subst eB
    have ed : dueD k l = .tup [.str [99, 111, 100, 101], .tup (strsD (codeW k l))] := if_pos hf
    cases b with
    | true =>
      refine Exists.intro l (Exists.intro k (And.intro rfl (And.intro ok (And.intro k1 (And.intro k6 (And.intro (hsm rfl) ?_))))))
      rw [first_fits k1 hf]
      refine And.intro (by exact Nat.le_of_ble_eq_true rfl) ?_
      refine Exists.intro l (Exists.intro k (And.intro rfl (And.intro ok (And.intro k1 (And.intro k6 (And.intro (hsm rfl) ?_))))))
      rw [first_fits k1 hf]
      refine And.intro True.intro (And.intro True.intro ?_)
      refine Exists.intro l (Exists.intro k (And.intro rfl (And.intro ok (And.intro k1 (And.intro k6 ?_)))))
      rw [ed]
      exact same_ok rfl (ed ▸ flat_due hl) q
    | false =>
      refine Exists.intro l (Exists.intro k (And.intro rfl (And.intro ok (And.intro k1 (And.intro k6 (And.intro hf ?_))))))
      refine And.intro (by exact Nat.le_of_ble_eq_true rfl) ?_
      refine Exists.intro l (Exists.intro k (And.intro rfl (And.intro ok (And.intro k1 (And.intro k6 ?_)))))
      rw [ed]
      exact same_ok rfl (ed ▸ flat_due hl) q
  · have eB : B = false := by
      cases B with
      | false => rfl
      | true => exact absurd (hB.mp rfl) hf
    subst eB
    have ed : dueD k l = .tup [.str [115, 117, 109], totD k l] := if_neg hf
    cases b with
    | true =>
      refine And.intro (by exact Nat.le_of_ble_eq_true rfl) ?_
      refine Exists.intro l (Exists.intro k (And.intro rfl (And.intro ok (And.intro k1 (And.intro k6 (And.intro (hsm rfl) ?_))))))
      rw [first_not k1 hf]
      refine And.intro True.intro (And.intro True.intro ?_)
      refine Exists.intro l (Exists.intro k (And.intro rfl (And.intro ok (And.intro k1 (And.intro k6 ?_)))))
      rw [ed]
      exact same_ok rfl (ed ▸ flat_due hl) q
    | false =>
      refine And.intro (by exact Nat.le_of_ble_eq_true rfl) ?_
      refine Exists.intro l (Exists.intro k (And.intro rfl (And.intro ok (And.intro k1 (And.intro k6 ?_)))))
      rw [ed]
      exact same_ok rfl (ed ▸ flat_due hl) q
theorem vc__law_fine : ∀ ds Q, C__law_fine ds Q → b__law_fine { nx := fun _ => Q (.val .non), rt := Q } (start3 n__law_fine ds) := by
  rintro ds Q ⟨l, k, b, rfl, ok, k1, k6, hsm, q⟩
  obtain ⟨hl, hx⟩ := id ok
  have hT : maxL l ≤ 20 := maxL_bound hx
  obtain ⟨hKp, b1, b2⟩ := total_facts ok k1 k6
  have hcmp := low_cmp (sumK k (maxL l) l) (k ^ maxL l) hKp
  refine Exists.intro l (Exists.intro k (And.intro rfl (And.intro ok (And.intro k1 (And.intro k6 ?_)))))
  refine Exists.intro _ (And.intro (atI_zero _ _) (Exists.intro _ (And.intro rfl ?_)))
  refine fine_ok ok k1 k6 hsm ?_ q
  rw [decide_eq_true_iff]
  unfold fits
  constructor
  · intro h
    have := mt hcmp.mpr (by omega)
    omega
  · intro h
    have := mt hcmp.mp (by omega)
    omega
theorem nats_ofP {P : Nat → Prop} : ∀ l : List D, (∀ d ∈ l, ∃ n : Nat, d = .int n ∧ P n) → ∃ ys : List Nat, l = natsD ys ∧ ∀ y ∈ ys, P y
  | [], _ => ⟨[], rfl, fun y h => by cases h⟩
  | a :: l, h => by
    obtain ⟨c, rfl, hc⟩ := h a (List.mem_cons_self ..)
    obtain ⟨w, rfl, hw⟩ := nats_ofP l fun d hd => h d (List.mem_cons_of_mem _ hd)
    refine ⟨c :: w, rfl, fun y hy => ?_⟩
    rcases List.mem_cons.mp hy with rfl | hy
    · exact hc
    · exact hw y hy
theorem vc_law : b_law { nx := fun _ => False, rt := fun r => r = .val (.bl true) } ((start3 n_law [.non]).set 0 .un |>.set 1 (.val .box)) := by
  refine And.intro (by unfold SmallI; decide) ?_
  refine Exists.intro (fun _ ρ => ∃ a2 a3 a4, ρ = [.un, .val .box, a2, a3, a4, .un, .un, .un]) (And.intro ⟨_, _, _, rfl⟩ (And.intro ?_ ?_))
  · rintro i d ρ hd ⟨a2, a3, a4, rfl⟩
    refine And.intro (by exact Nat.le_of_ble_eq_true rfl) ?_
    refine Exists.intro 3 (And.intro rfl (And.intro (by decide) (And.intro (by decide) fun r r0 r1 => ?_)))
    obtain ⟨r, rfl⟩ := Int.eq_ofNat_of_zero_le r0
    refine Exists.intro 9 (And.intro rfl (And.intro (by decide) (And.intro (by decide) fun t t0 t1 => ?_)))
    obtain ⟨t, rfl⟩ := Int.eq_ofNat_of_zero_le t0
    refine And.intro (by unfold SmallI; omega) ?_
    rw [Int.toNat_natCast]
    refine lc0A (fun d => ∃ n : Nat, d = .int n ∧ n ≤ 4 ∧ (r ≠ 0 → n ≤ 3)) (by rw [sL]; omega) (fun j hj C hC => ?_) fun l hl hA => ?_
    · refine And.intro True.intro (And.intro True.intro ?_)
      rw [eqv_int]
      refine ite_w (fun h => ?_) fun h => ?_
      · have h := of_decide_eq_true h
        refine Exists.intro 4 (And.intro rfl (And.intro (by decide) (And.intro (by decide) fun v v0 v1 => ?_)))
        obtain ⟨v, rfl⟩ := Int.eq_ofNat_of_zero_le v0
        exact hC _ ⟨1 + v, rfl, by omega, fun h2 => by omega⟩
      · have h := of_decide_eq_false h
        refine Exists.intro 3 (And.intro rfl (And.intro (by decide) (And.intro (by decide) fun v v0 v1 => ?_)))
        obtain ⟨v, rfl⟩ := Int.eq_ofNat_of_zero_le v0
        exact hC _ ⟨1 + v, rfl, by omega, fun h2 => by omega⟩
    obtain ⟨ys, rfl, hy⟩ := nats_ofP l hA
    rw [natsD_len] at hl
    have oky : okL ys := ⟨by omega, fun x hx => by have := (hy x hx).1; omega⟩
    have sm : small (2 + r) ys := fun x hx => by
      obtain ⟨h1, h2⟩ := hy x hx
      by_cases h : r = 0
      · subst h
        exact Nat.le_trans (Nat.pow_le_pow_right (by decide) h1) (by decide)
      · refine Nat.le_trans (Nat.pow_le_pow_left (show 2 + r ≤ 4 by omega) x) (Nat.le_trans (Nat.pow_le_pow_right (by decide) (h2 h)) (by decide))
    refine Exists.intro ys (Exists.intro (2 + r) (Exists.intro true (And.intro rfl (And.intro oky (And.intro (by omega) (And.intro (by omega) (And.intro (fun _ => sm) ?_)))))))
    exact ⟨_, _, _, rfl⟩
  · rintro ρ ⟨a2, a3, a4, rfl⟩
    refine Exists.intro 5 (And.intro rfl (And.intro (by decide) (And.intro (by decide) fun r r0 r1 => ?_)))
    obtain ⟨r, rfl⟩ := Int.eq_ofNat_of_zero_le r0
    refine Exists.intro 25 (And.intro rfl (And.intro (by decide) (And.intro (by decide) fun t t0 t1 => ?_)))
    obtain ⟨t, rfl⟩ := Int.eq_ofNat_of_zero_le t0
    refine And.intro (by unfold SmallI; omega) ?_
    rw [Int.toNat_natCast]
    refine lc0A (fun d => ∃ n : Nat, d = .int n ∧ n ≤ 20) (by rw [sL]; omega) (fun j hj C hC => ?_) fun l hl hA => ?_
    · refine Exists.intro 6 (And.intro rfl (And.intro (by decide) (And.intro (by decide) fun u u0 u1 => ?_)))
      refine Exists.intro 20 (And.intro rfl (And.intro (by decide) (And.intro (by decide) fun v v0 v1 => ?_)))
      refine And.intro (by exact Nat.le_of_ble_eq_true rfl) ?_
      refine Exists.intro 2 (And.intro rfl (And.intro (by decide) (And.intro (by decide) fun w w0 w1 => ?_)))
      refine atI_any w0 (by exact w1) (fun d hd => ?_)
      simp only [List.mem_cons, List.not_mem_nil, or_false] at hd
      obtain ⟨u, rfl⟩ := Int.eq_ofNat_of_zero_le u0
      obtain ⟨v, rfl⟩ := Int.eq_ofNat_of_zero_le v0
      rcases hd with rfl | rfl
      · exact hC _ ⟨1 + u, rfl, by omega⟩
      · exact hC _ ⟨1 + v, rfl, by omega⟩
    obtain ⟨ys, rfl, hy⟩ := nats_ofP l hA
    rw [natsD_len] at hl
    have oky : okL ys := ⟨by omega, hy⟩
    refine Exists.intro ys (Exists.intro (2 + r) (Exists.intro false (And.intro rfl (And.intro oky (And.intro (by omega) (And.intro (by omega) (And.intro (fun h => by cases h) ?_)))))))
    refine nextK ?_
    have okF : ∀ x ∈ [1, 2, 3, 4, 5, 6, 7, 8, 9, 10, 11, 12, 13, 14, 15, 16, 17, 18, 19, 19], x ≤ 20 := by decide
    refine And.intro (by unfold SmallI; omega) (And.intro (by unfold SmallI; omega) (And.intro (by exact Nat.le_of_ble_eq_true rfl) (And.intro (by exact Nat.le_of_ble_eq_true rfl) (And.intro (by exact Nat.le_of_ble_eq_true rfl) ?_))))
    refine Exists.intro [1, 2, 3, 4, 5, 6, 7, 8, 9, 10, 11, 12, 13, 14, 15, 16, 17, 18, 19, 19] (And.intro rfl (And.intro (by exact Nat.le_of_ble_eq_true rfl) fun full hp => ?_))
    have hfl : full.length = 20 := hp.length_eq
    have okf : okL full := ⟨by omega, fun x hx => okF x (hp.mem_iff.mp hx)⟩
    refine Exists.intro full (Exists.intro 2 (Exists.intro false (And.intro rfl (And.intro okf (And.intro (by decide) (And.intro (by decide) (And.intro (fun h => by cases h) ?_)))))))
    refine And.intro (by exact Nat.le_of_ble_eq_true rfl) (And.intro (by rw [natsD_len, hfl]; exact Nat.le_of_ble_eq_true rfl) ?_)
    refine Exists.intro (full ++ [20]) (Exists.intro 2 (Exists.intro false (And.intro (by unfold natsD; rw [List.map_append]; rfl) (And.intro ⟨by rw [List.length_append, hfl]; decide, fun x hx => ?_⟩ (And.intro (by decide) (And.intro (by decide) (And.intro (fun h => by cases h) ?_)))))))
    · rcases List.mem_append.mp hx with hx | hx
      · exact okf.2 x hx
      · rw [List.mem_singleton.mp hx]; exact Nat.le_refl _
    have ones : ∀ n : Nat, repN ((n : Nat) : Int) [D.int 1] = natsD (List.replicate n 1) := fun n => by
      rw [repN_one]
      unfold natsD
      rw [List.map_replicate]; rfl
    have ok1 : ∀ n, n ≤ 30 → okL (List.replicate n 1) := fun n hn => ⟨by rw [List.length_replicate]; exact hn, fun x hx => by rw [List.eq_of_mem_replicate hx]; decide⟩
    have sm1 : ∀ n, small (2 + r) (List.replicate n 1) := fun n x hx => by rw [List.eq_of_mem_replicate hx, Nat.pow_one]; omega
    refine And.intro (by exact Nat.le_of_ble_eq_true rfl) (And.intro (List.cons_ne_nil _ _) (And.intro (by omega) (And.intro (by omega) (And.intro (by exact Nat.le_of_ble_eq_true rfl) ?_))))
    refine Exists.intro (List.replicate (2 + r) 1) (Exists.intro (2 + r) (Exists.intro true (And.intro (by rw [← ones]; rfl) (And.intro (ok1 _ (by omega)) (And.intro (by omega) (And.intro (by omega) (And.intro (fun _ => sm1 _) ?_)))))))
    refine And.intro (by exact Nat.le_of_ble_eq_true rfl) (And.intro (List.cons_ne_nil _ _) (And.intro (by omega) (And.intro (by omega) (And.intro (by exact Nat.le_of_ble_eq_true rfl) ?_))))
    refine Exists.intro (List.replicate (2 + r + 1) 1) (Exists.intro (2 + r) (Exists.intro true (And.intro (by rw [← ones]; rfl) (And.intro (ok1 _ (by omega)) (And.intro (by omega) (And.intro (by omega) (And.intro (fun _ => sm1 _) ?_)))))))
    rfl
section
variable {P : Program} {w : World} {K : PySem.W.Frag} {mg : Str → Option Value} {base : Heap} {bx : Bx}
theorem ok_common_part (T : Tx K mg) : FnOk P w K mg base CX0 1 T.a_common_part T.fd_common_part ["p", "q"] (spOf K bx C_common_part) :=
  def3 (fb := b_common_part) T.F_common_part sc_common_part (by intro ds Q h; (repeat (rcases h with ⟨_, h⟩)); subst_vars; rfl) (fun cdv A outer s H E hr => (ss_cons (s_par2 0 1 rfl sc_common_part.nd (e_callB c_abs (e_var 0) T.z_abs) (e_callB c_abs (e_var 1) T.z_abs))
    (ss_cons (s_while PassesOwn.never (t_cmp opD_gt (e_var 1) e_int) (ss_one (s_par2 0 1 rfl sc_common_part.nd (e_var 1) (e_bin opD_sub (e_var 0) (e_bin opD_mul (e_bin opD_fdiv (e_var 0) (e_var 1)) (e_var 1))))))
    (ss_one (s_ret (e_var 0)))))) vc_common_part
theorem ok_ratio (T : Tx K mg) : FnOk P w K mg base CX0 2 T.a_ratio T.fd_ratio ["p", "q"] (spOf K bx C_ratio) :=
  def3 (fb := b_ratio) T.F_ratio sc_ratio (by intro ds Q h; (repeat (rcases h with ⟨_, h⟩)); subst_vars; rfl) (fun cdv A outer s H E hr => (ss_cons (s_if (t_cmp opD_lt (e_var 1) e_int) (ss_one (s_par2 0 1 rfl sc_ratio.nd (e_neg (e_var 0)) (e_neg (e_var 1)))) ss_nil)
    (ss_cons (s_set 2 sc_ratio.nd (e_call (ok_common_part T) (hr.mono (by first | decide | omega | (simp only [Nat.add_eq]; omega))) T.g_common_part T.F_common_part.kp T.B_common_part (a_cons (e_var 0) (a_cons (e_var 1) a_nil))))
    (ss_one (s_ret (e_tup (a_cons (e_bin opD_fdiv (e_var 0) (e_var 2)) (a_cons (e_bin opD_fdiv (e_var 1) (e_var 2)) a_nil)))))))) vc_ratio
theorem ok_plus (T : Tx K mg) : FnOk P w K mg base CX0 3 T.a_plus T.fd_plus ["one", "other"] (spOf K bx C_plus) :=
  def3 (fb := b_plus) T.F_plus sc_plus (by intro ds Q h; (repeat (rcases h with ⟨_, h⟩)); subst_vars; rfl) (fun cdv A outer s H E hr => (ss_one (s_ret (e_call (ok_ratio T) (hr.mono (by first | decide | omega | (simp only [Nat.add_eq]; omega))) T.g_ratio T.F_ratio.kp T.B_ratio (a_cons (e_bin opD_add (e_bin opD_mul (e_ix hr.units (e_var 0) e_int) (e_ix hr.units (e_var 1) e_int)) (e_bin opD_mul (e_ix hr.units (e_var 1) e_int) (e_ix hr.units (e_var 0) e_int))) (a_cons (e_bin opD_mul (e_ix hr.units (e_var 0) e_int) (e_ix hr.units (e_var 1) e_int)) a_nil)))))) vc_plus
theorem ok_less (T : Tx K mg) : FnOk P w K mg base CX0 1 T.a_less T.fd_less ["one", "other"] (spOf K bx C_less) :=
  def3 (fb := b_less) T.F_less sc_less (by intro ds Q h; (repeat (rcases h with ⟨_, h⟩)); subst_vars; rfl) (fun cdv A outer s H E hr => (ss_one (s_ret (e_cmp opD_lt (e_bin opD_mul (e_ix hr.units (e_var 0) e_int) (e_ix hr.units (e_var 1) e_int)) (e_bin opD_mul (e_ix hr.units (e_var 1) e_int) (e_ix hr.units (e_var 0) e_int)))))) vc_less
theorem ok_power (T : Tx K mg) : FnOk P w K mg base CX0 1 T.a_power T.fd_power ["k", "count"] (spOf K bx C_power) :=
  def3 (fb := b_power) T.F_power sc_power (by intro ds Q h; (repeat (rcases h with ⟨_, h⟩)); subst_vars; rfl) (fun cdv A outer s H E hr => (ss_cons (s_set 2 sc_power.nd e_int)
    (ss_cons (s_for PassesOwn.never rfl (i_rng1 (a_cons (e_var 1) a_nil) T.z_range) (g_name 3 sc_power.nd) (ss_one (s_aug 2 ipA_mul sc_power.nd (e_var 0))))
    (ss_one (s_ret (e_var 2)))))) vc_power
theorem ok_lengths_sum (T : Tx K mg) : FnOk P w K mg base CX0 4 T.a_lengths_sum T.fd_lengths_sum ["lengths", "k"] (spOf K bx C_lengths_sum) :=
  def3 (fb := b_lengths_sum) T.F_lengths_sum sc_lengths_sum (by intro ds Q h; (repeat (rcases h with ⟨_, h⟩)); subst_vars; rfl) (fun cdv A outer s H E hr => (ss_cons (s_set 2 sc_lengths_sum.nd (e_tup (a_cons e_int (a_cons e_int a_nil))))
    (ss_cons (s_for PassesOwn.never rfl (i_any (e_var 0)) (g_name 3 sc_lengths_sum.nd) (ss_one (s_set 2 sc_lengths_sum.nd (e_call (ok_plus T) (hr.mono (by first | decide | omega | (simp only [Nat.add_eq]; omega))) T.g_plus T.F_plus.kp T.B_plus (a_cons (e_var 2) (a_cons (e_call (ok_ratio T) (hr.mono (by first | decide | omega | (simp only [Nat.add_eq]; omega))) T.g_ratio T.F_ratio.kp T.B_ratio (a_cons e_int (a_cons (e_call (ok_power T) (hr.mono (by first | decide | omega | (simp only [Nat.add_eq]; omega))) T.g_power T.F_power.kp T.B_power (a_cons (e_var 1) (a_cons (e_var 3) a_nil))) a_nil))) a_nil))))))
    (ss_one (s_ret (e_var 2)))))) vc_lengths_sum
theorem ok_written (T : Tx K mg) : FnOk P w K mg base CX0 1 T.a_written T.fd_written ["number", "length", "k"] (spOf K bx C_written) :=
  def3 (fb := b_written) T.F_written sc_written (by intro ds Q h; (repeat (rcases h with ⟨_, h⟩)); subst_vars; rfl) (fun cdv A outer s H E hr => (ss_cons (s_set 3 sc_written.nd (e_lst a_nil))
    (ss_cons (s_for PassesOwn.never rfl (i_rng1 (a_cons (e_var 1) a_nil) T.z_range) (g_name 4 sc_written.nd) (ss_cons (s_expr (e_app 3 (e_ix hr.units (T.e_LETTERS) (e_bin opD_sub (e_var 0) (e_bin opD_mul (e_bin opD_fdiv (e_var 0) (e_var 2)) (e_var 2))))))
    (ss_one (s_aug 0 ipA_fdiv sc_written.nd (e_var 2)))))
    (ss_one (s_ret (e_join (e_str []) (e_rev (e_var 3)))))))) vc_written
theorem ok_code_for (T : Tx K mg) : FnOk P w K mg base CX0 5 T.a_code_for T.fd_code_for ["lengths", "k"] (spOf K bx C_code_for) :=
  def3 (fb := b_code_for) T.F_code_for sc_code_for (by intro ds Q h; (repeat (rcases h with ⟨_, h⟩)); subst_vars; rfl) (fun cdv A outer s H E hr => (ss_cons (s_set 2 sc_code_for.nd (e_call (ok_lengths_sum T) (hr.mono (by first | decide | omega | (simp only [Nat.add_eq]; omega))) T.g_lengths_sum T.F_lengths_sum.kp T.B_lengths_sum (a_cons (e_var 0) (a_cons (e_var 1) a_nil))))
    (ss_cons (s_if (t_val (e_call (ok_less T) (hr.mono (by first | decide | omega | (simp only [Nat.add_eq]; omega))) T.g_less T.F_less.kp T.B_less (a_cons (e_tup (a_cons e_int (a_cons e_int a_nil))) (a_cons (e_var 2) a_nil)))) (ss_one (s_ret (e_tup (a_cons (e_str [115, 117, 109]) (a_cons (e_var 2) a_nil))))) ss_nil)
    (ss_cons (s_set 3 sc_code_for.nd (e_bin opD_mul (e_lst (a_cons (e_str []) a_nil)) (e_callB c_len (e_var 0) T.z_len)))
    (ss_cons (s_asg (e_tup (a_cons e_int (a_cons e_int a_nil))) (g_tup rfl (gs_cons (g_name 4 sc_code_for.nd) (gs_cons (g_name 5 sc_code_for.nd) gs_nil))))
    (ss_cons (s_for PassesOwn.never rfl (i_any (e_callB (c_sortedY rfl hr.units) (e_lc rfl sc_code_for.nd (i_enumB (e_var 0) T.z_enumerate) (blkOk_by (own := [("i", 7), ("length", 6)]) (N := n_code_for) (sc := defScope s_code_for) (by decide +kernel)) (fun _ _ _ _ _ => (g_tup rfl (gs_cons (g_name 7 sc_code_for.nd) (gs_cons (g_name 6 sc_code_for.nd) gs_nil)))) (fun _ _ _ _ _ => ts_nil) (fun _ _ _ _ _ => (e_tup (a_cons (e_var 6) (a_cons (e_var 7) a_nil))))) T.z_sorted)) (g_tup rfl (gs_cons (g_name 6 sc_code_for.nd) (gs_cons (g_name 7 sc_code_for.nd) gs_nil))) (ss_cons (s_aug 4 ipA_mul sc_code_for.nd (e_call (ok_power T) (hr.mono (by first | decide | omega | (simp only [Nat.add_eq]; omega))) T.g_power T.F_power.kp T.B_power (a_cons (e_var 1) (a_cons (e_bin opD_sub (e_var 6) (e_var 5)) a_nil))))
    (ss_cons (s_putIx 3 (e_var 7) (e_call (ok_written T) (hr.mono (by first | decide | omega | (simp only [Nat.add_eq]; omega))) T.g_written T.F_written.kp T.B_written (a_cons (e_var 4) (a_cons (e_var 6) (a_cons (e_var 1) a_nil)))))
    (ss_one (s_par2 4 5 rfl sc_code_for.nd (e_bin opD_add (e_var 4) e_int) (e_var 6))))))
    (ss_one (s_ret (e_tup (a_cons (e_str [99, 111, 100, 101]) (a_cons (e_callTy (c_tuple rfl) (e_var 3) T.z_tuple) a_nil))))))))))) vc_code_for
theorem ok__law_mix (T : Tx K mg) : FnOk P w K mg base CX0 1 T.a__law_mix T.fd__law_mix ["number"] (spOf K bx C__law_mix) :=
  def3 (fb := b__law_mix) T.F__law_mix sc__law_mix (by intro ds Q h; (repeat (rcases h with ⟨_, h⟩)); subst_vars; rfl) (fun cdv A outer s H E hr => (ss_cons (s_set 0 sc__law_mix.nd (e_bin opD_mod (e_callTy c_int (e_bin opD_add (e_bin opD_mul (e_var 0) e_int) e_int) T.z_int) e_int))
    (ss_one (s_ret (e_bin opD_mod (e_callTy c_int (e_bin opD_add (e_bin opD_fdiv (e_bin opD_mul (e_var 0) (e_var 0)) e_int) (e_bin opD_mul (e_var 0) e_int)) T.z_int) e_int))))) vc__law_mix
theorem ok__law_tape (T : Tx K mg) : FnOk P w K mg base CX0 1 T.a__law_tape T.fd__law_tape ["script"] (spTape K) := by
  refine T.F__law_tape.ok sc__law_tape (fun vs H Q E ⟨a, ns, e, _⟩ => by rw [e]; rfl) (fun cdv A outer s H vs Q E hr hsp => ⟨_, pss_one (ps_ret (pe_lst (pa_cons (pe_callTy call_list_of (by rfl) T.z_list (by decide +kernel) (pa_cons (pe_slice sl_list (pv 0) po_none (po_some pe_int)) pa_nil)) (pa_cons pe_int (pa_cons pe_int (pa_cons (pe_op op_add pe_int (pe_callB call_len_seq (by rfl) T.z_len PySem.boot_len (pa_cons (pv 0) pa_nil))) pa_nil)))))), ?_⟩)
  obtain ⟨a, ns, rfl, hS, hl, q⟩ := hsp
  refine ⟨_, rfl, 80, rfl, a, _, rfl, hS, fun c hc => ?_⟩
  have s1 : Same H (upd H c (.lst (cutV (ns.map V.int) none (some 80)))) := same_upd' hc
  refine ⟨c, _, rfl, .inl (.inl (.inl upd_same)), fun l hl' => ?_⟩
  have s2 := s1.trans (same_upd' (o := .lst (cutV (ns.map V.int) none (some 80))) hl')
  refine ⟨_, rfl, a, _, rfl, .inl (s2.seq hS), _, _, rfl, rfl, by show 4 ≤ sizeLine; decide, fun p hp => ?_⟩
  have e : cutV (ns.map V.int) none (some 80) = (cut ns none (some 80)).map V.int := by
    unfold cutV cut
    rw [List.map_take, List.map_drop, List.length_map]
  have np : l ≠ p := fun h => by subst h; rw [upd_same] at hp; cases hp
  refine q p l _ (s2.trans (same_upd' hp)) (Same.free s2 hp) (Same.free s1 hl') ⟨cut ns none (some 80), 0, 0, _, ?_, upd_same, Nat.zero_le _⟩
  rw [upd_ne np, upd_same, e]

theorem ok__law_take {b q : Addr} (T : Tx K mg) : FnOk P w K mg base CX0 2 T.a__law_take T.fd__law_take ["tape", "many"] (spOf K (tapeBx b q) C_draw) := by
  refine T.F__law_take.ok sc__law_take (fun vs H Q E ⟨_, _, ds, _, _, r, ⟨n, e, _⟩, _⟩ => by rw [r.length, e]; rfl) (fun cdv A outer s H vs Q E hr hsp => ?_)
  obtain ⟨F, G, ds, PP, fr, rl, ⟨n, rfl, hn, hn2, hP⟩, hQ⟩ := hsp
  obtain ⟨v0, v1, rfl, r0, r1⟩ := repL2 rl
  cases r0
  cases r1
  have hdiv : CDivW (0 : Int) n := wide_div (b := 121) hn (by omega) (by decide) (by decide)
  have mix : ∀ (i : Int) (G1 H1 : Hp) (QQ : VK) (E0 : XK), Fr3 (tapeBx b q) F G1 H1 → (∀ r G2 H2, Same G1 G2 → Fr3 (tapeBx b q) F G2 H2 → QQ (.int r) H2) → spOf K (tapeBx b q) C_any1 ([.int i] ++ []) H1 QQ E0 := fun i G1 H1 QQ E0 fr1 h =>
    ⟨F, G1, [.int i], fun r => ∃ z, r = .val (.int z), fr1, .cons (.int i) .nil, ⟨i, rfl, fun r => ⟨r, rfl⟩⟩, fun r v G' H' ⟨z, e⟩ g fr' rr => by
      subst e
      cases rr
      exact h z G' H' g fr'⟩
  obtain ⟨t2, p2, fin⟩ : ∃ t, PSs (cxOf CX0 P w K mg base n__law_take "_law_take" (defScope s__law_take) T.a__law_take cdv A outer s H E).nox ((defBody s__law_take).drop 1) t ∧ ∀ (σ2 σ3 : Option V) (G1 H1 : Hp), Same G G1 → Fr3 (tapeBx b q) F G1 H1 →
      t { nx := fun _ H' => Q .non H', rt := Q } [some (.ref b), some (.int n), σ2, σ3] H1 := by
    refine ⟨_, pss_cons (ps_set (i := 3) sc__law_take.nd rfl (.inl rfl) (pe_op op_mod (pe_callTy call_int1 (by rfl) T.z_int (by decide +kernel) (pa_cons (pe_ix ix_list (pv 0) pe_int (fun _ _ => rfl)) pa_nil)) (pv 1)))
      (pss_cons (ps_asg (pe_op op_fdivW (pe_ix ix_list (pv 0) pe_int (fun _ _ => rfl)) (pv 1)) (pg_sub (pv 0) pe_int set_list))
      (pss_one (ps_ret (pv 3)))), fun σ2 σ3 G1 H1 g1 fr1 => ?_⟩
    obtain ⟨cs, k, x, y, hq, hb, hk⟩ := id fr1.bi
    refine ⟨_, rfl, b, _, 2, .int x, rfl, rfl, .inl (.inl hb), rfl, .inl ⟨x, rfl, _, rfl, x, n, rfl, rfl, hn, ?_⟩⟩
    refine ⟨_, rfl, b, _, 2, .int x, rfl, rfl, .inl (.inl hb), rfl, _, rfl, x, n, rfl, rfl, hdiv, _, rfl, b, _, 2, 2, rfl, rfl, hb, rfl, _, rfl, ?_⟩
    have fr2 := tape_set fr1 hq k (x / n) y hk
    exact hQ _ _ G1 _ (hP (x % n) (Int.emod_nonneg _ (by omega)) (Int.emod_lt_of_pos _ hn)) g1 fr2 (.int _)
  refine ⟨_, pss_cons (ps_if (pt_cmpR op_lt (pe_ix ix_list (pv 0) pe_int (fun _ _ => rfl)) (pv 1) (nomark _))
      (pss_one (ps_if (pt_cmpR op_lt (pe_ix ix_list (pv 0) pe_int (fun _ _ => rfl)) (pe_callB call_len_seq (by rfl) T.z_len PySem.boot_len (pa_cons (pe_ix ix_list (pv 0) pe_int (fun _ _ => rfl)) pa_nil)) (nomark _))
        (pss_cons (ps_set (i := 2) sc__law_take.nd rfl (.inl rfl) (pe_ix ix_list (pe_ix ix_list (pv 0) pe_int (fun _ _ => rfl)) (pe_ix ix_list (pv 0) pe_int (fun _ _ => rfl)) (fun _ _ => rfl)))
        (pss_cons (ps_set (i := 2) sc__law_take.nd rfl (.inl rfl) (pe_ifExp (pt_cmpR op_ge (pv 2) pe_int (nomark _)) (pe_op op_mul pe_int (pv 2)) (pe_op op_sub (pe_op op_mul (pe_un un_neg pe_int) (pv 2)) pe_int)))
        (pss_cons (ps_asg (pe_op op_add (pe_ix ix_list (pv 0) pe_int (fun _ _ => rfl)) pe_int) (pg_sub (pv 0) pe_int set_list))
        (pss_cons (ps_asg (pe_call (ok__law_mix (bx := tapeBx b q) T) (hr.mono (by decide)) (by rfl) T.g__law_mix T.F__law_mix.kp T.B__law_mix .nil pass0 (pa_cons (pe_op op_add (pe_ix ix_list (pv 0) pe_int (fun _ _ => rfl)) (pv 2)) pa_nil)) (pg_sub (pv 0) pe_int set_list))
        (pss_one (ps_asg (pe_ifExp (pt_cmpR op_ge (pv 2) (pe_op op_pow pe_int pe_int) (nomark _)) (pv 2) (pe_call (ok__law_mix (bx := tapeBx b q) T) (hr.mono (by decide)) (by rfl) T.g__law_mix T.F__law_mix.kp T.B__law_mix .nil pass0 (pa_cons (pe_op op_add (pe_call (ok__law_mix (bx := tapeBx b q) T) (hr.mono (by decide)) (by rfl) T.g__law_mix T.F__law_mix.kp T.B__law_mix .nil pass0 (pa_cons (pv 2) pa_nil)) (pe_ix ix_list (pv 0) pe_int (fun _ _ => rfl))) pa_nil))) (pg_sub (pv 0) pe_int set_list)))))))
        (pss_cons (ps_asg (pe_call (ok__law_mix (bx := tapeBx b q) T) (hr.mono (by decide)) (by rfl) T.g__law_mix T.F__law_mix.kp T.B__law_mix .nil pass0 (pa_cons (pe_op op_add (pe_ix ix_list (pv 0) pe_int (fun _ _ => rfl)) pe_int) pa_nil)) (pg_sub (pv 0) pe_int set_list))
        (pss_one (ps_asg (pe_ix ix_list (pv 0) pe_int (fun _ _ => rfl)) (pg_sub (pv 0) pe_int set_list))))))
      pss_nil) p2, ?_⟩
  obtain ⟨cs, k, x, y, hq, hb, hk⟩ := id fr.bi
  refine ⟨_, rfl, b, _, 2, .int x, rfl, rfl, .inl (.inl hb), rfl, _, rfl, x, n, rfl, rfl, _, rfl, ite2 (fun _ => ?_) (fun _ => fin none none G H (Same.refl G) fr)⟩
  refine ⟨_, rfl, b, _, 1, .int (k : Int), rfl, rfl, .inl (.inl hb), rfl, _, rfl, b, _, 0, .ref q, rfl, rfl, .inl (.inl hb), rfl, q, _, rfl, .inl (.inl (.inl hq)), _, _, rfl, rfl, _, rfl, ite2 (fun hlt => ?_) (fun _ => ?_)⟩
  · have hlt : (k : Int) < ((cs.map V.int).length : Int) := of_decide_eq_true hlt
    rw [List.length_map] at hlt
    have hkl : k < cs.length := by omega
    refine ⟨_, rfl, b, _, 0, .ref q, rfl, rfl, .inl (.inl hb), rfl, _, rfl, b, _, 1, .int (k : Int), rfl, rfl, .inl (.inl hb), rfl, q, _, (k : Int), .int cs[k], rfl, rfl, .inl (.inl hq), atI_nat (by rw [List.getElem?_map, List.getElem?_eq_getElem hkl]; rfl), ?_⟩
    generalize cs[k] = c
    refine ⟨_, rfl, c, 0, rfl, rfl, _, rfl, ite2 (fun _ => ⟨_, rfl, 2, c, rfl, rfl, .inl ⟨by decide, by decide⟩, ?_⟩) (fun _ => ⟨2, rfl, _, rfl, -2, c, rfl, rfl, .inl ⟨by decide, by decide⟩, _, 1, rfl, rfl, ?_⟩)⟩
    all_goals
      refine ⟨_, rfl, b, _, 1, .int (k : Int), rfl, rfl, .inl (.inl hb), rfl, (k : Int), 1, rfl, rfl, _, rfl, b, _, 1, 1, rfl, rfl, hb, rfl, ?_⟩
      have fr1 := tape_set fr hq (k + 1) x y (by omega)
      have hq1 : upd H b (.lst [.ref q, .int ((k + 1 : Nat) : Int), .int x, .int y]) q = some (.lst (cs.map V.int)) := by rw [upd_ne (Ne.symm (tape_ne fr.bi))]; exact hq
      refine ⟨_, rfl, b, _, 3, .int y, rfl, rfl, .inl (.inl upd_same), rfl, _, rfl, _, _, rfl, rfl, mix _ G _ _ E fr1 fun r2 G2 H2 g2 fr2 => ?_⟩
      obtain ⟨cs2, k2, x2, y2, hq2, hb2, hk2⟩ := id fr2.bi
      refine ⟨_, rfl, b, _, 3, 3, rfl, rfl, hb2, rfl, ?_⟩
      have fr3 := tape_set fr2 hq2 k2 x2 r2 hk2
      refine ⟨_, rfl, 10, 18, rfl, rfl, ⟨by decide, by decide, by decide⟩, _, _, rfl, rfl, _, rfl, ite2 (fun _ => ⟨_, rfl, _, rfl, b, _, 2, 2, rfl, rfl, upd_same, rfl, ?_⟩) (fun _ => ⟨_, rfl, mix _ G2 _ _ E fr3 fun r4 G4 H4 g4 fr4 => ?_⟩)⟩
      · have ne := tape_ne fr2.bi
        have hq3 : upd H2 b (.lst [.ref q, .int (k2 : Int), .int x2, .int r2]) q = some (.lst (cs2.map V.int)) := by rw [upd_ne (Ne.symm ne)]; exact hq2
        exact fin _ _ G2 _ g2 (tape_set fr3 hq3 k2 _ r2 hk2)
      · obtain ⟨cs4, k4, x4, y4, hq4, hb4, hk4⟩ := id fr4.bi
        refine ⟨_, rfl, b, _, 1, .int (k4 : Int), rfl, rfl, .inl (.inl hb4), rfl, _, _, rfl, rfl, mix _ G4 _ _ E fr4 fun r5 G5 H5 g5 fr5 => ?_⟩
        obtain ⟨cs5, k5, x5, y5, hq5, hb5, hk5⟩ := id fr5.bi
        refine ⟨_, rfl, b, _, 2, 2, rfl, rfl, hb5, rfl, ?_⟩
        exact fin _ _ G5 _ (g2.trans (g4.trans g5)) (tape_set fr5 hq5 k5 r5 y5 hk5)
  · refine ⟨_, rfl, b, _, 3, .int y, rfl, rfl, .inl (.inl hb), rfl, _, _, rfl, rfl, mix _ G _ _ E fr fun r2 G2 H2 g2 fr2 => ?_⟩
    obtain ⟨cs2, k2, x2, y2, hq2, hb2, hk2⟩ := id fr2.bi
    refine ⟨_, rfl, b, _, 3, 3, rfl, rfl, hb2, rfl, ?_⟩
    have fr3 := tape_set fr2 hq2 k2 x2 r2 hk2
    have ne := tape_ne fr2.bi
    have hq3 : upd H2 b (.lst [.ref q, .int (k2 : Int), .int x2, .int r2]) q = some (.lst (cs2.map V.int)) := by rw [upd_ne (Ne.symm ne)]; exact hq2
    refine ⟨_, rfl, b, _, 3, .int r2, rfl, rfl, .inl (.inl upd_same), rfl, _, rfl, b, _, 2, 2, rfl, rfl, upd_same, rfl, ?_⟩
    exact fin _ _ G2 _ g2 (tape_set fr3 hq3 k2 _ r2 hk2)

theorem ok__law_same : ∀ (m : Nat) (T : Tx K mg), FnOk P w K mg base CX0 m T.a__law_same T.fd__law_same ["a", "b"] (spOf K bx (C_same m))
  | 0, T => FnOk.none
  | m + 1, T => def3 (fb := b_same (C_same m)) T.F__law_same sc__law_same (fun ds Q ⟨a, b, e, _⟩ => by rw [e]; rfl) (fun cdv A outer s H E hr => (ss_cons (s_if (t_of (tw_or (t_of (tw_and (t_val (e_isi (T := "tuple") (by decide) (e_var 0) T.z_isinstance T.z_tuple)) (tw_and1 (t_val (e_isi (T := "tuple") (by decide) (e_var 1) T.z_isinstance T.z_tuple))))) (tw_or1 (t_of (tw_and (t_val (e_isi (T := "list") (by decide) (e_var 0) T.z_isinstance T.z_list)) (tw_and1 (t_val (e_isi (T := "list") (by decide) (e_var 1) T.z_isinstance T.z_list)))))))) (ss_one (s_ret (e_and (e_cmp (opD_eq hr.units) (e_callB c_len (e_var 0) T.z_len) (e_callB c_len (e_var 1) T.z_len)) (e_one (e_callB (c_all rfl) (e_lc rfl sc__law_same.nd (i_rng1 (a_cons (e_callB c_len (e_var 0) T.z_len) a_nil) T.z_range) (blkOk_by (own := [("k", 2)]) (N := n__law_same) (sc := defScope s__law_same) (by decide +kernel)) (fun _ _ _ _ _ => (g_name 2 sc__law_same.nd)) (fun _ _ _ _ _ => ts_nil) (fun _ _ _ _ _ => (e_call (ok__law_same m T) hr T.g__law_same T.F__law_same.kp T.B__law_same (a_cons (e_ix hr.units (e_var 0) (e_var 2)) (a_cons (e_ix hr.units (e_var 1) (e_var 2)) a_nil))))) T.z_all))))) ss_nil)
    (ss_cons (s_if (t_of (tw_or (t_val (e_isi (T := "bool") (by decide) (e_var 0) T.z_isinstance T.z_bool)) (tw_or1 (t_val (e_isi (T := "bool") (by decide) (e_var 1) T.z_isinstance T.z_bool))))) (ss_one (s_ret (e_and (e_isi (T := "bool") (by decide) (e_var 0) T.z_isinstance T.z_bool) (e_and (e_isi (T := "bool") (by decide) (e_var 1) T.z_isinstance T.z_bool) (e_one (e_cmp (opD_eq hr.units) (e_var 0) (e_var 1))))))) ss_nil)
    (ss_cons (s_if (t_of (tw_or (t_of (tw_and (t_val (e_isi (T := "int") (by decide) (e_var 0) T.z_isinstance T.z_int)) (tw_and1 (t_val (e_isi (T := "int") (by decide) (e_var 1) T.z_isinstance T.z_int))))) (tw_or1 (t_of (tw_and (t_val (e_isi (T := "str") (by decide) (e_var 0) T.z_isinstance T.z_str)) (tw_and1 (t_val (e_isi (T := "str") (by decide) (e_var 1) T.z_isinstance T.z_str)))))))) (ss_one (s_ret (e_cmp (opD_eq hr.units) (e_var 0) (e_var 1)))) ss_nil)
    (ss_one (s_ret (e_and (e_cmp opD_is (e_var 0) e_non) (e_one (e_cmp opD_is (e_var 1) e_non))))))))) (vc_same m)
theorem ok__law_mixed {b q : Addr} (T : Tx K mg) : FnOk P w K mg base CX0 3 T.a__law_mixed T.fd__law_mixed ["tape", "row"] (spOf K (tapeBx b q) C__law_mixed) :=
  def3 (fb := b__law_mixed) T.F__law_mixed sc__law_mixed (by intro ds Q h; (repeat (rcases h with ⟨_, h⟩)); subst_vars; rfl) (fun cdv A outer s H E hr => (ss_cons (s_set 2 sc__law_mixed.nd (e_callTy (c_listX rfl) (e_var 1) T.z_list))
    (ss_one (s_ret (e_lc rfl sc__law_mixed.nd (i_rng1 (a_cons (e_callB c_len (e_var 1) T.z_len) a_nil) T.z_range) (blkOk_by (own := [("k", 3)]) (N := n__law_mixed) (sc := defScope s__law_mixed) (by decide +kernel)) (fun _ _ _ _ _ => (g_name 3 sc__law_mixed.nd)) (fun _ _ _ _ _ => ts_nil) (fun _ _ _ _ _ => (e_popAt 2 (e_call (ok__law_take T) (hr.mono (by first | decide | omega | (simp only [Nat.add_eq]; omega))) T.g__law_take T.F__law_take.kp T.B__law_take (a_cons (e_var 0) (a_cons (e_callB c_len (e_var 2) T.z_len) a_nil)))))))))) vc__law_mixed
theorem ok__law_power (T : Tx K mg) : FnOk P w K mg base CX0 1 T.a__law_power T.fd__law_power ["base", "count"] (spOf K bx C__law_power) :=
  def3 (fb := b__law_power) T.F__law_power sc__law_power (by intro ds Q h; (repeat (rcases h with ⟨_, h⟩)); subst_vars; rfl) (fun cdv A outer s H E hr => (ss_cons (s_set 2 sc__law_power.nd e_int)
    (ss_cons (s_for PassesOwn.never rfl (i_rng1 (a_cons (e_var 1) a_nil) T.z_range) (g_name 3 sc__law_power.nd) (ss_one (s_set 2 sc__law_power.nd (e_bin opD_mul (e_var 2) (e_var 0)))))
    (ss_one (s_ret (e_var 2)))))) vc__law_power
theorem ok__law_lowest (T : Tx K mg) : FnOk P w K mg base CX0 1 T.a__law_lowest T.fd__law_lowest ["p", "q"] (spOf K bx C__law_lowest) :=
  def3 (fb := b__law_lowest) T.F__law_lowest sc__law_lowest (by intro ds Q h; (repeat (rcases h with ⟨_, h⟩)); subst_vars; rfl) (fun cdv A outer s H E hr => (ss_cons (s_par2 2 3 rfl sc__law_lowest.nd (e_callB c_abs (e_var 0) T.z_abs) (e_callB c_abs (e_var 1) T.z_abs))
    (ss_cons (s_while PassesOwn.never (t_cmp opD_gt (e_var 3) e_int) (ss_one (s_par2 2 3 rfl sc__law_lowest.nd (e_var 3) (e_bin opD_sub (e_var 2) (e_bin opD_mul (e_bin opD_fdiv (e_var 2) (e_var 3)) (e_var 3))))))
    (ss_one (s_ret (e_if (t_cmp opD_gt (e_var 1) e_int) (e_tup (a_cons (e_bin opD_fdiv (e_var 0) (e_var 2)) (a_cons (e_bin opD_fdiv (e_var 1) (e_var 2)) a_nil))) (e_tup (a_cons (e_bin opD_sub e_int (e_bin opD_fdiv (e_var 0) (e_var 2))) (a_cons (e_bin opD_sub e_int (e_bin opD_fdiv (e_var 1) (e_var 2))) a_nil))))))))) vc__law_lowest
theorem ok__law_total (T : Tx K mg) : FnOk P w K mg base CX0 2 T.a__law_total T.fd__law_total ["lengths", "k"] (spOf K bx C__law_total) :=
  def3 (fb := b__law_total) T.F__law_total sc__law_total (by intro ds Q h; (repeat (rcases h with ⟨_, h⟩)); subst_vars; rfl) (fun cdv A outer s H E hr => (ss_cons (s_set 2 sc__law_total.nd (e_callB (c_maxA rfl) (e_bin opD_add (e_callTy (c_listX rfl) (e_var 0) T.z_list) (e_lst (a_cons e_int a_nil))) T.z_max))
    (ss_one (s_ret (e_call (ok__law_lowest T) (hr.mono (by first | decide | omega | (simp only [Nat.add_eq]; omega))) T.g__law_lowest T.F__law_lowest.kp T.B__law_lowest (a_cons (e_callB (c_sum rfl) (e_lc rfl sc__law_total.nd (i_any (e_var 0)) (blkOk_by (own := [("length", 3)]) (N := n__law_total) (sc := defScope s__law_total) (by decide +kernel)) (fun _ _ _ _ _ => (g_name 3 sc__law_total.nd)) (fun _ _ _ _ _ => ts_nil) (fun _ _ _ _ _ => (e_call (ok__law_power T) (hr.mono (by first | decide | omega | (simp only [Nat.add_eq]; omega))) T.g__law_power T.F__law_power.kp T.B__law_power (a_cons (e_var 1) (a_cons (e_bin opD_sub (e_var 2) (e_var 3)) a_nil))))) T.z_sum) (a_cons (e_call (ok__law_power T) (hr.mono (by first | decide | omega | (simp only [Nat.add_eq]; omega))) T.g__law_power T.F__law_power.kp T.B__law_power (a_cons (e_var 1) (a_cons (e_var 2) a_nil))) a_nil))))))) vc__law_total
theorem ok__law_longer (T : Tx K mg) : FnOk P w K mg base CX0 1 T.a__law_longer T.fd__law_longer ["rows", "k"] (spOf K bx C__law_longer) :=
  def3 (fb := b__law_longer) T.F__law_longer sc__law_longer (by intro ds Q h; (repeat (rcases h with ⟨_, h⟩)); subst_vars; rfl) (fun cdv A outer s H E hr => (ss_cons (s_set 2 sc__law_longer.nd (e_lst a_nil))
    (ss_cons (s_for PassesOwn.never rfl (i_any (e_var 0)) (g_name 3 sc__law_longer.nd) (ss_one (s_expr (e_ext 2 (e_lc rfl sc__law_longer.nd (i_any (e_sl (e_str [97, 98, 99, 100, 101, 102, 103, 104, 105, 106, 107, 108, 109, 110, 111, 112, 113, 114, 115, 116, 117, 118, 119, 120, 121, 122]) o_none (o_some (e_var 1)))) (blkOk_by (own := [("letter", 4)]) (N := n__law_longer) (sc := defScope s__law_longer) (by decide +kernel)) (fun _ _ _ _ _ => (g_name 4 sc__law_longer.nd)) (fun _ _ _ _ _ => ts_nil) (fun _ _ _ _ _ => (e_bin opD_add (e_var 3) (e_var 4))))))))
    (ss_one (s_ret (e_var 2)))))) vc__law_longer
theorem ok__law_words (T : Tx K mg) : FnOk P w K mg base CX0 2 T.a__law_words T.fd__law_words ["length", "k"] (spOf K bx C__law_words) :=
  def3 (fb := b__law_words) T.F__law_words sc__law_words (by intro ds Q h; (repeat (rcases h with ⟨_, h⟩)); subst_vars; rfl) (fun cdv A outer s H E hr => (ss_cons (s_set 2 sc__law_words.nd (e_lst (a_cons (e_str []) a_nil)))
    (ss_cons (s_for PassesOwn.never rfl (i_rng1 (a_cons (e_var 0) a_nil) T.z_range) (g_name 3 sc__law_words.nd) (ss_one (s_set 2 sc__law_words.nd (e_call (ok__law_longer T) (hr.mono (by first | decide | omega | (simp only [Nat.add_eq]; omega))) T.g__law_longer T.F__law_longer.kp T.B__law_longer (a_cons (e_var 2) (a_cons (e_var 1) a_nil))))))
    (ss_one (s_ret (e_var 2)))))) vc__law_words
theorem ok__law_first (T : Tx K mg) : FnOk P w K mg base CX0 3 T.a__law_first T.fd__law_first ["lengths", "k"] (spOf K bx C__law_first) :=
  def3 (fb := b__law_first) T.F__law_first sc__law_first (by intro ds Q h; (repeat (rcases h with ⟨_, h⟩)); subst_vars; rfl) (fun cdv A outer s H E hr => (ss_cons (s_set 2 sc__law_first.nd (e_bin opD_mul (e_lst (a_cons e_non a_nil)) (e_callB c_len (e_var 0) T.z_len)))
    (ss_cons (s_for PassesOwn.never rfl (i_any (e_callB (c_sortedY rfl hr.units) (e_lc rfl sc__law_first.nd (i_rng1 (a_cons (e_callB c_len (e_var 0) T.z_len) a_nil) T.z_range) (blkOk_by (own := [("i", 4)]) (N := n__law_first) (sc := defScope s__law_first) (by decide +kernel)) (fun _ _ _ _ _ => (g_name 4 sc__law_first.nd)) (fun _ _ _ _ _ => ts_nil) (fun _ _ _ _ _ => (e_tup (a_cons (e_ix hr.units (e_var 0) (e_var 4)) (a_cons (e_var 4) a_nil))))) T.z_sorted)) (g_tup rfl (gs_cons (g_name 3 sc__law_first.nd) (gs_cons (g_name 4 sc__law_first.nd) gs_nil))) (ss_cons (s_setLc 5 rfl sc__law_first.nd (i_any (e_call (ok__law_words T) (hr.mono (by first | decide | omega | (simp only [Nat.add_eq]; omega))) T.g__law_words T.F__law_words.kp T.B__law_words (a_cons (e_var 3) (a_cons (e_var 1) a_nil)))) (blkOk_by (own := [("word", 6)]) (N := n__law_first) (sc := defScope s__law_first) (by decide +kernel)) (fun _ _ _ _ _ => (g_name 6 sc__law_first.nd)) (fun _ _ _ _ _ => (ts_one (t_not (t_val (e_callB (c_any rfl) (e_lcW 2 rfl sc__law_first.nd (blkOk_by (own := [("other", 7)]) (by show blkC n__law_first (relS _ (defScope s__law_first)) _ _ = true; decide +kernel)) (fun _ _ _ _ _ => (g_name 7 sc__law_first.nd)) (fun _ _ _ _ _ => (ts_one (t_cmp opD_isNot (e_var 7) e_non))) (fun _ _ _ _ _ => (e_cmp (opD_eq hr.units) (e_sl (e_var 6) o_none (o_some (e_callB c_len (e_var 7) T.z_len))) (e_var 7)))) T.z_any))))) (fun _ _ _ _ _ => (e_var 6)))
    (ss_cons (s_if (t_cmp (opD_eq hr.units) (e_var 5) (e_lst a_nil)) (ss_one (s_ret e_non)) ss_nil)
    (ss_one (s_putIx 2 (e_var 4) (e_ix hr.units (e_var 5) e_int))))))
    (ss_one (s_ret (e_callTy (c_tuple rfl) (e_var 2) T.z_tuple)))))) vc__law_first
theorem ok__law_counted (T : Tx K mg) : FnOk P w K mg base CX0 2 T.a__law_counted T.fd__law_counted ["lengths", "k"] (spOf K bx C__law_counted) :=
  def3 (fb := b__law_counted) T.F__law_counted sc__law_counted (by intro ds Q h; (repeat (rcases h with ⟨_, h⟩)); subst_vars; rfl) (fun cdv A outer s H E hr => (ss_cons (s_par3 2 3 4 rfl sc__law_counted.nd (e_bin opD_mul (e_lst (a_cons (e_str []) a_nil)) (e_callB c_len (e_var 0) T.z_len)) e_int e_int)
    (ss_cons (s_for PassesOwn.never rfl (i_any (e_callB (c_sortedY rfl hr.units) (e_lc rfl sc__law_counted.nd (i_rng1 (a_cons (e_callB c_len (e_var 0) T.z_len) a_nil) T.z_range) (blkOk_by (own := [("i", 6)]) (N := n__law_counted) (sc := defScope s__law_counted) (by decide +kernel)) (fun _ _ _ _ _ => (g_name 6 sc__law_counted.nd)) (fun _ _ _ _ _ => ts_nil) (fun _ _ _ _ _ => (e_tup (a_cons (e_ix hr.units (e_var 0) (e_var 6)) (a_cons (e_var 6) a_nil))))) T.z_sorted)) (g_tup rfl (gs_cons (g_name 5 sc__law_counted.nd) (gs_cons (g_name 6 sc__law_counted.nd) gs_nil))) (ss_cons (s_set 3 sc__law_counted.nd (e_bin opD_mul (e_var 3) (e_call (ok__law_power T) (hr.mono (by first | decide | omega | (simp only [Nat.add_eq]; omega))) T.g__law_power T.F__law_power.kp T.B__law_power (a_cons (e_var 1) (a_cons (e_bin opD_sub (e_var 5) (e_var 4)) a_nil)))))
    (ss_cons (s_par2 7 8 rfl sc__law_counted.nd (e_var 3) (e_str []))
    (ss_cons (s_for PassesOwn.never rfl (i_rng1 (a_cons (e_var 5) a_nil) T.z_range) (g_name 9 sc__law_counted.nd) (ss_cons (s_set 8 sc__law_counted.nd (e_bin opD_add (e_ix hr.units (e_str [97, 98, 99, 100, 101, 102, 103, 104, 105, 106, 107, 108, 109, 110, 111, 112, 113, 114, 115, 116, 117, 118, 119, 120, 121, 122]) (e_bin opD_sub (e_var 7) (e_bin opD_mul (e_bin opD_fdiv (e_var 7) (e_var 1)) (e_var 1)))) (e_var 8)))
    (ss_one (s_set 7 sc__law_counted.nd (e_bin opD_fdiv (e_var 7) (e_var 1))))))
    (ss_one (s_asg (e_tup (a_cons (e_var 8) (a_cons (e_bin opD_add (e_var 3) e_int) (a_cons (e_var 5) a_nil)))) (g_tup rfl (gs_cons (g_putIx 2 (e_var 6)) (gs_cons (g_name 3 sc__law_counted.nd) (gs_cons (g_name 4 sc__law_counted.nd) gs_nil))))))))))
    (ss_one (s_ret (e_callTy (c_tuple rfl) (e_var 2) T.z_tuple)))))) vc__law_counted
theorem ok__law_fine (T : Tx K mg) : FnOk P w K mg base CX0 10 T.a__law_fine T.fd__law_fine ["lengths", "k", "small"] (spOf K bx C__law_fine) :=
  def3 (fb := b__law_fine) T.F__law_fine sc__law_fine (by intro ds Q h; (repeat (rcases h with ⟨_, h⟩)); subst_vars; rfl) (fun cdv A outer s H E hr => (ss_cons (s_set 3 sc__law_fine.nd (e_call (ok__law_total T) (hr.mono (by first | decide | omega | (simp only [Nat.add_eq]; omega))) T.g__law_total T.F__law_total.kp T.B__law_total (a_cons (e_var 0) (a_cons (e_var 1) a_nil))))
    (ss_cons (s_set 4 sc__law_fine.nd (e_cmp opD_le (e_ix hr.units (e_var 3) e_int) (e_ix hr.units (e_var 3) e_int)))
    (ss_cons (s_set 5 sc__law_fine.nd (e_if (t_val (e_var 4)) (e_tup (a_cons (e_str [99, 111, 100, 101]) (a_cons (e_if (t_val (e_var 2)) (e_call (ok__law_first T) (hr.mono (by first | decide | omega | (simp only [Nat.add_eq]; omega))) T.g__law_first T.F__law_first.kp T.B__law_first (a_cons (e_var 0) (a_cons (e_var 1) a_nil))) (e_call (ok__law_counted T) (hr.mono (by first | decide | omega | (simp only [Nat.add_eq]; omega))) T.g__law_counted T.F__law_counted.kp T.B__law_counted (a_cons (e_var 0) (a_cons (e_var 1) a_nil)))) a_nil))) (e_tup (a_cons (e_str [115, 117, 109]) (a_cons (e_var 3) a_nil)))))
    (ss_cons (s_if (t_of (tw_and (t_val (e_var 2)) (tw_and1 (t_cmp (opD_ne hr.units) (e_cmp opD_isNot (e_call (ok__law_first T) (hr.mono (by first | decide | omega | (simp only [Nat.add_eq]; omega))) T.g__law_first T.F__law_first.kp T.B__law_first (a_cons (e_var 0) (a_cons (e_var 1) a_nil))) e_non) (e_var 4))))) (ss_one (s_ret e_bl)) ss_nil)
    (ss_one (s_ret (e_call (ok__law_same 8 T) (hr.mono (by first | decide | omega | (simp only [Nat.add_eq]; omega))) T.g__law_same T.F__law_same.kp T.B__law_same (a_cons (e_call (ok_code_for T) (hr.mono (by first | decide | omega | (simp only [Nat.add_eq]; omega))) T.g_code_for T.F_code_for.kp T.B_code_for (a_cons (e_var 0) (a_cons (e_var 1) a_nil))) (a_cons (e_var 5) a_nil)))))))))) vc__law_fine
theorem ok_law (T : Tx K mg) : FnOk P w K mg base CX0 11 T.a_law T.fd_law ["script"] (spLaw K) := by
  refine T.F_law.ok sc_law (fun vs H Q E ⟨a, ns, e, _⟩ => by rw [e]; rfl) (fun cdv A outer s H vs Q E hr ⟨a, ns, e, hS, hl, hq⟩ => ⟨_, pss_cons (ps_set (i := 1) sc_law.nd rfl (by first | exact .inl rfl | exact .inr rfl) (pe_call (ok__law_tape T) (hr.mono (by decide)) (by rfl) T.g__law_tape T.F__law_tape.kp T.B__law_tape .nil pass0 (pa_cons (pv 0) pa_nil))) (pss_any (α := Addr × Addr) (f := b_law) (fun bq => tapeBx bq.1 bq.2) fun bq => (ss_cons (s_for PassesOwn.never rfl (i_rng1 (a_cons e_int a_nil) T.z_range) (g_name 2 sc_law.nd) (ss_cons (s_set 3 sc_law.nd (e_bin opD_add e_int (e_call (ok__law_take T) (hr.mono (by first | decide | omega | (simp only [Nat.add_eq]; omega))) T.g__law_take T.F__law_take.kp T.B__law_take (a_cons (e_var 1) (a_cons e_int a_nil)))))
    (ss_cons (s_set 4 sc_law.nd (e_callTy (c_tuple rfl) (e_lc rfl sc_law.nd (i_rng1 (a_cons (e_call (ok__law_take T) (hr.mono (by first | decide | omega | (simp only [Nat.add_eq]; omega))) T.g__law_take T.F__law_take.kp T.B__law_take (a_cons (e_var 1) (a_cons e_int a_nil))) a_nil) T.z_range) (blkOk_by (own := [("step", 7)]) (N := n_law) (sc := defScope s_law) (by decide +kernel)) (fun _ _ _ _ _ => (g_name 7 sc_law.nd)) (fun _ _ _ _ _ => ts_nil) (fun _ _ _ _ _ => (e_bin opD_add e_int (e_call (ok__law_take T) (hr.mono (by first | decide | omega | (simp only [Nat.add_eq]; omega))) T.g__law_take T.F__law_take.kp T.B__law_take (a_cons (e_var 1) (a_cons (e_if (t_cmp (opD_eq hr.units) (e_var 3) e_int) e_int e_int) a_nil)))))) T.z_tuple))
    (ss_one (s_if (t_not (t_val (e_call (ok__law_fine T) (hr.mono (by first | decide | omega | (simp only [Nat.add_eq]; omega))) T.g__law_fine T.F__law_fine.kp T.B__law_fine (a_cons (e_var 4) (a_cons (e_var 3) (a_cons e_bl a_nil)))))) (ss_one (s_ret e_bl)) ss_nil)))))
    (ss_cons (s_set 3 sc_law.nd (e_bin opD_add e_int (e_call (ok__law_take T) (hr.mono (by first | decide | omega | (simp only [Nat.add_eq]; omega))) T.g__law_take T.F__law_take.kp T.B__law_take (a_cons (e_var 1) (a_cons e_int a_nil)))))
    (ss_cons (s_set 5 sc_law.nd (e_callTy (c_tuple rfl) (e_lc rfl sc_law.nd (i_rng1 (a_cons (e_call (ok__law_take T) (hr.mono (by first | decide | omega | (simp only [Nat.add_eq]; omega))) T.g__law_take T.F__law_take.kp T.B__law_take (a_cons (e_var 1) (a_cons e_int a_nil))) a_nil) T.z_range) (blkOk_by (own := [("step", 7)]) (N := n_law) (sc := defScope s_law) (by decide +kernel)) (fun _ _ _ _ _ => (g_name 7 sc_law.nd)) (fun _ _ _ _ _ => ts_nil) (fun _ _ _ _ _ => (e_bin opD_add e_int (e_ix hr.units (e_lst (a_cons (e_call (ok__law_take T) (hr.mono (by first | decide | omega | (simp only [Nat.add_eq]; omega))) T.g__law_take T.F__law_take.kp T.B__law_take (a_cons (e_var 1) (a_cons e_int a_nil))) (a_cons (e_call (ok__law_take T) (hr.mono (by first | decide | omega | (simp only [Nat.add_eq]; omega))) T.g__law_take T.F__law_take.kp T.B__law_take (a_cons (e_var 1) (a_cons e_int a_nil))) a_nil))) (e_call (ok__law_take T) (hr.mono (by first | decide | omega | (simp only [Nat.add_eq]; omega))) T.g__law_take T.F__law_take.kp T.B__law_take (a_cons (e_var 1) (a_cons e_int a_nil))))))) T.z_tuple))
    (ss_cons (s_if (t_not (t_val (e_call (ok__law_fine T) (hr.mono (by first | decide | omega | (simp only [Nat.add_eq]; omega))) T.g__law_fine T.F__law_fine.kp T.B__law_fine (a_cons (e_var 5) (a_cons (e_var 3) (a_cons e_bl a_nil)))))) (ss_one (s_ret e_bl)) ss_nil)
    (ss_cons (s_set 6 sc_law.nd (e_callTy (c_tuple rfl) (e_call (ok__law_mixed T) (hr.mono (by first | decide | omega | (simp only [Nat.add_eq]; omega))) T.g__law_mixed T.F__law_mixed.kp T.B__law_mixed (a_cons (e_var 1) (a_cons (e_bin opD_add (e_listRng2 (a_cons e_int (a_cons e_int a_nil)) T.z_list T.z_range) (e_lst (a_cons e_int a_nil))) a_nil))) T.z_tuple))
    (ss_one (s_ret (e_and (e_call (ok__law_fine T) (hr.mono (by first | decide | omega | (simp only [Nat.add_eq]; omega))) T.g__law_fine T.F__law_fine.kp T.B__law_fine (a_cons (e_var 6) (a_cons e_int (a_cons e_bl a_nil)))) (e_and (e_call (ok__law_fine T) (hr.mono (by first | decide | omega | (simp only [Nat.add_eq]; omega))) T.g__law_fine T.F__law_fine.kp T.B__law_fine (a_cons (e_bin opD_add (e_var 6) (e_tup (a_cons e_int a_nil))) (a_cons e_int (a_cons e_bl a_nil)))) (e_and (e_call (ok__law_fine T) (hr.mono (by first | decide | omega | (simp only [Nat.add_eq]; omega))) T.g__law_fine T.F__law_fine.kp T.B__law_fine (a_cons (e_bin opD_mul (e_tup (a_cons e_int a_nil)) (e_var 3)) (a_cons (e_var 3) (a_cons e_bl a_nil)))) (e_one (e_call (ok__law_fine T) (hr.mono (by first | decide | omega | (simp only [Nat.add_eq]; omega))) T.g__law_fine T.F__law_fine.kp T.B__law_fine (a_cons (e_bin opD_mul (e_tup (a_cons e_int a_nil)) (e_bin opD_add (e_var 3) e_int)) (a_cons (e_var 3) (a_cons e_bl a_nil)))))))))))))))), ?_⟩)
  subst e
  refine ⟨_, rfl, a, ns, rfl, hS, hl, fun b q H' sm hb hq' inv => ⟨(b, q), _, _, _, _, law_st (bx := tapeBx b q) sm (fun x hx => ?_) inv (by decide), vc_law, ⟨fun _ _ _ _ h => h.elim, fun _ _ _ _ h => h.elim, fun _ _ _ _ h => h.elim, fun r v G2 H2 e g2 fr2 rr => ?_, fun _ _ _ _ _ h => h.elim⟩⟩⟩
  · have hx : x = b ∨ x = q := by simpa [tapeBx] using hx
    rcases hx with rfl | rfl
    · exact hb
    · exact hq'
  · have e : r = .val (.bl true) := e
    subst e
    cases rr
    exact hq H2
end
end L2.W3.K33
open PySem PySem.W PyProof.Rows
set_option maxHeartbeats 0 in
theorem PySem.Challenge.cw_tworeadings_k33_whole_codes_for_lengths_holds : PySem.Challenge.rw_tworeadings_k33_whole_codes_for_lengths.Holds := by
  w_on; o_law; k_head; (case hw => w_witness2)
  k_fill
  refine L2.walk_of (l := PySem.Challenge.rw_tworeadings_k33_whole_codes_for_lengths) (n := 63) (k := 11) (x := "script") (CX := fun _ => L2.CX0) (sp := fun w => L2.W3.spLaw _) rfl (by decide) rfl ⟨rfl, by decide, by decide⟩ (fun w h Y => PySem.W.kIn_of Y) ?F (fun _ _ a ns hl _ hS => ⟨a, ns, rfl, hS, hl, fun _ => rfl⟩) (fun _ _ _ _ _ h => h)
  case F =>
    intro w mg fa h KX G hmg
    obtain ⟨a_common_part, fd_common_part, F_common_part, g_common_part⟩ : ∃ f fd, L2.Fun _ "common_part" "common_part" L2.W3.K33.s_common_part f fd ∧ mg "common_part" = some (.ref f) := by
      refine' L2.W3.fact_mk KX G ?a ?l ?c ?k
      (case a => k_is); (case l => k_is); (case c => k_is); (case k => k_is)
    obtain ⟨a_ratio, fd_ratio, F_ratio, g_ratio⟩ : ∃ f fd, L2.Fun _ "ratio" "ratio" L2.W3.K33.s_ratio f fd ∧ mg "ratio" = some (.ref f) := by
      refine' L2.W3.fact_mk KX G ?a ?l ?c ?k
      (case a => k_is); (case l => k_is); (case c => k_is); (case k => k_is)
    obtain ⟨a_plus, fd_plus, F_plus, g_plus⟩ : ∃ f fd, L2.Fun _ "plus" "plus" L2.W3.K33.s_plus f fd ∧ mg "plus" = some (.ref f) := by
      refine' L2.W3.fact_mk KX G ?a ?l ?c ?k
      (case a => k_is); (case l => k_is); (case c => k_is); (case k => k_is)
    obtain ⟨a_less, fd_less, F_less, g_less⟩ : ∃ f fd, L2.Fun _ "less" "less" L2.W3.K33.s_less f fd ∧ mg "less" = some (.ref f) := by
      refine' L2.W3.fact_mk KX G ?a ?l ?c ?k
      (case a => k_is); (case l => k_is); (case c => k_is); (case k => k_is)
    obtain ⟨a_power, fd_power, F_power, g_power⟩ : ∃ f fd, L2.Fun _ "power" "power" L2.W3.K33.s_power f fd ∧ mg "power" = some (.ref f) := by
      refine' L2.W3.fact_mk KX G ?a ?l ?c ?k
      (case a => k_is); (case l => k_is); (case c => k_is); (case k => k_is)
    obtain ⟨a_lengths_sum, fd_lengths_sum, F_lengths_sum, g_lengths_sum⟩ : ∃ f fd, L2.Fun _ "lengths_sum" "lengths_sum" L2.W3.K33.s_lengths_sum f fd ∧ mg "lengths_sum" = some (.ref f) := by
      refine' L2.W3.fact_mk KX G ?a ?l ?c ?k
      (case a => k_is); (case l => k_is); (case c => k_is); (case k => k_is)
    obtain ⟨a_written, fd_written, F_written, g_written⟩ : ∃ f fd, L2.Fun _ "written" "written" L2.W3.K33.s_written f fd ∧ mg "written" = some (.ref f) := by
      refine' L2.W3.fact_mk KX G ?a ?l ?c ?k
      (case a => k_is); (case l => k_is); (case c => k_is); (case k => k_is)
    obtain ⟨a_code_for, fd_code_for, F_code_for, g_code_for⟩ : ∃ f fd, L2.Fun _ "code_for" "code_for" L2.W3.K33.s_code_for f fd ∧ mg "code_for" = some (.ref f) := by
      refine' L2.W3.fact_mk KX G ?a ?l ?c ?k
      (case a => k_is); (case l => k_is); (case c => k_is); (case k => k_is)
    obtain ⟨a__law_mix, fd__law_mix, F__law_mix, g__law_mix⟩ : ∃ f fd, L2.Fun _ "_law_mix" "_law_mix" L2.W3.K33.s__law_mix f fd ∧ mg "_law_mix" = some (.ref f) := by
      refine' L2.W3.fact_mk KX G ?a ?l ?c ?k
      (case a => k_is); (case l => k_is); (case c => k_is); (case k => k_is)
    obtain ⟨a__law_tape, fd__law_tape, F__law_tape, g__law_tape⟩ : ∃ f fd, L2.Fun _ "_law_tape" "_law_tape" L2.W3.K33.s__law_tape f fd ∧ mg "_law_tape" = some (.ref f) := by
      refine' L2.W3.fact_mk KX G ?a ?l ?c ?k
      (case a => k_is); (case l => k_is); (case c => k_is); (case k => k_is)
    obtain ⟨a__law_take, fd__law_take, F__law_take, g__law_take⟩ : ∃ f fd, L2.Fun _ "_law_take" "_law_take" L2.W3.K33.s__law_take f fd ∧ mg "_law_take" = some (.ref f) := by
      refine' L2.W3.fact_mk KX G ?a ?l ?c ?k
      (case a => k_is); (case l => k_is); (case c => k_is); (case k => k_is)
    obtain ⟨a__law_same, fd__law_same, F__law_same, g__law_same⟩ : ∃ f fd, L2.Fun _ "_law_same" "_law_same" L2.W3.K33.s__law_same f fd ∧ mg "_law_same" = some (.ref f) := by
      refine' L2.W3.fact_mk KX G ?a ?l ?c ?k
      (case a => k_is); (case l => k_is); (case c => k_is); (case k => k_is)
    obtain ⟨a__law_mixed, fd__law_mixed, F__law_mixed, g__law_mixed⟩ : ∃ f fd, L2.Fun _ "_law_mixed" "_law_mixed" L2.W3.K33.s__law_mixed f fd ∧ mg "_law_mixed" = some (.ref f) := by
      refine' L2.W3.fact_mk KX G ?a ?l ?c ?k
      (case a => k_is); (case l => k_is); (case c => k_is); (case k => k_is)
    obtain ⟨a__law_power, fd__law_power, F__law_power, g__law_power⟩ : ∃ f fd, L2.Fun _ "_law_power" "_law_power" L2.W3.K33.s__law_power f fd ∧ mg "_law_power" = some (.ref f) := by
      refine' L2.W3.fact_mk KX G ?a ?l ?c ?k
      (case a => k_is); (case l => k_is); (case c => k_is); (case k => k_is)
    obtain ⟨a__law_lowest, fd__law_lowest, F__law_lowest, g__law_lowest⟩ : ∃ f fd, L2.Fun _ "_law_lowest" "_law_lowest" L2.W3.K33.s__law_lowest f fd ∧ mg "_law_lowest" = some (.ref f) := by
      refine' L2.W3.fact_mk KX G ?a ?l ?c ?k
      (case a => k_is); (case l => k_is); (case c => k_is); (case k => k_is)
    obtain ⟨a__law_total, fd__law_total, F__law_total, g__law_total⟩ : ∃ f fd, L2.Fun _ "_law_total" "_law_total" L2.W3.K33.s__law_total f fd ∧ mg "_law_total" = some (.ref f) := by
      refine' L2.W3.fact_mk KX G ?a ?l ?c ?k
      (case a => k_is); (case l => k_is); (case c => k_is); (case k => k_is)
    obtain ⟨a__law_words, fd__law_words, F__law_words, g__law_words⟩ : ∃ f fd, L2.Fun _ "_law_words" "_law_words" L2.W3.K33.s__law_words f fd ∧ mg "_law_words" = some (.ref f) := by
      refine' L2.W3.fact_mk KX G ?a ?l ?c ?k
      (case a => k_is); (case l => k_is); (case c => k_is); (case k => k_is)
    obtain ⟨a__law_longer, fd__law_longer, F__law_longer, g__law_longer⟩ : ∃ f fd, L2.Fun _ "_law_longer" "_law_longer" L2.W3.K33.s__law_longer f fd ∧ mg "_law_longer" = some (.ref f) := by
      refine' L2.W3.fact_mk KX G ?a ?l ?c ?k
      (case a => k_is); (case l => k_is); (case c => k_is); (case k => k_is)
    obtain ⟨a__law_first, fd__law_first, F__law_first, g__law_first⟩ : ∃ f fd, L2.Fun _ "_law_first" "_law_first" L2.W3.K33.s__law_first f fd ∧ mg "_law_first" = some (.ref f) := by
      refine' L2.W3.fact_mk KX G ?a ?l ?c ?k
      (case a => k_is); (case l => k_is); (case c => k_is); (case k => k_is)
    obtain ⟨a__law_counted, fd__law_counted, F__law_counted, g__law_counted⟩ : ∃ f fd, L2.Fun _ "_law_counted" "_law_counted" L2.W3.K33.s__law_counted f fd ∧ mg "_law_counted" = some (.ref f) := by
      refine' L2.W3.fact_mk KX G ?a ?l ?c ?k
      (case a => k_is); (case l => k_is); (case c => k_is); (case k => k_is)
    obtain ⟨a__law_fine, fd__law_fine, F__law_fine, g__law_fine⟩ : ∃ f fd, L2.Fun _ "_law_fine" "_law_fine" L2.W3.K33.s__law_fine f fd ∧ mg "_law_fine" = some (.ref f) := by
      refine' L2.W3.fact_mk KX G ?a ?l ?c ?k
      (case a => k_is); (case l => k_is); (case c => k_is); (case k => k_is)
    obtain ⟨a_law, fd_law, F_law, g_law⟩ : ∃ f fd, L2.Fun _ "law" "law" L2.W3.K33.s_law f fd ∧ mg "law" = some (.ref f) := by
      refine' L2.W3.fact_mk KX G ?a ?l ?c ?k
      (case a => k_is); (case l => k_is); (case c => k_is); (case k => k_is)
    have z_abs : mg "abs" = none := by
      refine' PySem.W.mg_none_of KX G ?z
      (case z => k_is)
    have z_all : mg "all" = none := by
      refine' PySem.W.mg_none_of KX G ?z
      (case z => k_is)
    have z_any : mg "any" = none := by
      refine' PySem.W.mg_none_of KX G ?z
      (case z => k_is)
    have z_bool : mg "bool" = none := by
      refine' PySem.W.mg_none_of KX G ?z
      (case z => k_is)
    have z_enumerate : mg "enumerate" = none := by
      refine' PySem.W.mg_none_of KX G ?z
      (case z => k_is)
    have z_int : mg "int" = none := by
      refine' PySem.W.mg_none_of KX G ?z
      (case z => k_is)
    have z_isinstance : mg "isinstance" = none := by
      refine' PySem.W.mg_none_of KX G ?z
      (case z => k_is)
    have z_len : mg "len" = none := by
      refine' PySem.W.mg_none_of KX G ?z
      (case z => k_is)
    have z_list : mg "list" = none := by
      refine' PySem.W.mg_none_of KX G ?z
      (case z => k_is)
    have z_max : mg "max" = none := by
      refine' PySem.W.mg_none_of KX G ?z
      (case z => k_is)
    have z_range : mg "range" = none := by
      refine' PySem.W.mg_none_of KX G ?z
      (case z => k_is)
    have z_sorted : mg "sorted" = none := by
      refine' PySem.W.mg_none_of KX G ?z
      (case z => k_is)
    have z_str : mg "str" = none := by
      refine' PySem.W.mg_none_of KX G ?z
      (case z => k_is)
    have z_sum : mg "sum" = none := by
      refine' PySem.W.mg_none_of KX G ?z
      (case z => k_is)
    have z_tuple : mg "tuple" = none := by
      refine' PySem.W.mg_none_of KX G ?z
      (case z => k_is)
    have c_LETTERS := PySem.W.mg_of KX G (n := "LETTERS") (by k_is)
    obtain rfl : a_law = fa := by
      have e := hmg.symm.trans g_law
      cases e
      rfl
    let T : L2.W3.K33.Tx _ mg := ⟨a_common_part, fd_common_part, F_common_part, g_common_part, F_common_part.binds fun _ _ _ _ _ _ us hl => match us, hl with | [_, _], _ => rfl,
      a_ratio, fd_ratio, F_ratio, g_ratio, F_ratio.binds fun _ _ _ _ _ _ us hl => match us, hl with | [_, _], _ => rfl,
      a_plus, fd_plus, F_plus, g_plus, F_plus.binds fun _ _ _ _ _ _ us hl => match us, hl with | [_, _], _ => rfl,
      a_less, fd_less, F_less, g_less, F_less.binds fun _ _ _ _ _ _ us hl => match us, hl with | [_, _], _ => rfl,
      a_power, fd_power, F_power, g_power, F_power.binds fun _ _ _ _ _ _ us hl => match us, hl with | [_, _], _ => rfl,
      a_lengths_sum, fd_lengths_sum, F_lengths_sum, g_lengths_sum, F_lengths_sum.binds fun _ _ _ _ _ _ us hl => match us, hl with | [_, _], _ => rfl,
      a_written, fd_written, F_written, g_written, F_written.binds fun _ _ _ _ _ _ us hl => match us, hl with | [_, _, _], _ => rfl,
      a_code_for, fd_code_for, F_code_for, g_code_for, F_code_for.binds fun _ _ _ _ _ _ us hl => match us, hl with | [_, _], _ => rfl,
      a__law_mix, fd__law_mix, F__law_mix, g__law_mix, F__law_mix.binds fun _ _ _ _ _ _ us hl => match us, hl with | [_], _ => rfl,
      a__law_tape, fd__law_tape, F__law_tape, g__law_tape, F__law_tape.binds fun _ _ _ _ _ _ us hl => match us, hl with | [_], _ => rfl,
      a__law_take, fd__law_take, F__law_take, g__law_take, F__law_take.binds fun _ _ _ _ _ _ us hl => match us, hl with | [_, _], _ => rfl,
      a__law_same, fd__law_same, F__law_same, g__law_same, F__law_same.binds fun _ _ _ _ _ _ us hl => match us, hl with | [_, _], _ => rfl,
      a__law_mixed, fd__law_mixed, F__law_mixed, g__law_mixed, F__law_mixed.binds fun _ _ _ _ _ _ us hl => match us, hl with | [_, _], _ => rfl,
      a__law_power, fd__law_power, F__law_power, g__law_power, F__law_power.binds fun _ _ _ _ _ _ us hl => match us, hl with | [_, _], _ => rfl,
      a__law_lowest, fd__law_lowest, F__law_lowest, g__law_lowest, F__law_lowest.binds fun _ _ _ _ _ _ us hl => match us, hl with | [_, _], _ => rfl,
      a__law_total, fd__law_total, F__law_total, g__law_total, F__law_total.binds fun _ _ _ _ _ _ us hl => match us, hl with | [_, _], _ => rfl,
      a__law_words, fd__law_words, F__law_words, g__law_words, F__law_words.binds fun _ _ _ _ _ _ us hl => match us, hl with | [_, _], _ => rfl,
      a__law_longer, fd__law_longer, F__law_longer, g__law_longer, F__law_longer.binds fun _ _ _ _ _ _ us hl => match us, hl with | [_, _], _ => rfl,
      a__law_first, fd__law_first, F__law_first, g__law_first, F__law_first.binds fun _ _ _ _ _ _ us hl => match us, hl with | [_, _], _ => rfl,
      a__law_counted, fd__law_counted, F__law_counted, g__law_counted, F__law_counted.binds fun _ _ _ _ _ _ us hl => match us, hl with | [_, _], _ => rfl,
      a__law_fine, fd__law_fine, F__law_fine, g__law_fine, F__law_fine.binds fun _ _ _ _ _ _ us hl => match us, hl with | [_, _, _], _ => rfl,
      a_law, fd_law, F_law, g_law, F_law.binds fun _ _ _ _ _ _ us hl => match us, hl with | [_], _ => rfl,
      z_abs,
      z_all,
      z_any,
      z_bool,
      z_enumerate,
      z_int,
      z_isinstance,
      z_len,
      z_list,
      z_max,
      z_range,
      z_sorted,
      z_str,
      z_sum,
      z_tuple,
      ⟨_, c_LETTERS⟩⟩
    exact ⟨fd_law, (by obtain ⟨oc, od, kV, doc, pm, an, cdv, ct, osl, rfl, lk, hcd⟩ := F_law.ex; exact fun s v => .of_eq rfl), fun base _ _ => L2.W3.K33.ok_law T⟩
