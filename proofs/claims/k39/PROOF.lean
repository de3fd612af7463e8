import PyProof.Rows.All
import Wide.All
import OpenK.AllK
import Wide.FinOn
import HandS.ForMost
import HandS.Exc
import HandS.TryOnly
import HandS.ExcOwn
import HandS.WordsExc
import HandS.CallSlots
import HandS.IsInst
import HandS.ExcIs
import HandS.TryMany
import HandS.TupAny
import HandS.TupMul
import HandS.Conv
import HandS.Flow
import HandS.Gcd
import KE.KMathGC
import HandS.Dict
import HandS.Star
import PySem.Challenge.RW_reactivesynth_k39_respond_and_trace
/-! ## MnA -/
set_option Elab.async false
set_option linter.all false
set_option maxRecDepth 100000
/-! Mn, part A: mini values, mini heaps, and how the layer's abstract heap bears them. -/
namespace Mn
open PySem PySem.Spec PyProof.Rows L2

structure Gm where
  cls : Str → Addr
  fld : Str → Str
inductive MV where
  | non | bl (b : Bool) | int (i : Int) | str (x : Str)
  | tup (xs : List MV) | fl (xs : List MV) | sl (xs : List MV)
  | ob (C : Str) (ks : List Str) (xs : List MV)
  | ref (n : Nat)
  | exo (a : Addr) (d : Option Addr) (C : Str) (xs : List MV)
instance : Inhabited MV := ⟨.non⟩
inductive Cell where
  | lst (xs : List MV) | dct (kvs : List (MV × MV)) | ins (C : Str) (ks : List Str) (xs : List MV) | dead
abbrev MH := List Cell
inductive Out (α : Type) where
  | ok (a : α) (h : MH) | exc (C : Str) (xs : List MV) (h : MH) | stuck
abbrev MEnv := List (Option MV)
abbrev ME := MEnv → MH → Out MV
abbrev MA := MEnv → MH → Out (List MV)
abbrev MT := MEnv → MH → Out Bool
abbrev MI := MEnv → MH → Out (Option Int)
abbrev MF := List MV → MH → Out MV
@[reducible] def Out.bind {α β : Type} (x : Out α) (f : α → MH → Out β) : Out β :=
  match x with
  | .ok a h => f a h
  | .exc C xs h => .exc C xs h
  | .stuck => .stuck

/-- the shape: what is frozen, where the cells lie -/
structure Sh where
  Hs : Hp
  ι : List Addr

section
variable (Γ : Gm) (K : PySem.W.Frag) (S : Sh)
mutual
def Rep : MV → V → Prop
  | .non, v => v = .non
  | .bl b, v => v = .bl b
  | .int i, v => v = .int i
  | .str x, v => v = .str x
  | .tup xs, v => ∃ a us, v = .ref a ∧ SqT K S.Hs a us ∧ RepL xs us
  | .fl xs, v => ∃ a us, v = .ref a ∧ S.Hs a = some (.lst us) ∧ RepL xs us
  | .sl xs, v => ∃ a us, v = .ref a ∧ SqL K S.Hs a us ∧ RepL xs us
  | .ob C ks xs, v => ∃ a dx us, v = .ref a ∧ S.Hs a = some (.ins (Γ.cls C) dx (ks.zip us)) ∧ us.length = ks.length ∧ RepL xs us
  | .ref n, v => ∃ a, S.ι[n]? = some a ∧ v = .ref a
  | .exo a d C xs, v => v = .ref a ∧ ∃ us, ((us = [] ∧ d = none) ∨ ∃ dd u, us = [u] ∧ d = some dd ∧ S.Hs dd = some (.xd [(Γ.fld C, u)])) ∧ RepL xs us
def RepL : List MV → List V → Prop
  | [], us => us = []
  | x :: xs, us => ∃ u r, us = u :: r ∧ Rep x u ∧ RepL xs r
end
/-- entries of a dict with int and text keys -/
def keyV : MV → Option Key
  | .int i => some (.inl i)
  | .str x => some (.inr x)
  | _ => none
def RepD : List (MV × MV) → List (Key × V) → Prop
  | [], us => us = []
  | x :: xs, us => ∃ k u r, us = (k, u) :: r ∧ keyV x.1 = some k ∧ Rep Γ K S x.2 u ∧ RepD xs r
def CellOk (H : Hp) (a : Addr) : Cell → Prop
  | .lst xs => S.Hs a = none ∧ ∃ us, H a = some (.lst us) ∧ RepL Γ K S xs us
  | .dct kvs => S.Hs a = none ∧ ∃ us, H a = some (.dK us) ∧ RepD Γ K S kvs us
  | .ins C ks xs => S.Hs a = none ∧ ∃ dx us, H a = some (.ins (Γ.cls C) dx (ks.zip us)) ∧ us.length = ks.length ∧ RepL Γ K S xs us
  | .dead => True
structure Rel (h : MH) (H : Hp) : Prop where
  sub : ∀ a o, S.Hs a = some o → H a = some o
  len : S.ι.length = h.length
  nd : S.ι.Nodup
  trk : ∀ a ∈ S.ι, ∃ o, H a = some o
  cell : ∀ (n : Nat) (c : Cell) (a : Addr), h[n]? = some c → S.ι[n]? = some a → CellOk Γ K S H a c
def REnv (env : MEnv) (σ : L2.St) : Prop := env.length = σ.length ∧ ∀ (i : Nat) (d : MV), env[i]? = some (some d) → ∃ v, σ[i]? = some (some v) ∧ Rep Γ K S d v
end
structure Ext (S : Sh) (H : Hp) (S' : Sh) (H' : Hp) : Prop where
  hs : ∀ a o, S.Hs a = some o → S'.Hs a = some o
  ix : ∀ (n : Nat) (a : Addr), S.ι[n]? = some a → S'.ι[n]? = some a
  fr : ∀ a o, H a = some o → S.Hs a = none → a ∉ S.ι → H' a = some o ∧ S'.Hs a = none ∧ a ∉ S'.ι
theorem Ext.refl (S : Sh) (H : Hp) : Ext S H S H := ⟨fun _ _ h => h, fun _ _ h => h, fun _ _ h1 h2 h3 => ⟨h1, h2, h3⟩⟩
theorem Ext.trans {S S1 S2 : Sh} {H H1 H2 : Hp} (a : Ext S H S1 H1) (b : Ext S1 H1 S2 H2) : Ext S H S2 H2 :=
  ⟨fun x o h => b.hs x o (a.hs x o h), fun n x h => b.ix n x (a.ix n x h), fun x o h1 h2 h3 => by
    obtain ⟨q1, q2, q3⟩ := a.fr x o h1 h2 h3
    exact b.fr x o q1 q2 q3⟩

section
variable {Γ : Gm} {K : PySem.W.Frag} {S S' : Sh} {H H' : Hp} {h : MH}
theorem sqT_mono {a : Addr} {us : List V} (e : ∀ a o, S.Hs a = some o → S'.Hs a = some o) (q : SqT K S.Hs a us) : SqT K S'.Hs a us := by
  rcases q with (q | ⟨o, q⟩) | q
  · exact .inl (.inl (e _ _ q))
  · exact .inl (.inr ⟨o, e _ _ q⟩)
  · exact .inr q
theorem sqL_mono {a : Addr} {us : List V} (e : ∀ a o, S.Hs a = some o → S'.Hs a = some o) (q : SqL K S.Hs a us) : SqL K S'.Hs a us := by
  rcases q with (q | ⟨o, q⟩) | q
  · exact .inl (.inl (e _ _ q))
  · exact .inl (.inr ⟨o, e _ _ q⟩)
  · exact .inr q
mutual
theorem rep_mono (e : ∀ a o, S.Hs a = some o → S'.Hs a = some o) (i : ∀ (n : Nat) (a : Addr), S.ι[n]? = some a → S'.ι[n]? = some a) : ∀ (d : MV) (v : V), Rep Γ K S d v → Rep Γ K S' d v
  | .non, v, q => by unfold Rep at *; exact q
  | .bl b, v, q => by unfold Rep at *; exact q
  | .int _, v, q => by unfold Rep at *; exact q
  | .str x, v, q => by unfold Rep at *; exact q
  | .tup xs, v, q => by
    unfold Rep at *
    obtain ⟨a, us, e1, e2, e3⟩ := q
    exact ⟨a, us, e1, sqT_mono e e2, repL_mono e i xs us e3⟩
  | .fl xs, v, q => by
    unfold Rep at *
    obtain ⟨a, us, e1, e2, e3⟩ := q
    exact ⟨a, us, e1, e _ _ e2, repL_mono e i xs us e3⟩
  | .sl xs, v, q => by
    unfold Rep at *
    obtain ⟨a, us, e1, e2, e3⟩ := q
    exact ⟨a, us, e1, sqL_mono e e2, repL_mono e i xs us e3⟩
  | .ob C ks xs, v, q => by
    unfold Rep at *
    obtain ⟨a, dx, us, e1, e2, e4, e3⟩ := q
    exact ⟨a, dx, us, e1, e _ _ e2, e4, repL_mono e i xs us e3⟩
  | .ref n, v, q => by
    unfold Rep at *
    obtain ⟨a, e1, e2⟩ := q
    exact ⟨a, i _ _ e1, e2⟩
  | .exo a d C xs, v, q => by
    unfold Rep at *
    obtain ⟨e1, us, e2, e3⟩ := q
    refine ⟨e1, us, ?_, repL_mono e i xs us e3⟩
    rcases e2 with e2 | ⟨dd, u, f1, f2, f3⟩
    · exact .inl e2
    · exact .inr ⟨dd, u, f1, f2, e _ _ f3⟩
theorem repL_mono (e : ∀ a o, S.Hs a = some o → S'.Hs a = some o) (i : ∀ (n : Nat) (a : Addr), S.ι[n]? = some a → S'.ι[n]? = some a) : ∀ (ds : List MV) (vs : List V), RepL Γ K S ds vs → RepL Γ K S' ds vs
  | [], v, q => by unfold RepL at *; exact q
  | d :: ds, v, q => by
    unfold RepL at *
    obtain ⟨u, r, e1, e2, e3⟩ := q
    exact ⟨u, r, e1, rep_mono e i d u e2, repL_mono e i ds r e3⟩
end
theorem Rep.ext {d : MV} {v : V} (q : Rep Γ K S d v) (e : Ext S H S' H') : Rep Γ K S' d v := rep_mono e.hs e.ix d v q
theorem RepL.ext {d : List MV} {v : List V} (q : RepL Γ K S d v) (e : Ext S H S' H') : RepL Γ K S' d v := repL_mono e.hs e.ix d v q
theorem RepD.mono (e : ∀ a o, S.Hs a = some o → S'.Hs a = some o) (i : ∀ (n : Nat) (a : Addr), S.ι[n]? = some a → S'.ι[n]? = some a) : ∀ {d : List (MV × MV)} {v : List (Key × V)}, RepD Γ K S d v → RepD Γ K S' d v
  | [], _, q => q
  | _ :: _, _, ⟨k, u, r, e1, e2, e3, e4⟩ => ⟨k, u, r, e1, e2, rep_mono e i _ _ e3, RepD.mono e i e4⟩
theorem REnv.mono {env : MEnv} {σ : L2.St} (q : REnv Γ K S env σ) (e : Ext S H S' H') : REnv Γ K S' env σ :=
  ⟨q.1, fun i d h => let ⟨v, h1, h2⟩ := q.2 i d h; ⟨v, h1, h2.ext e⟩⟩
theorem CellOk.mono {a : Addr} {c : Cell} (q : CellOk Γ K S H a c) (e : ∀ a o, S.Hs a = some o → S'.Hs a = some o) (i : ∀ (n : Nat) (a : Addr), S.ι[n]? = some a → S'.ι[n]? = some a) (ha : S.Hs a = none → S'.Hs a = none) (hH : ∀ o, H a = some o → H' a = some o) : CellOk Γ K S' H' a c := by
  cases c with
  | lst xs => obtain ⟨z, us, e1, e2⟩ := q; exact ⟨ha z, us, hH _ e1, repL_mono e i _ _ e2⟩
  | dct kvs => obtain ⟨z, us, e1, e2⟩ := q; exact ⟨ha z, us, hH _ e1, RepD.mono e i e2⟩
  | ins C ks xs => obtain ⟨z, dx, us, e1, e3, e2⟩ := q; exact ⟨ha z, dx, us, hH _ e1, e3, repL_mono e i _ _ e2⟩
  | dead => trivial

/-! ### steps of the relation -/
variable (R : Rel Γ K S h H)
include R
/-- a new object, frozen at once -/
theorem Rel.froz {p : Addr} {o : HO} (hp : H p = none) : Rel Γ K ⟨upd S.Hs p o, S.ι⟩ h (upd H p o) ∧ Ext S H ⟨upd S.Hs p o, S.ι⟩ (upd H p o) := by
  have np : ∀ b u, S.Hs b = some u → b ≠ p := fun b u e z => by
    rw [z] at e
    rw [R.sub _ _ e] at hp; cases hp
  have nι : p ∉ S.ι := fun hm => by
    obtain ⟨o', e⟩ := R.trk p hm
    rw [e] at hp; cases hp
  have m1 : ∀ a u, S.Hs a = some u → upd S.Hs p o a = some u := fun a u e => by rw [upd_ne (np a u e)]; exact e
  refine ⟨⟨fun a u e => ?_, R.len, R.nd, fun a hm => ?_, fun n c a h1 h2 => ?_⟩, ⟨m1, fun _ _ e => e, fun a u e1 e2 e3 => ?_⟩⟩
  · by_cases ha : a = p
    · subst ha
      rw [upd_same]
      have e' : upd S.Hs a o a = some u := e
      rw [upd_same] at e'; exact e'
    · have e' : upd S.Hs p o a = some u := e
      rw [upd_ne ha] at e' ⊢
      exact R.sub _ _ e'
  · obtain ⟨u, e⟩ := R.trk a hm
    exact ⟨u, by rw [upd_ne (ne_of_none e hp)]; exact e⟩
  · have hm : a ∈ S.ι := List.mem_of_getElem? h2
    have na : a ≠ p := fun z => nι (z ▸ hm)
    refine (R.cell n c a h1 h2).mono m1 (fun _ _ e => e) (fun z => ?_) (fun u e => ?_)
    · show upd S.Hs p o a = none
      rw [upd_ne na]; exact z
    · rw [upd_ne na]; exact e
  · have na : a ≠ p := ne_of_none e1 hp
    refine ⟨by rw [upd_ne na]; exact e1, ?_, e3⟩
    show upd S.Hs p o a = none
    rw [upd_ne na]; exact e2
/-- a new object, a cell -/
theorem Rel.alloc {p : Addr} {o : HO} {c : Cell} (hp : H p = none) (hc : ∀ S' : Sh, S'.Hs = S.Hs → S'.ι = S.ι ++ [p] → CellOk Γ K S' (upd H p o) p c) :
    Rel Γ K ⟨S.Hs, S.ι ++ [p]⟩ (h ++ [c]) (upd H p o) ∧ Ext S H ⟨S.Hs, S.ι ++ [p]⟩ (upd H p o) := by
  have nι : p ∉ S.ι := fun hm => by
    obtain ⟨o', e⟩ := R.trk p hm
    rw [e] at hp; cases hp
  have m2 : ∀ (n : Nat) (a : Addr), S.ι[n]? = some a → (S.ι ++ [p])[n]? = some a := fun n a e => by
    rw [List.getElem?_append_left (List.getElem?_eq_some_iff.mp e).1]; exact e
  refine ⟨⟨fun a u e => ?_, ?_, ?_, fun a hm => ?_, fun n c' a h1 h2 => ?_⟩, ⟨fun _ _ e => e, m2, fun a u e1 e2 e3 => ?_⟩⟩
  · have q := R.sub a u e
    rw [upd_ne (ne_of_none q hp)]; exact q
  · show (S.ι ++ [p]).length = (h ++ [c]).length
    rw [List.length_append, List.length_append, R.len]; rfl
  · show (S.ι ++ [p]).Nodup
    rw [List.nodup_append]
    refine ⟨R.nd, by simp, fun a ha b hb => ?_⟩
    have : b = p := by simpa using hb
    subst this
    exact fun z => nι (z ▸ ha)
  · have hm' : a ∈ S.ι ++ [p] := hm
    rcases List.mem_append.mp hm' with hm' | hm'
    · obtain ⟨u, e⟩ := R.trk a hm'
      exact ⟨u, by rw [upd_ne (ne_of_none e hp)]; exact e⟩
    · have : a = p := by simpa using hm'
      subst this
      exact ⟨o, upd_same⟩
  · have h2' : (S.ι ++ [p])[n]? = some a := h2
    by_cases hn : n < h.length
    · rw [List.getElem?_append_left hn] at h1
      rw [List.getElem?_append_left (by rw [R.len]; exact hn)] at h2'
      have hm : a ∈ S.ι := List.mem_of_getElem? h2'
      have na : a ≠ p := fun z => nι (z ▸ hm)
      refine (R.cell n c' a h1 h2').mono (S' := ⟨S.Hs, S.ι ++ [p]⟩) (fun _ _ e => e) m2 (fun z => z) (fun u e => ?_)
      rw [upd_ne na]; exact e
    · have hn' : n = h.length := by
        have := (List.getElem?_eq_some_iff.mp h1).1
        rw [List.length_append] at this
        simp only [List.length_cons, List.length_nil] at this
        omega
      subst hn'
      rw [List.getElem?_append_right (Nat.le_refl _), Nat.sub_self] at h1
      rw [List.getElem?_append_right (by rw [R.len]; exact Nat.le_refl _), R.len, Nat.sub_self] at h2'
      simp only [List.getElem?_cons_zero, Option.some.injEq] at h1 h2'
      subst h1 h2'
      exact hc _ rfl rfl
  · have na : a ≠ p := ne_of_none e1 hp
    refine ⟨by rw [upd_ne na]; exact e1, e2, fun hm => ?_⟩
    have hm' : a ∈ S.ι ++ [p] := hm
    rcases List.mem_append.mp hm' with hm' | hm'
    · exact e3 hm'
    · exact na (by simpa using hm')
/-- a cell written -/
theorem Rel.store {n : Nat} {a : Addr} {o : HO} {c : Cell} (hn : S.ι[n]? = some a) (hs : S.Hs a = none) (hc : CellOk Γ K S (upd H a o) a c) : Rel Γ K S (h.set n c) (upd H a o) ∧ Ext S H S (upd H a o) := by
  have hm : a ∈ S.ι := List.mem_of_getElem? hn
  refine ⟨⟨fun b u e => ?_, by rw [List.length_set]; exact R.len, R.nd, fun b hb => ?_, fun k c' b h1 h2 => ?_⟩, ⟨fun _ _ e => e, fun _ _ e => e, fun b u e1 e2 e3 => ⟨?_, e2, e3⟩⟩⟩
  · have nb : b ≠ a := fun z => by rw [z, hs] at e; cases e
    rw [upd_ne nb]; exact R.sub b u e
  · by_cases hb' : b = a
    · subst hb'; exact ⟨o, upd_same⟩
    · obtain ⟨u, e⟩ := R.trk b hb
      exact ⟨u, by rw [upd_ne hb']; exact e⟩
  · by_cases hk : n = k
    · subst hk
      rw [hn] at h2; cases h2
      have hl : n < h.length := by
        have := (List.getElem?_eq_some_iff.mp h1).1
        rw [List.length_set] at this; exact this
      rw [List.getElem?_set_self hl] at h1
      cases h1
      exact hc
    · rw [List.getElem?_set_ne hk] at h1
      have nb : b ≠ a := fun z => by
        subst z
        obtain ⟨l1, q1⟩ := List.getElem?_eq_some_iff.mp hn
        obtain ⟨l2, q2⟩ := List.getElem?_eq_some_iff.mp h2
        exact hk ((List.getElem_inj R.nd).mp (q1.trans q2.symm))
      exact (R.cell k c' b h1 h2).mono (fun _ _ e => e) (fun _ _ e => e) (fun z => z) (fun u e => by rw [upd_ne nb]; exact e)
  · have nb : b ≠ a := fun z => e3 (z ▸ hm)
    rw [upd_ne nb]; exact e1
/-- a cell frozen for good -/
theorem Rel.freeze {n : Nat} {a : Addr} {o : HO} (hn : S.ι[n]? = some a) (hs : S.Hs a = none) (ho : H a = some o) : Rel Γ K ⟨upd S.Hs a o, S.ι⟩ (h.set n .dead) H ∧ Ext S H ⟨upd S.Hs a o, S.ι⟩ H := by
  have hm : a ∈ S.ι := List.mem_of_getElem? hn
  have m1 : ∀ b u, S.Hs b = some u → upd S.Hs a o b = some u := fun b u e => by
    have nb : b ≠ a := fun z => by rw [z, hs] at e; cases e
    rw [upd_ne nb]; exact e
  refine ⟨⟨fun b u e => ?_, by rw [List.length_set]; exact R.len, R.nd, R.trk, fun k c' b h1 h2 => ?_⟩, ⟨m1, fun _ _ e => e, fun b u e1 e2 e3 => ⟨e1, ?_, e3⟩⟩⟩
  · have e' : upd S.Hs a o b = some u := e
    by_cases hb : b = a
    · subst hb
      rw [upd_same] at e'; cases e'; exact ho
    · rw [upd_ne hb] at e'
      exact R.sub b u e'
  · by_cases hk : n = k
    · subst hk
      have hl : n < h.length := by
        have := (List.getElem?_eq_some_iff.mp h1).1
        rw [List.length_set] at this; exact this
      rw [List.getElem?_set_self hl] at h1
      cases h1
      trivial
    · rw [List.getElem?_set_ne hk] at h1
      have h2' : S.ι[k]? = some b := h2
      have nb : b ≠ a := fun z => by
        subst z
        obtain ⟨l1, q1⟩ := List.getElem?_eq_some_iff.mp hn
        obtain ⟨l2, q2⟩ := List.getElem?_eq_some_iff.mp h2'
        exact hk ((List.getElem_inj R.nd).mp (q1.trans q2.symm))
      refine (R.cell k c' b h1 h2').mono m1 (fun _ _ e => e) (fun z => ?_) (fun u e => e)
      show upd S.Hs a o b = none
      rw [upd_ne nb]; exact z
  · have nb : b ≠ a := fun z => e3 (z ▸ hm)
    show upd S.Hs a o b = none
    rw [upd_ne nb]; exact e2
end
end Mn
/-! ## MnB -/
set_option Elab.async false
set_option linter.all false
set_option maxRecDepth 100000
/-! Mn, part B: judgements with mirrors; expressions. -/
namespace Mn
open PySem PySem.Spec PyProof.Rows L2

section
variable (Γ : Gm) (K : PySem.W.Frag)
def RepX (C : Str) (xs : List MV) (dd : Option Addr) (S : Sh) (H : Hp) : Prop :=
  match xs with
  | [] => dd = none
  | [x] => ∃ d v, dd = some d ∧ S.Hs d = some (.xd [(Γ.fld C, v)]) ∧ Rep Γ K S x v
  | _ => False
def Post {α β : Type} (R : Sh → α → β → Prop) (S : Sh) (H : Hp) (Q : β → Hp → Prop) (E : XK) : Out α → Prop
  | .ok a h => ∀ S' H' b, Ext S H S' H' → Rel Γ K S' h H' → R S' a b → Q b H'
  | .exc C xs h => ∀ S' H' dd, Ext S H S' H' → Rel Γ K S' h H' → RepX Γ K C xs dd S' H' → E (.ref (Γ.cls C)) dd H'
  | .stuck => False
end
section
variable {Γ : Gm} {K : PySem.W.Frag} {α β γ δ : Type} {R : Sh → α → β → Prop} {R' : Sh → γ → δ → Prop} {S S1 : Sh} {H H1 : Hp} {Q : β → Hp → Prop} {Q' : δ → Hp → Prop} {E E' : XK}
theorem Post.ext {o : Out α} (p : Post Γ K R S H Q E o) (e : Ext S H S1 H1) : Post Γ K R S1 H1 Q E o := by
  cases o with
  | ok a h => exact fun S' H' b e' => p S' H' b (e.trans e')
  | exc C xs h => exact fun S' H' dd e' => p S' H' dd (e.trans e')
  | stuck => exact p
theorem Post.bind {x : Out α} {f : α → MH → Out γ} (hp : Post Γ K R' S H Q' E (x.bind f))
    (k : ∀ a h1 S1 H1 b, x = .ok a h1 → Ext S H S1 H1 → Rel Γ K S1 h1 H1 → R S1 a b → Post Γ K R' S1 H1 Q' E (f a h1) → Q b H1) : Post Γ K R S H Q E x := by
  cases x with
  | ok a h => exact fun S' H' b e r q => k a h S' H' b rfl e r q (Post.ext hp e)
  | exc C xs h => exact hp
  | stuck => exact hp
theorem Post.mono {o : Out α} {Q1 : β → Hp → Prop} (p : Post Γ K R S H Q E o) (q : ∀ b H', Q b H' → Q1 b H') : Post Γ K R S H Q1 E o := by
  cases o with
  | ok a h => exact fun S' H' b e r z => q _ _ (p S' H' b e r z)
  | exc C xs h => exact p
  | stuck => exact p
end

/-! ### the judgements -/
abbrev WE' (W : WX) (σ : L2.St) : XK := fun c d H' => W c d σ H'
def ExE (Γ : Gm) (K : PySem.W.Frag) (W : WX) (t : TE) (m : ME) : Prop :=
  ∀ S H h σ env Q, Rel Γ K S h H → REnv Γ K S env σ → Post Γ K (Rep Γ K) S H Q (WE' W σ) (m env h) → t σ H Q
def ExA (Γ : Gm) (K : PySem.W.Frag) (W : WX) (t : TA) (m : MA) : Prop :=
  ∀ S H h σ env Q, Rel Γ K S h H → REnv Γ K S env σ → Post Γ K (RepL Γ K) S H Q (WE' W σ) (m env h) → t σ H Q
def ExT (Γ : Gm) (K : PySem.W.Frag) (W : WX) (t : TT) (m : MT) : Prop :=
  ∀ S H h σ env Q, Rel Γ K S h H → REnv Γ K S env σ → Post Γ K (fun _ (a b : Bool) => b = a) S H Q (WE' W σ) (m env h) → t σ H Q
def ExO (Γ : Gm) (K : PySem.W.Frag) (W : WX) (t : TO) (m : MI) : Prop :=
  ∀ S H h σ env Q, Rel Γ K S h H → REnv Γ K S env σ → Post Γ K (fun _ (a b : Option Int) => b = a) S H Q (WE' W σ) (m env h) → t σ H Q
structure SE (Γ : Gm) (X : Cx) (W : WX) (e : Expr) (m : ME) : Prop where
  ex : ∃ t : TE, PE X e t ∧ ExE Γ X.K W t m
structure SA (Γ : Gm) (X : Cx) (W : WX) (es : List Expr) (m : MA) : Prop where
  ex : ∃ t : TA, PA X es t ∧ ExA Γ X.K W t m
structure ST (Γ : Gm) (X : Cx) (W : WX) (e : Expr) (m : MT) : Prop where
  ex : ∃ t : TT, PT X e t ∧ ExT Γ X.K W t m
structure SW (Γ : Gm) (X : Cx) (W : WX) (e : Expr) (m : MT) : Prop where
  ex : ∃ t : TT, PW X e t ∧ ExT Γ X.K W t m
structure SO (Γ : Gm) (X : Cx) (W : WX) (e : Option Expr) (m : MI) : Prop where
  ex : ∃ t : TO, PO X e t ∧ ExO Γ X.K W t m

/-! ### mirrors -/
def mC (d : MV) : ME := fun _ h => .ok d h
def mV (i : Nat) : ME := fun env h => match env[i]? with
  | some (some d) => .ok d h
  | _ => .stuck
def m1 (f : MV → MH → Out MV) (a : ME) : ME := fun env h => (a env h).bind f
def m2 (f : MV → MV → MH → Out MV) (a b : ME) : ME := fun env h => (a env h).bind fun x h => (b env h).bind fun y h => f x y h
def maN : MA := fun _ h => .ok [] h
def maC (a : ME) (r : MA) : MA := fun env h => (a env h).bind fun x h => (r env h).bind fun xs h => .ok (x :: xs) h
def mF (f : MF) (a : MA) : ME := fun env h => (a env h).bind f
def boolOf (x : MV) (h : MH) : Out Bool := match x with
  | .bl b => .ok b h
  | _ => .stuck
def mT (a : ME) : MT := fun env h => (a env h).bind boolOf
def tAndM (a b : MT) : MT := fun env h => (a env h).bind fun c h => if c = true then b env h else .ok false h
def tOrM (a b : MT) : MT := fun env h => (a env h).bind fun c h => if c = true then .ok true h else b env h
def tNotM (a : MT) : MT := fun env h => (a env h).bind fun c h => .ok (!c) h
def mAnd (a b : ME) : ME := fun env h => (a env h).bind fun x h => (boolOf x h).bind fun c h => if c = true then b env h else .ok (.bl false) h
def mOr (a b : ME) : ME := fun env h => (a env h).bind fun x h => (boolOf x h).bind fun c h => if c = true then .ok (.bl true) h else b env h
def mNot (a : ME) : ME := fun env h => (a env h).bind fun x h => (boolOf x h).bind fun c h => .ok (.bl (!c)) h
def mIf (t : MT) (a b : ME) : ME := fun env h => (t env h).bind fun c h => if c = true then a env h else b env h
def moN : MI := fun _ h => .ok none h
def intOf (x : MV) (h : MH) : Out (Option Int) := match x with
  | .int i => .ok (some i) h
  | _ => .stuck
def moS (a : ME) : MI := fun env h => (a env h).bind intOf

section
variable {Γ : Gm} {X : Cx} {W : WX} {e a b c : Expr} {es rest : List Expr} {pos : Pos} {ma mb mc : ME} {ms : MA} {mt mu : MT}

/-- how an operation by values is lifted -/
def Lift2 (Γ : Gm) (K : PySem.W.Frag) (r : R2) (f : MV → MV → MH → Out MV) : Prop :=
  ∀ S H h x y u v Q E, Rel Γ K S h H → Rep Γ K S x u → Rep Γ K S y v → Post Γ K (Rep Γ K) S H Q E (f x y h) → r u v H Q
def Lift1 (Γ : Gm) (K : PySem.W.Frag) (r : V → Hp → VK → Prop) (f : MV → MH → Out MV) : Prop :=
  ∀ S H h x u Q E, Rel Γ K S h H → Rep Γ K S x u → Post Γ K (Rep Γ K) S H Q E (f x h) → r u H Q
def LiftF (Γ : Gm) (K : PySem.W.Frag) (r : List V → Hp → VK → Prop) (f : MF) : Prop :=
  ∀ S H h x u Q E, Rel Γ K S h H → RepL Γ K S x u → Post Γ K (Rep Γ K) S H Q E (f x h) → r u H Q

/-- a value handed out as it is -/
theorem Post.val {K : PySem.W.Frag} {S : Sh} {H : Hp} {Q : VK} {E : XK} {d : MV} {v : V} {h : MH} (p : Post Γ K (Rep Γ K) S H Q E (.ok d h)) (R : Rel Γ K S h H) (r : Rep Γ K S d v) : Q v H := p S H v (Ext.refl _ _) R r

theorem exE_bind {K : PySem.W.Frag} {t : TE} {m : ME} {γ δ : Type} {R' : Sh → γ → δ → Prop} {f : MV → MH → Out γ} {S : Sh} {H : Hp} {h : MH} {σ : L2.St} {env : MEnv} {Q' : δ → Hp → Prop} {QQ : VK} (ht : ExE Γ K W t m) (R : Rel Γ K S h H) (G : REnv Γ K S env σ)
    (hp : Post Γ K R' S H Q' (WE' W σ) ((m env h).bind f))
    (k : ∀ a h1 S1 H1 v, Ext S H S1 H1 → Rel Γ K S1 h1 H1 → REnv Γ K S1 env σ → Rep Γ K S1 a v → Post Γ K R' S1 H1 Q' (WE' W σ) (f a h1) → QQ v H1) : t σ H QQ :=
  ht S H h σ env QQ R G (Post.bind hp fun a h1 S1 H1 v _ e r q p => k a h1 S1 H1 v e r (G.mono e) q p)
theorem exA_bind {K : PySem.W.Frag} {t : TA} {m : MA} {γ δ : Type} {R' : Sh → γ → δ → Prop} {f : List MV → MH → Out γ} {S : Sh} {H : Hp} {h : MH} {σ : L2.St} {env : MEnv} {Q' : δ → Hp → Prop} {QQ : List V → Hp → Prop} (ht : ExA Γ K W t m) (R : Rel Γ K S h H) (G : REnv Γ K S env σ)
    (hp : Post Γ K R' S H Q' (WE' W σ) ((m env h).bind f))
    (k : ∀ a h1 S1 H1 v, Ext S H S1 H1 → Rel Γ K S1 h1 H1 → REnv Γ K S1 env σ → RepL Γ K S1 a v → Post Γ K R' S1 H1 Q' (WE' W σ) (f a h1) → QQ v H1) : t σ H QQ :=
  ht S H h σ env QQ R G (Post.bind hp fun a h1 S1 H1 v _ e r q p => k a h1 S1 H1 v e r (G.mono e) q p)
theorem exT_bind {K : PySem.W.Frag} {t : TT} {m : MT} {γ δ : Type} {R' : Sh → γ → δ → Prop} {f : Bool → MH → Out γ} {S : Sh} {H : Hp} {h : MH} {σ : L2.St} {env : MEnv} {Q' : δ → Hp → Prop} {QQ : Bool → Hp → Prop} (ht : ExT Γ K W t m) (R : Rel Γ K S h H) (G : REnv Γ K S env σ)
    (hp : Post Γ K R' S H Q' (WE' W σ) ((m env h).bind f))
    (k : ∀ a h1 S1 H1, Ext S H S1 H1 → Rel Γ K S1 h1 H1 → REnv Γ K S1 env σ → Post Γ K R' S1 H1 Q' (WE' W σ) (f a h1) → QQ a H1) : t σ H QQ :=
  ht S H h σ env QQ R G (Post.bind hp fun a h1 S1 H1 v _ e r q p => by
    have q' : v = a := q
    subst q'
    exact k v h1 S1 H1 e r (G.mono e) p)
theorem exO_bind {K : PySem.W.Frag} {t : TO} {m : MI} {γ δ : Type} {R' : Sh → γ → δ → Prop} {f : Option Int → MH → Out γ} {S : Sh} {H : Hp} {h : MH} {σ : L2.St} {env : MEnv} {Q' : δ → Hp → Prop} {QQ : Option Int → Hp → Prop} (ht : ExO Γ K W t m) (R : Rel Γ K S h H) (G : REnv Γ K S env σ)
    (hp : Post Γ K R' S H Q' (WE' W σ) ((m env h).bind f))
    (k : ∀ a h1 S1 H1, Ext S H S1 H1 → Rel Γ K S1 h1 H1 → REnv Γ K S1 env σ → Post Γ K R' S1 H1 Q' (WE' W σ) (f a h1) → QQ a H1) : t σ H QQ :=
  ht S H h σ env QQ R G (Post.bind hp fun a h1 S1 H1 v _ e r q p => by
    have q' : v = a := q
    subst q'
    exact k v h1 S1 H1 e r (G.mono e) p)

theorem se_int {i j p} : SE Γ X W (.Constant (.int i) j p) (mC (.int i)) := ⟨_, pe_int, fun S H h σ env Q R G p => p.val R (by unfold Rep; rfl)⟩
theorem se_bl {i j p} : SE Γ X W (.Constant (.bool i) j p) (mC (.bl i)) := ⟨_, pe_bl, fun S H h σ env Q R G p => p.val R (by unfold Rep; rfl)⟩
theorem se_non {j p} : SE Γ X W (.Constant .none j p) (mC .non) := ⟨_, pe_non, fun S H h σ env Q R G p => p.val R (by unfold Rep; rfl)⟩
theorem se_str {i j p} : SE Γ X W (.Constant (.str i) j p) (mC (.str i)) := ⟨_, pe_str, fun S H h σ env Q R G p => p.val R (by unfold Rep; rfl)⟩
theorem se_v (i : Nat) {x : Str} {p : Pos} (hN : X.N[i]? = some x := by rfl) (hv : Vis X.env.scope x := by first | exact Or.inl rfl | exact Or.inr (Or.inl rfl) | exact Or.inr (Or.inr rfl)) (hd : (x == ("__debug__" : Str)) = false := by decide)
    (hcd : (x == ("__classdict__" : Str)) = false := by decide) : SE Γ X W (.Name x p) (mV i) := ⟨_, pe_var hN hv hd hcd, fun S H h σ env Q R G q => by
  unfold mV at q
  split at q
  · rename_i d hd
    obtain ⟨v, h1, h2⟩ := G.2 i d hd
    exact ⟨v, h1, q.val R h2⟩
  · exact q.elim⟩
/-- a module's constant -/
theorem se_glob {x : Str} {d : MV} {v : V} {u : Value} {p : Pos} (hg : Gl X x) (hm : X.mg x = some u) (r : RelV v u) (hr : ∀ S, Rep Γ X.K S d v) (hd : (x == ("__debug__" : Str)) = false := by decide) : SE Γ X W (.Name x p) (mC d) := ⟨_, pe_glob hg hm r hd, fun S H h σ env Q R G p => p.val R (hr S)⟩

theorem se_op {op : Operator} {r : R2} {f : MV → MV → MH → Out MV} (ho : OpR X (binaryOp op) r) (hl : Lift2 Γ X.K r f) (ha : SE Γ X W a ma) (hb : SE Γ X W b mb) : SE Γ X W (.BinOp a op b pos) (m2 f ma mb) := by
  obtain ⟨ta, pa, ea⟩ := ha.ex
  obtain ⟨tb, pb, eb⟩ := hb.ex
  exact ⟨_, pe_op ho pa pb, fun S H h σ env Q R G p => exE_bind (t := ta) ea R G p fun x h1 S1 H1 u e1 R1 G1 r1 p1 => exE_bind (t := tb) eb R1 G1 p1 fun y h2 S2 H2 v e2 R2 G2 r2 p2 => hl S2 H2 h2 x y u v Q _ R2 (r1.ext e2) r2 p2⟩
theorem se_cmp {op : CmpOp} {r : R2} {f : MV → MV → MH → Out MV} (ho : OpR X (compareOp op) r) (hl : Lift2 Γ X.K r f) (ha : SE Γ X W a ma) (hb : SE Γ X W b mb) (hm : behindInMarks op b = false := by first | exact nobehind _ (by decide) (by decide) | rfl) : SE Γ X W (.Compare a [op] [b] pos) (m2 f ma mb) := by
  obtain ⟨ta, pa, ea⟩ := ha.ex
  obtain ⟨tb, pb, eb⟩ := hb.ex
  exact ⟨_, pe_cmpR ho pa pb hm, fun S H h σ env Q R G p => exE_bind (t := ta) ea R G p fun x h1 S1 H1 u e1 R1 G1 r1 p1 => exE_bind (t := tb) eb R1 G1 p1 fun y h2 S2 H2 v e2 R2 G2 r2 p2 => hl S2 H2 h2 x y u v Q _ R2 (r1.ext e2) r2 p2⟩
theorem rep_bl {K : PySem.W.Frag} {S : Sh} {c : Bool} {v : V} (r : Rep Γ K S (.bl c) v) : v = .bl c := by unfold Rep at r; exact r
theorem rep_int {K : PySem.W.Frag} {S : Sh} {c : Int} {v : V} (r : Rep Γ K S (.int c) v) : v = .int c := by unfold Rep at r; exact r
theorem rep_str {K : PySem.W.Frag} {S : Sh} {c : Str} {v : V} (r : Rep Γ K S (.str c) v) : v = .str c := by unfold Rep at r; exact r
theorem rep_non {K : PySem.W.Frag} {S : Sh} {v : V} (r : Rep Γ K S .non v) : v = .non := by unfold Rep at r; exact r
theorem is_int {K : PySem.W.Frag} {S : Sh} {c : Int} : Rep Γ K S (.int c) (.int c) := by unfold Rep; rfl
theorem is_bl {K : PySem.W.Frag} {S : Sh} {c : Bool} : Rep Γ K S (.bl c) (.bl c) := by unfold Rep; rfl
theorem is_str {K : PySem.W.Frag} {S : Sh} {c : Str} : Rep Γ K S (.str c) (.str c) := by unfold Rep; rfl
theorem is_non {K : PySem.W.Frag} {S : Sh} : Rep Γ K S .non .non := by unfold Rep; rfl
theorem bool_of {K : PySem.W.Frag} {S : Sh} {H : Hp} {E : XK} {γ δ : Type} {R' : Sh → γ → δ → Prop} {Q : δ → Hp → Prop} {x : MV} {u : V} {h : MH} {f : Bool → MH → Out γ} (r : Rep Γ K S x u) (p : Post Γ K R' S H Q E ((boolOf x h).bind f)) : ∃ c, u = .bl c ∧ Post Γ K R' S H Q E (f c h) := by
  cases x with
  | bl c => exact ⟨c, rep_bl r, p⟩
  | non => exact False.elim p
  | int _ => exact False.elim p
  | str _ => exact False.elim p
  | tup _ => exact False.elim p
  | fl _ => exact False.elim p
  | sl _ => exact False.elim p
  | ob _ _ _ => exact False.elim p
  | ref _ => exact False.elim p
  | exo _ _ _ _ => exact False.elim p
theorem bool_ofT {K : PySem.W.Frag} {S : Sh} {H : Hp} {E : XK} {Q : Bool → Hp → Prop} {x : MV} {u : V} {h : MH} (R : Rel Γ K S h H) (r : Rep Γ K S x u) (p : Post Γ K (fun _ (a b : Bool) => b = a) S H Q E (boolOf x h)) : ∃ c, u = .bl c ∧ Q c H := by
  cases x with
  | bl c => exact ⟨c, rep_bl r, p S H c (Ext.refl _ _) R rfl⟩
  | non => exact False.elim p
  | int _ => exact False.elim p
  | str _ => exact False.elim p
  | tup _ => exact False.elim p
  | fl _ => exact False.elim p
  | sl _ => exact False.elim p
  | ob _ _ _ => exact False.elim p
  | ref _ => exact False.elim p
  | exo _ _ _ _ => exact False.elim p

/-! tests -/
theorem st_cmp {op : CmpOp} {r : R2} {f : MV → MV → MH → Out MV} (ho : OpR X (compareOp op) r) (hl : Lift2 Γ X.K r f) (ha : SE Γ X W a ma) (hb : SE Γ X W b mb) (hm : behindInMarks op b = false := by first | exact nobehind _ (by decide) (by decide) | rfl) : ST Γ X W (.Compare a [op] [b] pos) (mT (m2 f ma mb)) := by
  obtain ⟨ta, pa, ea⟩ := ha.ex
  obtain ⟨tb, pb, eb⟩ := hb.ex
  have hE : ExE Γ X.K W (tOp r ta tb) (m2 f ma mb) := fun S H h σ env Q R G p => exE_bind (t := ta) ea R G p fun x h1 S1 H1 u e1 R1 G1 r1 p1 => exE_bind (t := tb) eb R1 G1 p1 fun y h2 S2 H2 v e2 R2 G2 r2 p2 => hl S2 H2 h2 x y u v Q _ R2 (r1.ext e2) r2 p2
  exact ⟨_, pt_cmpR ho pa pb hm, fun S H h σ env Q R G p => exE_bind (t := tOp r ta tb) hE R G p fun x h1 S1 H1 u e1 R1 G1 r1 p1 => bool_ofT R1 r1 p1⟩
theorem st_val (ha : SE Γ X W e ma) (he : ∀ whole, isTrue e X.env whole = (do let v ← whole; standAt e.pos; holding [v] (truthy v)) := by intro _; rfl) : ST Γ X W e (mT ma) := by
  obtain ⟨ta, pa, ea⟩ := ha.ex
  exact ⟨_, pt_val pa he, fun S H h σ env Q R G p => exE_bind (t := ta) ea R G p fun x h1 S1 H1 u e1 R1 G1 r1 p1 => bool_ofT R1 r1 p1⟩
theorem st_not (ha : ST Γ X W a mt) : ST Γ X W (.UnaryOp .Not a pos) (tNotM mt) := by
  obtain ⟨ta, pa, ea⟩ := ha.ex
  exact ⟨_, pt_not pa, fun S H h σ env Q R G p => exT_bind (t := ta) ea R G p fun x h1 S1 H1 e1 R1 G1 p1 => p1 S1 H1 (!x) (Ext.refl _ _) R1 rfl⟩
theorem SW.st (h : SW Γ X W e mt) : ST Γ X W e mt := by
  obtain ⟨ta, pa, ea⟩ := h.ex
  exact ⟨_, pa.pt, ea⟩
theorem sw_and1 (ha : ST Γ X W a mt) : SW Γ X W (.BoolOp .And [a] pos) mt := by
  obtain ⟨ta, pa, ea⟩ := ha.ex
  exact ⟨_, pw_and1 pa, ea⟩
theorem sw_or1 (ha : ST Γ X W a mt) : SW Γ X W (.BoolOp .Or [a] pos) mt := by
  obtain ⟨ta, pa, ea⟩ := ha.ex
  exact ⟨_, pw_or1 pa, ea⟩
theorem sw_and (ha : ST Γ X W a mt) (hb : SW Γ X W (.BoolOp .And (b :: rest) pos) mu) : SW Γ X W (.BoolOp .And (a :: b :: rest) pos) (tAndM mt mu) := by
  obtain ⟨ta, pa, ea⟩ := ha.ex
  obtain ⟨tb, pb, eb⟩ := hb.ex
  refine ⟨_, pw_and pa pb, fun S H h σ env Q R G p => exT_bind (t := ta) ea R G p fun x h1 S1 H1 e1 R1 G1 p1 => ?_⟩
  cases x with
  | true => exact eb S1 H1 h1 σ env Q R1 G1 p1
  | false => exact p1 S1 H1 _ (Ext.refl _ _) R1 rfl
theorem sw_or (ha : ST Γ X W a mt) (hb : SW Γ X W (.BoolOp .Or (b :: rest) pos) mu) : SW Γ X W (.BoolOp .Or (a :: b :: rest) pos) (tOrM mt mu) := by
  obtain ⟨ta, pa, ea⟩ := ha.ex
  obtain ⟨tb, pb, eb⟩ := hb.ex
  refine ⟨_, pw_or pa pb, fun S H h σ env Q R G p => exT_bind (t := ta) ea R G p fun x h1 S1 H1 e1 R1 G1 p1 => ?_⟩
  cases x with
  | false => exact eb S1 H1 h1 σ env Q R1 G1 p1
  | true => exact p1 S1 H1 _ (Ext.refl _ _) R1 rfl
theorem se_one {op} (ha : SE Γ X W a ma) : SE Γ X W (.BoolOp op [a] pos) ma := by
  obtain ⟨ta, pa, ea⟩ := ha.ex
  exact ⟨_, pe_one pa, ea⟩
theorem se_and (ha : SE Γ X W a ma) (hb : SE Γ X W (.BoolOp .And (b :: rest) pos) mb) : SE Γ X W (.BoolOp .And (a :: b :: rest) pos) (mAnd ma mb) := by
  obtain ⟨ta, pa, ea⟩ := ha.ex
  obtain ⟨tb, pb, eb⟩ := hb.ex
  refine ⟨_, pe_and pa pb, fun S H h σ env Q R G p => exE_bind (t := ta) ea R G p fun x h1 S1 H1 u e1 R1 G1 r1 p1 => ?_⟩
  obtain ⟨c, rfl, p2⟩ := bool_of r1 p1
  refine ⟨c, rfl, ?_⟩
  cases c with
  | true => exact eb S1 H1 h1 σ env Q R1 G1 p2
  | false => exact p2.val R1 is_bl
theorem se_or (ha : SE Γ X W a ma) (hb : SE Γ X W (.BoolOp .Or (b :: rest) pos) mb) : SE Γ X W (.BoolOp .Or (a :: b :: rest) pos) (mOr ma mb) := by
  obtain ⟨ta, pa, ea⟩ := ha.ex
  obtain ⟨tb, pb, eb⟩ := hb.ex
  refine ⟨_, pe_or pa pb, fun S H h σ env Q R G p => exE_bind (t := ta) ea R G p fun x h1 S1 H1 u e1 R1 G1 r1 p1 => ?_⟩
  obtain ⟨c, rfl, p2⟩ := bool_of r1 p1
  refine ⟨c, rfl, ?_⟩
  cases c with
  | false => exact eb S1 H1 h1 σ env Q R1 G1 p2
  | true => exact p2.val R1 is_bl
theorem se_not (ha : SE Γ X W a ma) : SE Γ X W (.UnaryOp .Not a pos) (mNot ma) := by
  obtain ⟨ta, pa, ea⟩ := ha.ex
  refine ⟨_, pe_not pa, fun S H h σ env Q R G p => exE_bind (t := ta) ea R G p fun x h1 S1 H1 u e1 R1 G1 r1 p1 => ?_⟩
  obtain ⟨c, rfl, p2⟩ := bool_of r1 p1
  exact ⟨c, rfl, p2.val R1 is_bl⟩
theorem se_if (ht : ST Γ X W c mt) (ha : SE Γ X W a ma) (hb : SE Γ X W b mb) : SE Γ X W (.IfExp c a b pos) (mIf mt ma mb) := by
  obtain ⟨tc, pc, ec⟩ := ht.ex
  obtain ⟨ta, pa, ea⟩ := ha.ex
  obtain ⟨tb, pb, eb⟩ := hb.ex
  refine ⟨_, pe_ifExp pc pa pb, fun S H h σ env Q R G p => exT_bind (t := tc) ec R G p fun x h1 S1 H1 e1 R1 G1 p1 => ?_⟩
  cases x with
  | true => exact ea S1 H1 h1 σ env Q R1 G1 p1
  | false => exact eb S1 H1 h1 σ env Q R1 G1 p1
/-- an unary operator -/
theorem se_un {op : UnaryOp} {r : V → Hp → VK → Prop} {f : MV → MH → Out MV} (ho : UnR X (unaryOp op) r) (hl : Lift1 Γ X.K r f) (ha : SE Γ X W a ma) : SE Γ X W (.UnaryOp op a pos) (m1 f ma) := by
  obtain ⟨ta, pa, ea⟩ := ha.ex
  exact ⟨_, pe_un ho pa, fun S H h σ env Q R G p => exE_bind (t := ta) ea R G p fun x h1 S1 H1 u e1 R1 G1 r1 p1 => hl S1 H1 h1 x u Q _ R1 r1 p1⟩

/-! argument lists -/
theorem sa_nil : SA Γ X W [] maN := ⟨_, pa_nil, fun S H h σ env Q R G p => p S H [] (Ext.refl _ _) R (by unfold RepL; rfl)⟩
theorem sa_cons (ha : SE Γ X W e ma) (hr : SA Γ X W es ms) (hs : starEach (e :: es) X.env = (false, eval e X.env) :: starEach es X.env := by rfl) : SA Γ X W (e :: es) (maC ma ms) := by
  obtain ⟨ta, pa, ea⟩ := ha.ex
  obtain ⟨tr, pr, er⟩ := hr.ex
  refine ⟨_, pa_cons pa pr hs, fun S H h σ env Q R G p => exE_bind (t := ta) ea R G p fun x h1 S1 H1 u e1 R1 G1 r1 p1 => exA_bind (t := tr) er R1 G1 p1 fun xs h2 S2 H2 us e2 R2 G2 r2 p2 => p2 S2 H2 _ (Ext.refl _ _) R2 ?_⟩
  unfold RepL
  exact ⟨u, us, rfl, r1.ext e2, r2⟩
/-- a built-in called -/
theorem se_callB {x id : String} {p : Pos} {r : List V → Hp → VK → Prop} {f : MF} {es : List Expr} (hc : CallR X (.builtin id) r) (hl : LiftF Γ X.K r f) (hg : Gl X (Str.ofString x)) (hm : X.mg (Str.ofString x) = none) (hv : bootBuiltins (Str.ofString x) = some (.builtin id)) (ha : SA Γ X W (e :: es) ms)
    (hn : (Str.ofString x) ≠ "__name__" := by decide) (hdb : ((Str.ofString x) == ("__debug__" : Str)) = false := by decide)
    (he : starEach (e :: es) X.env = (false, eval e X.env) :: starEach es X.env := by rfl) (hpl : (backTo pos (starEach es X.env)).any (·.1) = false := by rfl) : SE Γ X W (.Call (.Name (Str.ofString x) p) (e :: es) [] pos) (mF f ms) := by
  obtain ⟨ta, pa, ea⟩ := ha.ex
  exact ⟨_, pe_callB hc hg hm hv pa hn hdb he hpl, fun S H h σ env Q R G p => exA_bind (t := ta) ea R G p fun xs h1 S1 H1 us e1 R1 G1 r1 p1 => hl S1 H1 h1 xs us Q _ R1 r1 p1⟩
theorem se_callTy {x T : String} {p : Pos} {r : List V → Hp → VK → Prop} {f : MF} {es : List Expr} (hc : CallR X (.type T) r) (hl : LiftF Γ X.K r f) (hg : Gl X (Str.ofString x)) (hm : X.mg (Str.ofString x) = none) (hv : bootBuiltins (Str.ofString x) = some (.type T)) (ha : SA Γ X W (e :: es) ms)
    (hn : (Str.ofString x) ≠ "__name__" := by decide) (hdb : ((Str.ofString x) == ("__debug__" : Str)) = false := by decide)
    (he : starEach (e :: es) X.env = (false, eval e X.env) :: starEach es X.env := by rfl) (hpl : (backTo pos (starEach es X.env)).any (·.1) = false := by rfl) : SE Γ X W (.Call (.Name (Str.ofString x) p) (e :: es) [] pos) (mF f ms) := by
  obtain ⟨ta, pa, ea⟩ := ha.ex
  exact ⟨_, pe_callTy hc hg hm hv pa hn hdb he hpl, fun S H h σ env Q R G p => exA_bind (t := ta) ea R G p fun xs h1 S1 H1 us e1 R1 G1 r1 p1 => hl S1 H1 h1 xs us Q _ R1 r1 p1⟩
/-- a subscript -/
theorem se_ix {r : R2} {f : MV → MV → MH → Out MV} (hr : IxR X r) (hl : Lift2 Γ X.K r f) (ha : SE Γ X W a ma) (hb : SE Γ X W b mb) (hs : PlainIx b := by exact fun _ _ => rfl) : SE Γ X W (.Subscript a b pos) (m2 f ma mb) := by
  obtain ⟨ta, pa, ea⟩ := ha.ex
  obtain ⟨tb, pb, eb⟩ := hb.ex
  exact ⟨_, pe_ix hr pa pb hs, fun S H h σ env Q R G p => exE_bind (t := ta) ea R G p fun x h1 S1 H1 u e1 R1 G1 r1 p1 => exE_bind (t := tb) eb R1 G1 p1 fun y h2 S2 H2 v e2 R2 G2 r2 p2 => hl S2 H2 h2 x y u v Q _ R2 (r1.ext e2) r2 p2⟩
/-! parts of a slice -/
theorem so_none : SO Γ X W none moN := ⟨_, po_none, fun S H h σ env Q R G p => p S H none (Ext.refl _ _) R rfl⟩
theorem so_some (ha : SE Γ X W e ma) : SO Γ X W (some e) (moS ma) := by
  obtain ⟨ta, pa, ea⟩ := ha.ex
  refine ⟨_, po_some pa, fun S H h σ env Q R G p => exE_bind (t := ta) ea R G p fun x h1 S1 H1 u e1 R1 G1 r1 p1 => ?_⟩
  cases x with
  | int i => exact ⟨i, rep_int r1, p1 S1 H1 _ (Ext.refl _ _) R1 rfl⟩
  | non => exact False.elim p1
  | bl _ => exact False.elim p1
  | str _ => exact False.elim p1
  | tup _ => exact False.elim p1
  | fl _ => exact False.elim p1
  | sl _ => exact False.elim p1
  | ob _ _ _ => exact False.elim p1
  | ref _ => exact False.elim p1
  | exo _ _ _ _ => exact False.elim p1
def Lift3 (Γ : Gm) (K : PySem.W.Frag) (r : V → Option Int → Option Int → Hp → VK → Prop) (f : MV → Option Int → Option Int → MH → Out MV) : Prop :=
  ∀ S H h x u lo hi Q E, Rel Γ K S h H → Rep Γ K S x u → Post Γ K (Rep Γ K) S H Q E (f x lo hi h) → r u lo hi H Q
def mSl (f : MV → Option Int → Option Int → MH → Out MV) (a : ME) (l u : MI) : ME := fun env h => (a env h).bind fun x h => (l env h).bind fun lo h => (u env h).bind fun hi h => f x lo hi h
theorem se_slice {r : V → Option Int → Option Int → Hp → VK → Prop} {f : MV → Option Int → Option Int → MH → Out MV} {lo hi : Option Expr} {p2 : Pos} {ml mh : MI} (hr : SlR X r) (hl : Lift3 Γ X.K r f) (ha : SE Γ X W e ma) (h1 : SO Γ X W lo ml) (h2 : SO Γ X W hi mh) :
    SE Γ X W (.Subscript e (.Slice lo hi none p2) pos) (mSl f ma ml mh) := by
  obtain ⟨ta, pa, ea⟩ := ha.ex
  obtain ⟨tl, pl, el⟩ := h1.ex
  obtain ⟨th, ph, eh⟩ := h2.ex
  exact ⟨_, pe_slice hr pa pl ph, fun S H h σ env Q R G p => exE_bind (t := ta) ea R G p fun x h1 S1 H1 u e1 R1 G1 r1 p1 => exO_bind (t := tl) el R1 G1 p1 fun l h2 S2 H2 e2 R2 G2 p2 => exO_bind (t := th) eh R2 G2 p2 fun k h3 S3 H3 e3 R3 G3 p3 => hl S3 H3 h3 x u l k Q _ R3 ((r1.ext e2).ext e3) p3⟩
end
end Mn
/-! ## MnC -/
set_option Elab.async false
set_option linter.all false
set_option maxRecDepth 100000
/-! Mn, part C: operations by values. -/
namespace Mn
open PySem PySem.Spec PyProof.Rows L2

/-! ### reading sequences -/
def wlst (h : MH) : MV → Option (List MV)
  | .fl xs => some xs
  | .ref n => match h[n]? with
    | some (.lst xs) => some xs
    | _ => none
  | _ => none
def lstAt (h : MH) : MV → Option (List MV)
  | .fl xs => some xs
  | .sl xs => some xs
  | .ref n => match h[n]? with
    | some (.lst xs) => some xs
    | _ => none
  | _ => none
def tupAt : MV → Option (List MV)
  | .tup xs => some xs
  | _ => none
def seqAt (h : MH) (v : MV) : Option (List MV) := match v with
  | .tup xs => some xs
  | v => lstAt h v

section
variable {Γ : Gm} {K : PySem.W.Frag} {S : Sh} {H : Hp} {h : MH} {E : XK} {Q : VK}
theorem repL_len : ∀ {xs : List MV} {us : List V}, RepL Γ K S xs us → xs.length = us.length
  | [], us, r => by unfold RepL at r; rw [r]; rfl
  | x :: xs, us, r => by
    unfold RepL at r
    obtain ⟨u, r', rfl, _, q⟩ := r
    rw [List.length_cons, List.length_cons, repL_len q]
theorem repL_get : ∀ {xs : List MV} {us : List V} {i : Nat} {x : MV}, RepL Γ K S xs us → xs[i]? = some x → ∃ u, us[i]? = some u ∧ Rep Γ K S x u
  | [], _, _, _, _, e => by simp at e
  | x :: xs, us, 0, y, r, e => by
    unfold RepL at r
    obtain ⟨u, r', rfl, q, _⟩ := r
    simp at e; subst e
    exact ⟨u, rfl, q⟩
  | x :: xs, us, i + 1, y, r, e => by
    unfold RepL at r
    obtain ⟨u, r', rfl, _, q⟩ := r
    obtain ⟨v, h1, h2⟩ := repL_get (i := i) q (by simpa using e)
    exact ⟨v, by simpa using h1, h2⟩
theorem repL_nil : RepL Γ K S [] [] := by unfold RepL; rfl
theorem repL_cons {x : MV} {u : V} {xs : List MV} {us : List V} (a : Rep Γ K S x u) (b : RepL Γ K S xs us) : RepL Γ K S (x :: xs) (u :: us) := by
  unfold RepL; exact ⟨u, us, rfl, a, b⟩
theorem repL_app : ∀ {xs ys : List MV} {us vs : List V}, RepL Γ K S xs us → RepL Γ K S ys vs → RepL Γ K S (xs ++ ys) (us ++ vs)
  | [], ys, us, vs, a, b => by unfold RepL at a; subst a; exact b
  | x :: xs, ys, us, vs, a, b => by
    unfold RepL at a
    obtain ⟨u, r', rfl, q, a'⟩ := a
    exact repL_cons q (repL_app a' b)
theorem repL_set {x : MV} {u : V} (q : Rep Γ K S x u) : ∀ {xs : List MV} {us : List V} (i : Nat), RepL Γ K S xs us → RepL Γ K S (xs.set i x) (us.set i u)
  | [], us, i, a => by unfold RepL at a; subst a; exact repL_nil
  | y :: xs, us, 0, a => by
    unfold RepL at a
    obtain ⟨u', r', rfl, _, a'⟩ := a
    exact repL_cons q a'
  | y :: xs, us, i + 1, a => by
    unfold RepL at a
    obtain ⟨u', r', rfl, q', a'⟩ := a
    exact repL_cons q' (repL_set q i a')
theorem repL_take : ∀ {xs : List MV} {us : List V} (n : Nat), RepL Γ K S xs us → RepL Γ K S (xs.take n) (us.take n)
  | _, _, 0, _ => repL_nil
  | [], us, n + 1, a => by unfold RepL at a; subst a; exact repL_nil
  | y :: xs, us, n + 1, a => by
    unfold RepL at a
    obtain ⟨u', r', rfl, q', a'⟩ := a
    exact repL_cons q' (repL_take n a')
theorem repL_drop : ∀ {xs : List MV} {us : List V} (n : Nat), RepL Γ K S xs us → RepL Γ K S (xs.drop n) (us.drop n)
  | _, _, 0, a => a
  | [], us, n + 1, a => by unfold RepL at a; subst a; exact repL_nil
  | y :: xs, us, n + 1, a => by
    unfold RepL at a
    obtain ⟨u', r', rfl, q', a'⟩ := a
    exact repL_drop n a'
theorem repL_rev : ∀ {xs : List MV} {us : List V}, RepL Γ K S xs us → RepL Γ K S xs.reverse us.reverse
  | [], us, a => by unfold RepL at a; subst a; exact repL_nil
  | y :: xs, us, a => by
    unfold RepL at a
    obtain ⟨u', r', rfl, q', a'⟩ := a
    rw [List.reverse_cons, List.reverse_cons]
    exact repL_app (repL_rev a') (repL_cons q' repL_nil)
theorem repL_dropLast {xs : List MV} {us : List V} (a : RepL Γ K S xs us) : RepL Γ K S xs.dropLast us.dropLast := by
  rw [List.dropLast_eq_take, List.dropLast_eq_take, repL_len a]
  exact repL_take _ a
theorem repL_rep {xs : List MV} {us : List V} (a : RepL Γ K S xs us) : ∀ n : Nat, RepL Γ K S (List.replicate n xs).flatten (List.replicate n us).flatten
  | 0 => repL_nil
  | n + 1 => by
    rw [List.replicate_succ, List.replicate_succ, List.flatten_cons, List.flatten_cons]
    exact repL_app a (repL_rep a n)
theorem repL_ints : ∀ {ns : List Int} {us : List V}, RepL Γ K S (ns.map MV.int) us → us = ns.map V.int
  | [], us, a => by unfold RepL at a; exact a
  | n :: ns, us, a => by
    have a' : RepL Γ K S (.int n :: ns.map MV.int) us := a
    unfold RepL at a'
    obtain ⟨u', r', rfl, q', a''⟩ := a'
    rw [rep_int q', repL_ints a'']; rfl
theorem ints_repL : ∀ (ns : List Int), RepL Γ K S (ns.map MV.int) (ns.map V.int)
  | [] => repL_nil
  | n :: ns => repL_cons is_int (ints_repL ns)

theorem wlst_ok {d : MV} {v : V} {xs : List MV} (R : Rel Γ K S h H) (e : wlst h d = some xs) (r : Rep Γ K S d v) : ∃ a us, v = .ref a ∧ H a = some (.lst us) ∧ RepL Γ K S xs us := by
  cases d with
  | fl ys =>
    unfold Rep at r
    obtain ⟨a, us, e1, e2, e3⟩ := r
    cases (show some ys = some xs from e)
    exact ⟨a, us, e1, R.sub _ _ e2, e3⟩
  | ref n =>
    unfold Rep at r
    obtain ⟨a, e1, e2⟩ := r
    unfold wlst at e
    simp only at e
    split at e
    · rename_i ys hy
      cases e
      obtain ⟨_, us, q1, q2⟩ := R.cell n _ a hy e1
      exact ⟨a, us, e2, q1, q2⟩
    · cases e
  | _ => cases e
theorem lstAt_ok {d : MV} {v : V} {xs : List MV} (R : Rel Γ K S h H) (e : lstAt h d = some xs) (r : Rep Γ K S d v) : ∃ a us, v = .ref a ∧ SqL K H a us ∧ RepL Γ K S xs us := by
  cases d with
  | sl ys =>
    unfold Rep at r
    obtain ⟨a, us, e1, e2, e3⟩ := r
    cases (show some ys = some xs from e)
    refine ⟨a, us, e1, ?_, e3⟩
    rcases e2 with (q | ⟨o, q⟩) | q
    · exact .inl (.inl (R.sub _ _ q))
    · exact .inl (.inr ⟨o, R.sub _ _ q⟩)
    · exact .inr q
  | fl ys =>
    obtain ⟨a, us, q1, q2, q3⟩ := wlst_ok (h := h) (d := .fl ys) (xs := xs) R e r
    exact ⟨a, us, q1, SqL.of q2, q3⟩
  | ref n =>
    obtain ⟨a, us, q1, q2, q3⟩ := wlst_ok (h := h) (d := .ref n) (xs := xs) R e r
    exact ⟨a, us, q1, SqL.of q2, q3⟩
  | _ => cases e
theorem sqT_sub {a : Addr} {us : List V} (R : Rel Γ K S h H) (q : SqT K S.Hs a us) : SqT K H a us := by
  rcases q with (q | ⟨o, q⟩) | q
  · exact .inl (.inl (R.sub _ _ q))
  · exact .inl (.inr ⟨o, R.sub _ _ q⟩)
  · exact .inr q
theorem tup_ok {v : V} {xs : List MV} (R : Rel Γ K S h H) (r : Rep Γ K S (.tup xs) v) : ∃ a us, v = .ref a ∧ SqT K H a us ∧ RepL Γ K S xs us := by
  unfold Rep at r
  obtain ⟨a, us, e1, e2, e3⟩ := r
  exact ⟨a, us, e1, sqT_sub R e2, e3⟩
theorem seqAt_ok {d : MV} {v : V} {xs : List MV} (R : Rel Γ K S h H) (e : seqAt h d = some xs) (r : Rep Γ K S d v) : ∃ a us, v = .ref a ∧ (SqL K H a us ∨ SqT K H a us) ∧ RepL Γ K S xs us := by
  unfold seqAt at e
  split at e
  · cases e
    obtain ⟨a, us, q1, q2, q3⟩ := tup_ok R r
    exact ⟨a, us, q1, .inr q2, q3⟩
  · obtain ⟨a, us, q1, q2, q3⟩ := lstAt_ok R e r
    exact ⟨a, us, q1, .inl q2, q3⟩

/-! ### new objects -/
/-- a new list: a cell (b), or frozen -/
def retL (b : Bool) (xs : List MV) (h : MH) : Out MV := if b = true then .ok (.ref h.length) (h ++ [.lst xs]) else .ok (.fl xs) h
theorem newL {b : Bool} {xs : List MV} {us : List V} (R : Rel Γ K S h H) (r : RepL Γ K S xs us) (p : Post Γ K (Rep Γ K) S H Q E (retL b xs h)) : ∀ q, H q = none → Q (.ref q) (upd H q (.lst us)) := by
  intro q hq
  cases b with
  | true =>
    obtain ⟨R1, e1⟩ := R.alloc (o := .lst us) (c := .lst xs) hq (fun S' s1 s2 => ⟨(by
      rw [s1]
      cases z : S.Hs q with
      | none => rfl
      | some o => (rw [R.sub _ _ z] at hq; cases hq)), us, upd_same, repL_mono (fun a o z => by rw [s1]; exact z) (fun n a z => by rw [s2, List.getElem?_append_left (List.getElem?_eq_some_iff.mp z).1]; exact z) _ _ r⟩)
    refine p _ _ _ e1 R1 ?_
    unfold Rep
    exact ⟨q, by show (S.ι ++ [q])[h.length]? = some q; rw [← R.len]; simp, rfl⟩
  | false =>
    obtain ⟨R1, e1⟩ := R.froz (o := .lst us) hq
    refine p _ _ _ e1 R1 ?_
    unfold Rep
    exact ⟨q, us, rfl, upd_same, r.ext e1⟩
theorem newT {xs : List MV} {us : List V} (R : Rel Γ K S h H) (r : RepL Γ K S xs us) (p : Post Γ K (Rep Γ K) S H Q E (.ok (.tup xs) h)) : ∀ q, H q = none → Q (.ref q) (upd H q (.tup us)) := by
  intro q hq
  obtain ⟨R1, e1⟩ := R.froz (o := .tup us) hq
  refine p _ _ _ e1 R1 ?_
  unfold Rep
  exact ⟨q, us, rfl, SqT.of upd_same, r.ext e1⟩
end

/-! ### binary operators -/
theorem OpR.or {X : Cx} {f : Value → Value → Sem Value} {r r' : R2} (a : OpR X f r) (b : OpR X f r') : OpR X f (fun x y H Q => r x y H Q ∨ r' x y H Q) := by
  intro pins s σ H x y v u Q I rx ry h
  rcases h with h | h
  · exact a pins s σ H x y v u Q I rx ry h
  · exact b pins s σ H x y v u Q I rx ry h
def rAddAll (K : PySem.W.Frag) : R2 := fun x y H Q => (∃ i j, x = .int i ∧ y = .int j ∧ Q (.int (i + j)) H) ∨ (∃ i j, x = .str i ∧ y = .str j ∧ i.length + j.length ≤ sizeLine ∧ Q (.str (i ++ j)) H) ∨ rCatA K x y H Q ∨ rCat x y H Q
theorem op_addAll {X : Cx} : OpR X (binaryOp .Add) (rAddAll X.K) := OpR.or op_add (OpR.or op_add_str (OpR.or op_catA op_cat))
def fAdd (b : Bool) : MV → MV → MH → Out MV
  | .int i, .int j, h => .ok (.int (i + j)) h
  | .str x, .str y, h => if x.length + y.length ≤ sizeLine then .ok (.str (x ++ y)) h else .stuck
  | .tup xs, .tup ys, h => if xs.length + ys.length ≤ sizeLine then .ok (.tup (xs ++ ys)) h else .stuck
  | x, y, h => match wlst h x, wlst h y with
    | some xs, some ys => if xs.length + ys.length ≤ sizeLine then retL b (xs ++ ys) h else .stuck
    | _, _ => .stuck
section
variable {Γ : Gm} {K : PySem.W.Frag}
theorem lift_add {b : Bool} : Lift2 Γ K (rAddAll K) (fAdd b) := by
  intro S H h x y u v Q E R rx ry p
  unfold fAdd at p
  split at p
  · exact .inl ⟨_, _, rep_int rx, rep_int ry, p.val R is_int⟩
  · split at p
    · rename_i hz
      exact .inr (.inl ⟨_, _, rep_str rx, rep_str ry, hz, p.val R is_str⟩)
    · exact p.elim
  · split at p
    · rename_i _ _ xs ys hz
      have rx' := rx
      have ry' := ry
      obtain ⟨a, us, rfl, q2, q3⟩ := tup_ok R rx
      obtain ⟨c, vs, rfl, w2, w3⟩ := tup_ok R ry
      have l1 := repL_len q3
      have l2 := repL_len w3
      refine .inr (.inr (.inl ⟨a, c, us, vs, rfl, rfl, q2, w2, by omega, fun e => ?_, fun e1 e2 => ?_, fun e1 e2 => newT R (repL_app q3 w3) p⟩))
      · subst e
        have : xs = [] := List.length_eq_zero_iff.mp l1
        subst this
        exact p.val R ry'
      · subst e2
        have : ys = [] := List.length_eq_zero_iff.mp l2
        subst this
        rw [List.append_nil] at p
        exact p.val R rx'
    · exact p.elim
  · split at p
    · rename_i xs ys e1 e2
      split at p
      · rename_i hz
        obtain ⟨a, us, rfl, q2, q3⟩ := wlst_ok R e1 rx
        obtain ⟨c, vs, rfl, w2, w3⟩ := wlst_ok R e2 ry
        have l1 := repL_len q3
        have l2 := repL_len w3
        exact .inr (.inr (.inr ⟨a, c, us, vs, rfl, rfl, q2, w2, by omega, newL R (repL_app q3 w3) p⟩))
      · exact p.elim
    · exact p.elim
/-- two ints, a condition, an int -/
def fII (c : Int → Int → Bool) (g : Int → Int → MV) : MV → MV → MH → Out MV
  | .int i, .int j, h => if c i j = true then .ok (g i j) h else .stuck
  | _, _, _ => .stuck
theorem lift_ii {C : Int → Int → Prop} {c : Int → Int → Bool} {g : Int → Int → MV} {g' : Int → Int → V} (hc : ∀ i j, c i j = true → C i j) (hg : ∀ i j S, Rep Γ K S (g i j) (g' i j)) : Lift2 Γ K (rI C g') (fII c g) := by
  intro S H h x y u v Q E R rx ry p
  unfold fII at p
  split at p
  · split at p
    · rename_i hz
      exact ⟨_, _, rep_int rx, rep_int ry, hc _ _ hz, p.val R (hg _ _ _)⟩
    · exact p.elim
  · exact p.elim
theorem lift_ii0 {g : Int → Int → MV} {g' : Int → Int → V} (hg : ∀ i j S, Rep Γ K S (g i j) (g' i j)) : Lift2 Γ K (rI0 g') (fII (fun _ _ => true) g) := by
  intro S H h x y u v Q E R rx ry p
  unfold fII at p
  split at p
  · rw [if_pos rfl] at p
    exact ⟨_, _, rep_int rx, rep_int ry, p.val R (hg _ _ _)⟩
  · exact p.elim
abbrev fSub := fII (fun _ _ => true) (fun i j => .int (i - j))
theorem lift_sub : Lift2 Γ K (rI0 fun i j => .int (i - j)) fSub := lift_ii0 fun _ _ _ => is_int
def cMul (i j : Int) : Bool := (decide (-(2 ^ 64) < i) && decide (i < 2 ^ 64)) || (decide (-(2 ^ 64) < j) && decide (j < 2 ^ 64))
abbrev fDiv := fII (fun _ j => decide (0 < j ∧ j < 1073741824)) (fun i j => .int (i / j))
theorem lift_div : Lift2 Γ K (rI CDiv fun i j => .int (i / j)) fDiv := lift_ii (fun i j h => show 0 < j ∧ j < 1073741824 from of_decide_eq_true h) fun _ _ _ => is_int
abbrev fMod := fII (fun _ j => decide (0 < j)) (fun i j => .int (i % j))
theorem lift_mod : Lift2 Γ K (rI (fun _ j => 0 < j) fun i j => .int (i % j)) fMod := lift_ii (fun _ _ h => of_decide_eq_true h) fun _ _ _ => is_int
abbrev fPow := fII (fun i j => decide (0 ≤ j ∧ j ≤ 1000000 ∧ i.natAbs < 2 ^ 64)) (fun i j => .int (i ^ j.toNat))
theorem lift_pow : Lift2 Γ K (rI CPow fun i j => .int (i ^ j.toNat)) fPow := lift_ii (fun i j h => show 0 ≤ j ∧ j ≤ 1000000 ∧ i.natAbs < 2 ^ 64 from of_decide_eq_true h) fun _ _ _ => is_int
abbrev fShl := fII (fun i j => decide (0 ≤ j ∧ j ≤ 1000000 ∧ i.natAbs < 2 ^ 64)) (fun i j => .int (i * 2 ^ j.toNat))
theorem lift_shl : Lift2 Γ K (rI CPow fun i j => .int (i * 2 ^ j.toNat)) fShl := lift_ii (fun i j h => show 0 ≤ j ∧ j ≤ 1000000 ∧ i.natAbs < 2 ^ 64 from of_decide_eq_true h) fun _ _ _ => is_int
abbrev fShr := fII (fun _ j => decide (0 ≤ j)) (fun i j => .int (i / 2 ^ j.toNat))
theorem lift_shr : Lift2 Γ K (rI (fun _ j => 0 ≤ j) fun i j => .int (i / 2 ^ j.toNat)) fShr := lift_ii (fun _ _ h => of_decide_eq_true h) fun _ _ _ => is_int
abbrev fBand := fII (fun _ _ => true) (fun i j => .int (Builtin.bitAnd i j))
theorem lift_band : Lift2 Γ K (rI0 fun i j => .int (Builtin.bitAnd i j)) fBand := lift_ii0 fun _ _ _ => is_int
abbrev fBor := fII (fun _ _ => true) (fun i j => .int (Builtin.bitOr i j))
theorem lift_bor : Lift2 Γ K (rI0 fun i j => .int (Builtin.bitOr i j)) fBor := lift_ii0 fun _ _ _ => is_int
abbrev fLt := fII (fun _ _ => true) (fun i j => .bl (decide (i < j)))
theorem lift_lt : Lift2 Γ K (rI0 fun i j => .bl (decide (i < j))) fLt := lift_ii0 fun _ _ _ => is_bl
abbrev fLe := fII (fun _ _ => true) (fun i j => .bl (decide (i ≤ j)))
theorem lift_le : Lift2 Γ K (rI0 fun i j => .bl (decide (i ≤ j))) fLe := lift_ii0 fun _ _ _ => is_bl
abbrev fGt := fII (fun _ _ => true) (fun i j => .bl (decide (j < i)))
theorem lift_gt : Lift2 Γ K (rI0 fun i j => .bl (decide (j < i))) fGt := lift_ii0 fun _ _ _ => is_bl
abbrev fGe := fII (fun _ _ => true) (fun i j => .bl (decide (j ≤ i)))
theorem lift_ge : Lift2 Γ K (rI0 fun i j => .bl (decide (j ≤ i))) fGe := lift_ii0 fun _ _ _ => is_bl
/-- unary -/
def fUI (g : Int → MV) : MV → MH → Out MV
  | .int i, h => .ok (g i) h
  | _, _ => .stuck
theorem lift_ui {g : Int → MV} {g' : Int → V} (hg : ∀ i S, Rep Γ K S (g i) (g' i)) : Lift1 Γ K (rU g') (fUI g) := by
  intro S H h x u Q E R rx p
  unfold fUI at p
  split at p
  · exact ⟨_, rep_int rx, p.val R (hg _ _)⟩
  · exact p.elim
abbrev fNeg := fUI (fun i => .int (-i))
theorem lift_neg : Lift1 Γ K (rU fun i => .int (-i)) fNeg := lift_ui fun _ _ => is_int
abbrev fInv := fUI (fun i => .int (Builtin.bitNot i))
theorem lift_inv : Lift1 Γ K (rU fun i => .int (Builtin.bitNot i)) fInv := lift_ui fun _ _ => is_int

/-! multiplication -/
def rMulAll (K : PySem.W.Frag) : R2 := fun x y H Q => rI CMul (fun i j => .int (i * j)) x y H Q ∨ rRepT K x y H Q ∨ rRep x y H Q
theorem op_mulAll {X : Cx} : OpR X (binaryOp .Mult) (rMulAll X.K) := OpR.or op_mul (OpR.or op_repT op_rep)
def fMul (b : Bool) : MV → MV → MH → Out MV
  | .int i, .int j, h => if cMul i j = true then .ok (.int (i * j)) h else .stuck
  | .tup xs, .int k, h => if xs ≠ [] ∧ 2 ≤ k ∧ k ≤ 1000 ∧ xs.length ≤ 1000 then .ok (.tup (List.replicate k.toNat xs).flatten) h else .stuck
  | x, .int k, h => match wlst h x with
    | some xs => if -(2 ^ 63) ≤ k ∧ k < 2 ^ 63 ∧ xs.length * k.toNat ≤ sizeLine then retL b (List.replicate k.toNat xs).flatten h else .stuck
    | _ => .stuck
  | _, _, _ => .stuck
theorem lift_mul {b : Bool} : Lift2 Γ K (rMulAll K) (fMul b) := by
  intro S H h x y u v Q E R rx ry p
  unfold fMul at p
  split at p
  · split at p
    · rename_i hz
      refine .inl ⟨_, _, rep_int rx, rep_int ry, ?_, p.val R is_int⟩
      unfold cMul at hz
      simp only [Bool.or_eq_true, Bool.and_eq_true, decide_eq_true_eq] at hz
      exact hz
    · exact p.elim
  · split at p
    · rename_i _ _ xs k hz
      obtain ⟨a, us, rfl, q2, q3⟩ := tup_ok R rx
      have l1 := repL_len q3
      refine .inr (.inl ⟨a, k, us, rfl, rep_int ry, q2, fun e => hz.1 ?_, hz.2.1, hz.2.2.1, by rw [← l1]; exact hz.2.2.2, newT R (repL_rep q3 _) p⟩)
      subst e
      exact List.length_eq_zero_iff.mp l1
    · exact p.elim
  · split at p
    · rename_i xs e1
      split at p
      · rename_i hz
        obtain ⟨a, us, rfl, q2, q3⟩ := wlst_ok R e1 rx
        have l1 := repL_len q3
        exact .inr (.inr ⟨a, _, us, rfl, rep_int ry, q2, hz.1, hz.2.1, by rw [← l1]; exact hz.2.2, newL R (repL_rep q3 _) p⟩)
      · exact p.elim
    · exact p.elim
  · exact p.elim

/-! ### data, == -/
mutual
def toD (r : Nat → Option PyData) : MV → Option PyData
  | .non => some .none
  | .bl b => some (.bool b)
  | .int i => some (.int i)
  | .str x => some (.str x)
  | .tup xs => (toDL r xs).map .tuple
  | .fl xs => (toDL r xs).map .list
  | .sl xs => (toDL r xs).map .list
  | .ob _ _ _ => none
  | .ref n => r n
  | .exo _ _ _ _ => none
def toDL (r : Nat → Option PyData) : List MV → Option (List PyData)
  | [] => some []
  | x :: xs => match toD r x, toDL r xs with
    | some d, some ds => some (d :: ds)
    | _, _ => none
end
def rD (h : MH) : Nat → Nat → Option PyData
  | 0, _ => none
  | k + 1, n => match h[n]? with
    | some (.lst xs) => (toDL (rD h k) xs).map .list
    | _ => none
def dataOf (h : MH) (d : MV) : Option PyData := toD (rD h 4) d
def datasOf (h : MH) (d : List MV) : Option (List PyData) := toDL (rD h 4) d
def fEq (neg : Bool) (x y : MV) (h : MH) : Out MV := match dataOf h x, dataOf h y with
  | some d, some e => if SeqAt.shaped d = true ∧ SeqAt.shaped e = true then .ok (.bl (if neg = true then !PyData.eqv d e else PyData.eqv d e)) h else .stuck
  | _, _ => .stuck
mutual
theorem dp_of {S : Sh} {H : Hp} {h : MH} {r : Nat → Option PyData} (R : Rel Γ K S h H) (hr : ∀ n d a, r n = some d → S.ι[n]? = some a → Dp K H (.ref a) d) : ∀ (x : MV) (d : PyData) (v : V), toD r x = some d → Rep Γ K S x v → Dp K H v d
  | .non, d, v, e, q => by
    unfold toD at e; cases e; rw [rep_non q]; exact .non
  | .bl b, d, v, e, q => by
    unfold toD at e; cases e; rw [rep_bl q]; exact .bl b
  | .int i, d, v, e, q => by
    unfold toD at e; cases e; rw [rep_int q]; exact .int i
  | .str x, d, v, e, q => by
    unfold toD at e; cases e; rw [rep_str q]; exact .str x
  | .tup xs, d, v, e, q => by
    unfold toD at e
    cases z : toDL r xs with
    | none => rw [z] at e; cases e
    | some ds =>
      rw [z] at e; cases e
      obtain ⟨a, us, rfl, q2, q3⟩ := tup_ok R q
      exact .tup q2 (dpL_of R hr xs ds us z q3)
  | .fl xs, d, v, e, q => by
    unfold toD at e
    cases z : toDL r xs with
    | none => rw [z] at e; cases e
    | some ds =>
      rw [z] at e; cases e
      obtain ⟨a, us, rfl, q2, q3⟩ := lstAt_ok (xs := xs) R rfl q
      exact .lst q2 (dpL_of R hr xs ds us z q3)
  | .sl xs, d, v, e, q => by
    unfold toD at e
    cases z : toDL r xs with
    | none => rw [z] at e; cases e
    | some ds =>
      rw [z] at e; cases e
      obtain ⟨a, us, rfl, q2, q3⟩ := lstAt_ok (xs := xs) R rfl q
      exact .lst q2 (dpL_of R hr xs ds us z q3)
  | .ob C ks xs, d, v, e, q => by unfold toD at e; cases e
  | .exo _ _ _ _, d, v, e, q => by unfold toD at e; cases e
  | .ref n, d, v, e, q => by
    unfold toD at e
    unfold Rep at q
    obtain ⟨a, e1, rfl⟩ := q
    exact hr n d a e e1
theorem dpL_of {S : Sh} {H : Hp} {h : MH} {r : Nat → Option PyData} (R : Rel Γ K S h H) (hr : ∀ n d a, r n = some d → S.ι[n]? = some a → Dp K H (.ref a) d) : ∀ (xs : List MV) (ds : List PyData) (vs : List V), toDL r xs = some ds → RepL Γ K S xs vs → DpAll K H vs ds
  | [], ds, vs, e, q => by
    unfold toDL at e; cases e
    unfold RepL at q; subst q
    exact .nil
  | x :: xs, ds, vs, e, q => by
    unfold RepL at q
    obtain ⟨u, r', rfl, q1, q2⟩ := q
    unfold toDL at e
    cases z1 : toD r x with
    | none => rw [z1] at e; cases e
    | some d =>
      cases z2 : toDL r xs with
      | none => rw [z1, z2] at e; cases e
      | some ds' =>
        rw [z1, z2] at e; cases e
        exact .cons (dp_of R hr x d u z1 q1) (dpL_of R hr xs ds' r' z2 q2)
end
theorem dp_ref {S : Sh} {H : Hp} {h : MH} (R : Rel Γ K S h H) : ∀ (k : Nat) (n : Nat) (d : PyData) (a : Addr), rD h k n = some d → S.ι[n]? = some a → Dp K H (.ref a) d
  | 0, _, _, _, e, _ => by cases e
  | k + 1, n, d, a, e, i => by
    unfold rD at e
    split at e
    · rename_i xs hx
      cases z : toDL (rD h k) xs with
      | none => rw [z] at e; cases e
      | some ds =>
        rw [z] at e; cases e
        obtain ⟨_, us, q1, q2⟩ := R.cell n _ a hx i
        exact .lst (SqL.of q1) (dpL_of R (fun n d a e i => dp_ref R k n d a e i) xs ds us z q2)
    · cases e
theorem dataOf_ok {S : Sh} {H : Hp} {h : MH} {x : MV} {d : PyData} {v : V} (R : Rel Γ K S h H) (e : dataOf h x = some d) (q : Rep Γ K S x v) : Dp K H v d := dp_of R (fun n d a e i => dp_ref R 4 n d a e i) x d v e q
theorem datasOf_ok {S : Sh} {H : Hp} {h : MH} {x : List MV} {d : List PyData} {v : List V} (R : Rel Γ K S h H) (e : datasOf h x = some d) (q : RepL Γ K S x v) : DpAll K H v d := dpL_of R (fun n d a e i => dp_ref R 4 n d a e i) x d v e q
theorem lift_eq : Lift2 Γ K (rEqD K) (fEq false) := by
  intro S H h x y u v Q E R rx ry p
  unfold fEq at p
  split at p
  · rename_i d e h1 h2
    split at p
    · rename_i hz
      exact ⟨d, e, dataOf_ok R h1 rx, dataOf_ok R h2 ry, hz.1, hz.2, p.val R is_bl⟩
    · exact p.elim
  · exact p.elim
theorem lift_ne : Lift2 Γ K (rNeD K) (fEq true) := by
  intro S H h x y u v Q E R rx ry p
  unfold fEq at p
  split at p
  · rename_i d e h1 h2
    split at p
    · rename_i hz
      exact ⟨d, e, dataOf_ok R h1 rx, dataOf_ok R h2 ry, hz.1, hz.2, p.val R is_bl⟩
    · exact p.elim
  · exact p.elim
/-! is None -/
def fIsN (neg : Bool) (x y : MV) (h : MH) : Out MV := match x, y with
  | .non, .non => .ok (.bl (!neg)) h
  | _, .non => .ok (.bl neg) h
  | _, _ => .stuck
theorem rep_notnon {S : Sh} {x : MV} {v : V} (r : Rep Γ K S x v) (hx : x ≠ .non) : v ≠ .non := by
  intro e
  subst e
  cases x with
  | non => exact hx rfl
  | bl _ => cases rep_bl r
  | int _ => cases rep_int r
  | str _ => cases rep_str r
  | tup _ => unfold Rep at r; obtain ⟨_, _, e, _⟩ := r; cases e
  | fl _ => unfold Rep at r; obtain ⟨_, _, e, _⟩ := r; cases e
  | sl _ => unfold Rep at r; obtain ⟨_, _, e, _⟩ := r; cases e
  | ob _ _ _ => unfold Rep at r; obtain ⟨_, _, _, e, _⟩ := r; cases e
  | ref _ => unfold Rep at r; obtain ⟨_, _, e⟩ := r; cases e
  | exo _ _ _ _ => unfold Rep at r; cases r.1
theorem lift_isN : Lift2 Γ K (fun x y H Q => y = .non ∧ Q (.bl (decide (x = .non))) H) (fIsN false) := by
  intro S H h x y u v Q E R rx ry p
  unfold fIsN at p
  split at p
  · refine ⟨rep_non ry, ?_⟩
    rw [rep_non rx]
    exact p.val R is_bl
  · rename_i h1
    refine ⟨rep_non ry, ?_⟩
    rw [decide_eq_false (rep_notnon rx (fun e => h1 e))]
    exact p.val R is_bl
  · exact p.elim
theorem lift_notN : Lift2 Γ K (fun x y H Q => y = .non ∧ Q (.bl (!decide (x = .non))) H) (fIsN true) := by
  intro S H h x y u v Q E R rx ry p
  unfold fIsN at p
  split at p
  · refine ⟨rep_non ry, ?_⟩
    rw [rep_non rx]
    exact p.val R is_bl
  · rename_i h1
    refine ⟨rep_non ry, ?_⟩
    rw [decide_eq_false (rep_notnon rx (fun e => h1 e))]
    exact p.val R is_bl
  · exact p.elim

/-! ### subscripts -/
def fIx : MV → MV → MH → Out MV
  | .str z, .int i, h => if z.length ≤ sizeLine then (match atI z.cps.toList i with
    | some c => .ok (.str ⟨#[c]⟩) h
    | none => .stuck) else .stuck
  | x, .int i, h => match seqAt h x with
    | some xs => match atI xs i with
      | some d => .ok d h
      | none => .stuck
    | none => .stuck
  | _, _, _ => .stuck
theorem atI_rep {S : Sh} {xs : List MV} {us : List V} {i : Int} {d : MV} (r : RepL Γ K S xs us) (e : atI xs i = some d) : ∃ u, atI us i = some u ∧ Rep Γ K S d u := by
  unfold atI at *
  rw [← repL_len r]
  cases z : ixN xs.length i with
  | none => rw [z] at e; cases e
  | some j =>
    rw [z] at e
    exact repL_get r e
theorem lift_ix : Lift2 Γ K (rIx K) fIx := by
  intro S H h x y u v Q E R rx ry p
  unfold fIx at p
  split at p
  · split at p
    · rename_i hz
      split at p
      · rename_i c hc
        exact .inr (.inr ⟨_, _, c, rep_str rx, rep_int ry, hz, hc, p.val R is_str⟩)
      · exact p.elim
    · exact p.elim
  · split at p
    · rename_i xs hx
      split at p
      · rename_i d hd
        obtain ⟨a, us, rfl, q2, q3⟩ := seqAt_ok R hx rx
        obtain ⟨w, w1, w2⟩ := atI_rep q3 hd
        rcases q2 with q2 | q2
        · exact .inl ⟨a, us, _, w, rfl, rep_int ry, q2, w1, p.val R w2⟩
        · exact .inr (.inl ⟨a, us, _, w, rfl, rep_int ry, q2, w1, p.val R w2⟩)
      · exact p.elim
    · exact p.elim
  · exact p.elim

/-! ### slices -/
theorem SlR.or {X : Cx} {r r' : V → Option Int → Option Int → Hp → VK → Prop} (a : SlR X r) (b : SlR X r') : SlR X (fun x lo hi H Q => r x lo hi H Q ∨ r' x lo hi H Q) := by
  intro pins s σ H x v vl vu lo hi sl Q I rx hs pl pu h
  rcases h with h | h
  · exact a pins s σ H x v vl vu lo hi sl Q I rx hs pl pu h
  · exact b pins s σ H x v vl vu lo hi sl Q I rx hs pl pu h
def rSlAll (K : PySem.W.Frag) : V → Option Int → Option Int → Hp → VK → Prop := fun x lo hi H Q => rSlA K x lo hi H Q ∨ rSlL K x lo hi H Q ∨ rSlS x lo hi H Q
theorem sl_all {X : Cx} : SlR X (rSlAll X.K) := SlR.or sl_tupA (SlR.or sl_list sl_str)
def cutM (xs : List MV) (lo hi : Option Int) : List MV := (xs.drop (HT.sIx xs.length 0 lo)).take (HT.sIx xs.length xs.length hi - HT.sIx xs.length 0 lo)
def fSl (b : Bool) : MV → Option Int → Option Int → MH → Out MV
  | .str z, lo, hi, h => if z.length ≤ sizeLine then .ok (.str (cutS z lo hi)) h else .stuck
  | .tup xs, lo, hi, h => .ok (.tup (cutM xs lo hi)) h
  | x, lo, hi, h => match lstAt h x with
    | some xs => retL b (cutM xs lo hi) h
    | none => .stuck
theorem cut_rep {S : Sh} {xs : List MV} {us : List V} {lo hi : Option Int} (r : RepL Γ K S xs us) : RepL Γ K S (cutM xs lo hi) (cutV us lo hi) := by
  unfold cutM cutV
  rw [repL_len r]
  exact repL_take _ (repL_drop _ r)
theorem lift_sl {b : Bool} : Lift3 Γ K (rSlAll K) (fSl b) := by
  intro S H h x u lo hi Q E R rx p
  unfold fSl at p
  split at p
  · split at p
    · rename_i hz
      exact .inr (.inr ⟨_, rep_str rx, hz, p.val R is_str⟩)
    · exact p.elim
  · rename_i xs
    have rx' := rx
    obtain ⟨a, us, rfl, q2, q3⟩ := tup_ok R rx
    refine .inl ⟨a, us, rfl, q2, fun e => ?_, fun _ => newT R (cut_rep q3) p⟩
    have : cutM xs lo hi = xs := by
      unfold cutM
      rw [repL_len q3, e.1, e.2, List.drop_zero, ← repL_len q3, Nat.sub_zero, List.take_length]
    rw [this] at p
    exact p.val R rx'
  · split at p
    · rename_i xs e1
      obtain ⟨a, us, rfl, q2, q3⟩ := lstAt_ok R e1 rx
      exact .inr (.inl ⟨a, us, rfl, q2, newL R (cut_rep q3) p⟩)
    · exact p.elim
end
end Mn
/-! ## MnD -/
set_option Elab.async false
set_option linter.all false
set_option maxRecDepth 100000
/-! Mn, part D: statements, loops, comprehensions, calls of defs. -/
namespace Mn
open PySem PySem.Spec PyProof.Rows L2

inductive Fl where
  | nx | rt (v : MV) | bk | ct
inductive OutS where
  | ok (f : Fl) (env : MEnv) (h : MH) | exc (C : Str) (xs : List MV) (env : MEnv) (h : MH) | stuck
abbrev MS := MEnv → MH → OutS
abbrev MG := MV → MEnv → MH → Out MEnv
inductive IterV where
  | st (xs : List MV) | lv (n : Nat)
abbrev MIt := MEnv → MH → Out IterV

def PostS (Γ : Gm) (K : PySem.W.Frag) (S : Sh) (H : Hp) (D : Ends) (W : WX) : OutS → Prop
  | .ok .nx env h => ∀ S' H' σ', Ext S H S' H' → Rel Γ K S' h H' → REnv Γ K S' env σ' → D.nx σ' H'
  | .ok (.rt d) _ h => ∀ S' H' v, Ext S H S' H' → Rel Γ K S' h H' → Rep Γ K S' d v → D.rt v H'
  | .ok .bk env h => ∀ S' H' σ', Ext S H S' H' → Rel Γ K S' h H' → REnv Γ K S' env σ' → D.bk σ' H'
  | .ok .ct env h => ∀ S' H' σ', Ext S H S' H' → Rel Γ K S' h H' → REnv Γ K S' env σ' → D.ct σ' H'
  | .exc C xs env h => ∀ S' H' σ' dd, Ext S H S' H' → Rel Γ K S' h H' → REnv Γ K S' env σ' → RepX Γ K C xs dd S' H' → W (.ref (Γ.cls C)) dd σ' H'
  | .stuck => False
def PostG (Γ : Gm) (K : PySem.W.Frag) (S : Sh) (H : Hp) (Q : L2.St → Hp → Prop) (W : WX) (σ : L2.St) : Out MEnv → Prop
  | .ok env h => ∀ S' H' σ', Ext S H S' H' → Rel Γ K S' h H' → REnv Γ K S' env σ' → Q σ' H'
  | .exc C xs h => ∀ S' H' dd, Ext S H S' H' → Rel Γ K S' h H' → RepX Γ K C xs dd S' H' → W (.ref (Γ.cls C)) dd σ H'
  | .stuck => False
/-- what an iterator over known values does, wherever they stand -/
def ItSt (Γ : Gm) (K : PySem.W.Frag) (J : It) (S : Sh) (xs : List MV) : Prop := ∀ S' h' H' (i : Nat), (∀ a o, S.Hs a = some o → S'.Hs a = some o) → (∀ (n : Nat) (a : Addr), S.ι[n]? = some a → S'.ι[n]? = some a) → Rel Γ K S' h' H' →
  (xs[i]? = none → J.stop i H') ∧ ∀ x, xs[i]? = some x → J.go i H' ∧ ∀ v H'', J.yld i H' v H'' → H'' = H' ∧ Rep Γ K S' x v
def ItLv (Γ : Gm) (K : PySem.W.Frag) (J : It) (S : Sh) (n : Nat) : Prop := ∀ S' h' H' (i : Nat) xs, (∀ a o, S.Hs a = some o → S'.Hs a = some o) → (∀ (n : Nat) (a : Addr), S.ι[n]? = some a → S'.ι[n]? = some a) → Rel Γ K S' h' H' → h'[n]? = some (.lst xs) →
  (xs[i]? = none → J.stop i H') ∧ ∀ x, xs[i]? = some x → J.go i H' ∧ ∀ v H'', J.yld i H' v H'' → H'' = H' ∧ Rep Γ K S' x v
def PostI (Γ : Gm) (K : PySem.W.Frag) (S : Sh) (H : Hp) (R : It → Hp → Prop) (W : WX) (σ : L2.St) : Out IterV → Prop
  | .ok (.st xs) h => ∀ S' H' J, Ext S H S' H' → Rel Γ K S' h H' → ItSt Γ K J S' xs → R J H'
  | .ok (.lv n) h => ∀ S' H' J, Ext S H S' H' → Rel Γ K S' h H' → ItLv Γ K J S' n → R J H'
  | .exc C xs h => ∀ S' H' dd, Ext S H S' H' → Rel Γ K S' h H' → RepX Γ K C xs dd S' H' → W (.ref (Γ.cls C)) dd σ H'
  | .stuck => False
def ExS (Γ : Gm) (K : PySem.W.Frag) (W : WX) (t : TS) (m : MS) : Prop := ∀ S H h σ env D, Rel Γ K S h H → REnv Γ K S env σ → PostS Γ K S H D W (m env h) → t D σ H
def ExG (Γ : Gm) (K : PySem.W.Frag) (W : WX) (t : TG) (g : MG) : Prop := ∀ S H h σ env d v Q, Rel Γ K S h H → REnv Γ K S env σ → Rep Γ K S d v → PostG Γ K S H Q W σ (g d env h) → t v σ H Q
def ExI (Γ : Gm) (K : PySem.W.Frag) (W : WX) (t : TI) (m : MIt) : Prop := ∀ S H h σ env R, Rel Γ K S h H → REnv Γ K S env σ → PostI Γ K S H R W σ (m env h) → t σ H R
structure SS (Γ : Gm) (X : Cx) (W : WX) (st : Stmt) (m : MS) : Prop where
  ex : ∃ t : TS, PS X st t ∧ ExS Γ X.K W t m
structure SSs (Γ : Gm) (X : Cx) (W : WX) (st : List Stmt) (m : MS) : Prop where
  ex : ∃ t : TS, PSs X st t ∧ ExS Γ X.K W t m
structure SG (Γ : Gm) (X : Cx) (W : WX) (e : Expr) (m : MG) : Prop where
  ex : ∃ t : TG, PG X e t ∧ ExG Γ X.K W t m
structure SI (Γ : Gm) (X : Cx) (W : WX) (tg e : Expr) (m : MIt) : Prop where
  ex : ∃ t : TI, PI X tg e t ∧ ExI Γ X.K W t m

theorem PostS.ext {Γ : Gm} {K : PySem.W.Frag} {S S1 : Sh} {H H1 : Hp} {D : Ends} {W : WX} {o : OutS} (p : PostS Γ K S H D W o) (e : Ext S H S1 H1) : PostS Γ K S1 H1 D W o := by
  cases o with
  | ok f env h =>
    cases f with
    | nx => exact fun S' H' b e' => p S' H' b (e.trans e')
    | rt d => exact fun S' H' b e' => p S' H' b (e.trans e')
    | bk => exact fun S' H' b e' => p S' H' b (e.trans e')
    | ct => exact fun S' H' b e' => p S' H' b (e.trans e')
  | exc C xs env h => exact fun S' H' σ dd e' => p S' H' σ dd (e.trans e')
  | stuck => exact p

/-! ### mirrors -/
@[reducible] def Out.andS {α : Type} (env : MEnv) (x : Out α) (f : α → MH → OutS) : OutS := match x with
  | .ok a h => f a h
  | .exc C xs h => .exc C xs env h
  | .stuck => .stuck
def sNil : MS := fun env h => .ok .nx env h
@[reducible] def OutS.seq (x : OutS) (f : MEnv → MH → OutS) : OutS := match x with
  | .ok .nx env h => f env h
  | o => o
def sSeq (a b : MS) : MS := fun env h => (a env h).seq b
def sBreak : MS := fun env h => .ok .bk env h
def sCont : MS := fun env h => .ok .ct env h
def sIf (t : MT) (a b : MS) : MS := fun env h => (t env h).andS env fun c h => if c = true then a env h else b env h
def sRet (e : ME) : MS := fun env h => (e env h).andS env fun d h => .ok (.rt d) env h
def sRetN : MS := fun env h => .ok (.rt .non) env h
def sExpr (e : ME) : MS := fun env h => (e env h).andS env fun _ h => .ok .nx env h
def sSet (i : Nat) (e : ME) : MS := fun env h => (e env h).andS env fun d h => .ok .nx (env.set i (some d)) h
def sAsg (e : ME) (g : MG) : MS := fun env h => (e env h).andS env fun d h => (g d env h).andS env fun env' h => .ok .nx env' h
def sAug (i : Nat) (f : MV → MV → MH → Out MV) (e : ME) : MS := fun env h => match env[i]? with
  | some (some x) => (e env h).andS env fun y h => (f x y h).andS env fun z h => .ok .nx (env.set i (some z)) h
  | _ => .stuck
def gNm (i : Nat) : MG := fun d env h => .ok (env.set i (some d)) h
def gSb (o i : ME) (f : MV → MV → MV → MH → Out MV) : MG := fun d env h => (o env h).bind fun x h => (i env h).bind fun y h => (f x y d h).bind fun _ h => .ok env h
@[reducible] def Out.nox {α : Type} : Out α → Out α
  | .ok a h => .ok a h
  | _ => .stuck
def gTp : List MG → List MV → MEnv → MH → Out MEnv
  | [], [], env, h => .ok env h
  | g :: gs, d :: ds, env, h => (g d env h).nox.bind fun env' h' => gTp gs ds env' h'
  | _, _, _, _ => .stuck
def gTup (gs : List MG) : MG := fun d env h => match d with
  | .tup xs => gTp gs xs env h
  | _ => .stuck
def sWhile (t : MT) (b : MS) : Nat → MS
  | 0 => fun _ _ => .stuck
  | n + 1 => fun env h => (t env h).andS env fun c h => if c = true then (match b env h with
    | .ok .nx env' h' => sWhile t b n env' h'
    | .ok .ct env' h' => sWhile t b n env' h'
    | .ok .bk env' h' => .ok .nx env' h'
    | o => o) else .ok .nx env h
def sForL (g : MG) (b : MS) : List MV → MS
  | [] => fun env h => .ok .nx env h
  | x :: xs => fun env h => (g x env h).andS env fun env h => match b env h with
    | .ok .nx env' h' => sForL g b xs env' h'
    | .ok .ct env' h' => sForL g b xs env' h'
    | .ok .bk env' h' => .ok .nx env' h'
    | o => o
def sForR (g : MG) (b : MS) (n : Nat) : Nat → Nat → MS
  | 0, _ => fun _ _ => .stuck
  | f + 1, i => fun env h => match h[n]? with
    | some (.lst xs) => match xs[i]? with
      | none => .ok .nx env h
      | some x => (g x env h).andS env fun env h => match b env h with
        | .ok .nx env' h' => sForR g b n f (i + 1) env' h'
        | .ok .ct env' h' => sForR g b n f (i + 1) env' h'
        | .ok .bk env' h' => .ok .nx env' h'
        | o => o
    | _ => .stuck
/-- the turns that a loop over a live list, a while may take -/
def big : Nat := 2 ^ 62
def sFor (it : MIt) (g : MG) (b : MS) : MS := fun env h => (it env h).andS env fun iv h => match iv with
  | .st xs => sForL g b xs env h
  | .lv n => sForR g b n big 0 env h
def charsOf (z : Str) : List MV := z.cps.toList.map fun c => .str ⟨#[c]⟩
def iSeq (e : ME) : MIt := fun env h => (e env h).bind fun d h => match d with
  | .tup xs => .ok (.st xs) h
  | .fl xs => .ok (.st xs) h
  | .sl xs => .ok (.st xs) h
  | .ref n => match h[n]? with
    | some (.lst _) => .ok (.lv n) h
    | _ => .stuck
  | .str z => .ok (.st (charsOf z)) h
  | _ => .stuck
def rangeM (lo : Int) (n : Nat) : List MV := (List.range n).map fun k : Nat => .int (lo + k)
def iRange1 (a : MA) : MIt := fun env h => (a env h).bind fun vs h => match vs with
  | [.int j] => if -(2 ^ 62) ≤ j ∧ j < 2 ^ 62 then .ok (.st (rangeM 0 j.toNat)) h else .stuck
  | _ => .stuck
def iRange2 (a : MA) : MIt := fun env h => (a env h).bind fun vs h => match vs with
  | [.int i, .int j] => if -(2 ^ 62) ≤ i ∧ i < 2 ^ 62 ∧ -(2 ^ 62) ≤ j ∧ j < 2 ^ 62 then .ok (.st (rangeM i (j - i).toNat)) h else .stuck
  | _ => .stuck
def wipeM (env : MEnv) : List Nat → MEnv
  | [] => env
  | v :: vs => (wipeM env vs).set v none
def tYesM : MT := fun _ h => .ok true h
/-- one turn of a comprehension -/
def compT (g : MG) (t : MT) (e : ME) (x : MV) (acc : List MV) (env : MEnv) (h : MH) : Out (List MV) :=
  (g x env h).nox.bind fun env h => (t env h).nox.bind fun c h => if c = true then (e env h).nox.bind fun y h => if acc.length < sizeLine then .ok (acc ++ [y]) h else .stuck else .ok acc h
def compL (g : MG) (t : MT) (e : ME) (env : MEnv) : List MV → List MV → MH → Out (List MV)
  | [], acc, h => .ok acc h
  | x :: xs, acc, h => (compT g t e x acc env h).bind fun acc h => compL g t e env xs acc h
def compR (g : MG) (t : MT) (e : ME) (env : MEnv) (n : Nat) : Nat → Nat → List MV → MH → Out (List MV)
  | 0, _, _, _ => .stuck
  | f + 1, i, acc, h => match h[n]? with
    | some (.lst xs) => match xs[i]? with
      | none => .ok acc h
      | some x => (compT g t e x acc env h).bind fun acc h => compR g t e env n f (i + 1) acc h
    | _ => .stuck
def mComp (b : Bool) (it : MIt) (g : MG) (t : MT) (e : ME) (vs : List Nat) : ME := fun env h => (it env h).bind fun iv h => match iv with
  | .st xs => (compL g t e (wipeM env vs) xs [] h).bind fun ys h => retL b ys h
  | .lv n => (compR g t e (wipeM env vs) n big 0 [] h).bind fun ys h => retL b ys h

section
variable {Γ : Gm} {K : PySem.W.Frag} {X : Cx} {W : WX}
/-- an expression within a statement -/
theorem exES {t : TE} {m : ME} {f : MV → MH → OutS} {S : Sh} {H : Hp} {h : MH} {σ : L2.St} {env : MEnv} {D : Ends} {QQ : VK} (ht : ExE Γ K W t m) (R : Rel Γ K S h H) (G : REnv Γ K S env σ)
    (hp : PostS Γ K S H D W ((m env h).andS env f))
    (k : ∀ a h1 S1 H1 v, Ext S H S1 H1 → Rel Γ K S1 h1 H1 → REnv Γ K S1 env σ → Rep Γ K S1 a v → PostS Γ K S1 H1 D W (f a h1) → QQ v H1) : t σ H QQ := by
  refine ht S H h σ env QQ R G ?_
  cases z : m env h with
  | ok a h1 =>
    rw [z] at hp
    exact fun S' H' b e r q => k a h1 S' H' b e r (G.mono e) q (PostS.ext hp e)
  | exc C xs h1 =>
    rw [z] at hp
    exact fun S' H' dd e r q => hp S' H' σ dd e r (G.mono e) q
  | stuck => rw [z] at hp; exact hp
theorem exTS {t : TT} {m : MT} {f : Bool → MH → OutS} {S : Sh} {H : Hp} {h : MH} {σ : L2.St} {env : MEnv} {D : Ends} {QQ : Bool → Hp → Prop} (ht : ExT Γ K W t m) (R : Rel Γ K S h H) (G : REnv Γ K S env σ)
    (hp : PostS Γ K S H D W ((m env h).andS env f))
    (k : ∀ a h1 S1 H1, Ext S H S1 H1 → Rel Γ K S1 h1 H1 → REnv Γ K S1 env σ → PostS Γ K S1 H1 D W (f a h1) → QQ a H1) : t σ H QQ := by
  refine ht S H h σ env QQ R G ?_
  cases z : m env h with
  | ok a h1 =>
    rw [z] at hp
    intro S' H' b e r q
    have q' : b = a := q
    subst q'
    exact k b h1 S' H' e r (G.mono e) (PostS.ext hp e)
  | exc C xs h1 =>
    rw [z] at hp
    exact fun S' H' dd e r q => hp S' H' σ dd e r (G.mono e) q
  | stuck => rw [z] at hp; exact hp
theorem exGS {t : TG} {g : MG} {f : MEnv → MH → OutS} {S : Sh} {H : Hp} {h : MH} {σ : L2.St} {env : MEnv} {d : MV} {v : V} {D : Ends} {QQ : L2.St → Hp → Prop} (ht : ExG Γ K W t g) (R : Rel Γ K S h H) (G : REnv Γ K S env σ) (rv : Rep Γ K S d v)
    (hp : PostS Γ K S H D W ((g d env h).andS env f))
    (k : ∀ env1 h1 S1 H1 σ1, Ext S H S1 H1 → Rel Γ K S1 h1 H1 → REnv Γ K S1 env1 σ1 → PostS Γ K S1 H1 D W (f env1 h1) → QQ σ1 H1) : t v σ H QQ := by
  refine ht S H h σ env d v QQ R G rv ?_
  cases z : g d env h with
  | ok a h1 =>
    rw [z] at hp
    exact fun S' H' σ' e r q => k a h1 S' H' σ' e r q (PostS.ext hp e)
  | exc C xs h1 =>
    rw [z] at hp
    exact fun S' H' dd e r q => hp S' H' σ dd e r (G.mono e) q
  | stuck => rw [z] at hp; exact hp
theorem REnv.set {S : Sh} {env : MEnv} {σ : L2.St} {d : MV} {v : V} (G : REnv Γ K S env σ) (r : Rep Γ K S d v) (i : Nat) : REnv Γ K S (env.set i (some d)) (σ.set i (some v)) := by
  refine ⟨by rw [List.length_set, List.length_set]; exact G.1, fun j d' e => ?_⟩
  by_cases hj : i = j
  · subst hj
    have hl : i < env.length := by
      have := (List.getElem?_eq_some_iff.mp e).1
      rw [List.length_set] at this; exact this
    rw [List.getElem?_set_self hl] at e
    cases e
    exact ⟨v, by rw [List.getElem?_set_self (by rw [← G.1]; exact hl)], r⟩
  · rw [List.getElem?_set_ne hj] at e ⊢
    exact G.2 j d' e
theorem REnv.drop {S : Sh} {env : MEnv} {σ : L2.St} (G : REnv Γ K S env σ) (i : Nat) (x : Option V) : REnv Γ K S (env.set i none) (σ.set i x) := by
  refine ⟨by rw [List.length_set, List.length_set]; exact G.1, fun j d' e => ?_⟩
  by_cases hj : i = j
  · subst hj
    have hl : i < env.length := by
      have := (List.getElem?_eq_some_iff.mp e).1
      rw [List.length_set] at this; exact this
    rw [List.getElem?_set_self hl] at e
    cases e
  · rw [List.getElem?_set_ne hj] at e ⊢
    exact G.2 j d' e
theorem REnv.wipe {S : Sh} {env : MEnv} {σ : L2.St} (G : REnv Γ K S env σ) : ∀ vs : List Nat, REnv Γ K S (wipeM env vs) (L2.wipe σ vs)
  | [] => G
  | v :: vs => (REnv.wipe G vs).drop v none

/-! ### statements -/
variable {st : Stmt} {rest sa sb : List Stmt} {m a b : MS} {e c : Expr} {me : ME} {mt : MT} {pos pos' : Pos}
theorem ss_nil : SSs Γ X W [] sNil := ⟨_, pss_nil, fun S H h σ env D R G p => p S H σ (Ext.refl _ _) R G⟩
theorem ss_cons (h1 : SS Γ X W st a) (h2 : SSs Γ X W rest b) : SSs Γ X W (st :: rest) (sSeq a b) := by
  obtain ⟨ta, pa, ea⟩ := h1.ex
  obtain ⟨tb, pb, eb⟩ := h2.ex
  refine ⟨_, pss_cons pa pb, fun S H h σ env D R G p => ?_⟩
  show ta { D with nx := tb D } σ H
  refine ea S H h σ env { D with nx := tb D } R G ?_
  unfold sSeq at p
  cases z : a env h with
  | ok f env1 h1 =>
    rw [z] at p
    cases f with
    | nx => exact fun S' H' σ' e r g => eb S' H' h1 σ' env1 D r g (PostS.ext p e)
    | rt d => exact p
    | bk => exact p
    | ct => exact p
  | exc C xs env1 h1 => rw [z] at p; exact p
  | stuck => rw [z] at p; exact p
theorem ss_one (h1 : SS Γ X W st a) : SSs Γ X W [st] a := by
  obtain ⟨ta, pa, ea⟩ := h1.ex
  exact ⟨_, pss_one pa, ea⟩
theorem ss_break : SS Γ X W (.Break pos) sBreak := ⟨_, ps_break, fun S H h σ env D R G p => p S H σ (Ext.refl _ _) R G⟩
theorem ss_cont : SS Γ X W (.Continue pos) sCont := ⟨_, ps_continue, fun S H h σ env D R G p => p S H σ (Ext.refl _ _) R G⟩
theorem ss_pass : SS Γ X W (.Pass pos) sNil := ⟨_, ps_pass, fun S H h σ env D R G p => p S H σ (Ext.refl _ _) R G⟩
theorem ss_if (ht : ST Γ X W c mt) (ha : SSs Γ X W sa a) (hb : SSs Γ X W sb b) : SS Γ X W (.If c sa sb pos) (sIf mt a b) := by
  obtain ⟨tc, pc, ec⟩ := ht.ex
  obtain ⟨ta, pa, ea⟩ := ha.ex
  obtain ⟨tb, pb, eb⟩ := hb.ex
  refine ⟨_, ps_if pc pa pb, fun S H h σ env D R G p => exTS (t := tc) ec R G p fun x h1 S1 H1 e1 R1 G1 p1 => ?_⟩
  cases x with
  | true => exact ea S1 H1 h1 σ env D R1 G1 p1
  | false => exact eb S1 H1 h1 σ env D R1 G1 p1
theorem ss_ret (ha : SE Γ X W e me) : SS Γ X W (.Return (some e) pos) (sRet me) := by
  obtain ⟨ta, pa, ea⟩ := ha.ex
  exact ⟨_, ps_ret pa, fun S H h σ env D R G p => exES (t := ta) ea R G p fun x h1 S1 H1 v e1 R1 G1 r1 p1 => p1 S1 H1 v (Ext.refl _ _) R1 r1⟩
theorem ss_retN : SS Γ X W (.Return none pos) sRetN := ⟨_, ps_retN, fun S H h σ env D R G p => p S H _ (Ext.refl _ _) R is_non⟩
theorem ss_expr (ha : SE Γ X W e me) (hs : swapsWith e none pos.line X.env = pure false := by rfl) : SS Γ X W (.Expr e pos) (sExpr me) := by
  obtain ⟨ta, pa, ea⟩ := ha.ex
  exact ⟨_, ps_expr pa hs, fun S H h σ env D R G p => exES (t := ta) ea R G p fun x h1 S1 H1 v e1 R1 G1 r1 p1 => p1 S1 H1 σ (Ext.refl _ _) R1 G1⟩
theorem ss_set (i : Nat) {x : Str} (hN : X.N.Nodup) (ha : SE Γ X W e me) (hi : X.N[i]? = some x := by rfl) (hx : Loc X.env.scope x := by first | exact Or.inl rfl | exact Or.inr rfl) (hs : swapsWith e (some (.Name x pos')) pos.line X.env = pure false := by rfl)
    (hf : X.fn x = true ∨ X.env.scope.names.lookup x = some .local := by first | exact .inl rfl | exact .inr rfl | assumption) : SS Γ X W (.Assign [.Name x pos'] e pos) (sSet i me) := by
  obtain ⟨ta, pa, ea⟩ := ha.ex
  exact ⟨_, ps_set hN hi hx pa hs hf, fun S H h σ env D R G p => exES (t := ta) ea R G p fun d h1 S1 H1 v e1 R1 G1 r1 p1 => p1 S1 H1 _ (Ext.refl _ _) R1 (G1.set r1 i)⟩
theorem ss_asg {tg : Expr} {g : MG} (ha : SE Γ X W e me) (hg : SG Γ X W tg g) (hs : swapsWithSole [tg] e pos.line X.env = pure false := by rfl) (hw : swappedStores [tg] e X.env = pure none := by rfl) (h1 : (assignEach [tg] X.env).map (·.2) = [assign tg X.env] := by rfl) : SS Γ X W (.Assign [tg] e pos) (sAsg me g) := by
  obtain ⟨ta, pa, ea⟩ := ha.ex
  obtain ⟨tg', pg, eg⟩ := hg.ex
  exact ⟨_, ps_asg pa pg hs hw h1, fun S H h σ env D R G p => exES (t := ta) ea R G p fun d h1 S1 H1 v e1 R1 G1 r1 p1 => exGS (t := tg') eg R1 G1 r1 p1 fun env2 h2 S2 H2 σ2 e2 R2 G2 p2 => p2 S2 H2 σ2 (Ext.refl _ _) R2 G2⟩
theorem ss_aug (i : Nat) {x : Str} {op : Operator} {ti : TIp} {f : MV → MV → MH → Out MV} (hN : X.N.Nodup) (ha : SE Γ X W e me) (ho : PIp X op ti) (hl : Lift2 Γ X.K ti f) (hi : X.N[i]? = some x := by rfl) (hx : Loc X.env.scope x := by first | exact Or.inl rfl | exact Or.inr rfl)
    (hf : X.fn x = true ∨ X.env.scope.names.lookup x = some .local := by first | exact .inl rfl | exact .inr rfl | assumption) : SS Γ X W (.AugAssign (.Name x pos') op e pos) (sAug i f me) := by
  obtain ⟨ta, pa, ea⟩ := ha.ex
  refine ⟨_, ps_aug hN hi hx pa ho hf, fun S H h σ env D R G p => ?_⟩
  unfold sAug at p
  split at p
  · rename_i d hd
    obtain ⟨v, h1, h2⟩ := G.2 i d hd
    refine ⟨v, h1, exES (t := ta) ea R G p fun y h1 S1 H1 w e1 R1 G1 r1 p1 => ?_⟩
    refine hl S1 H1 h1 d y v w _ (WE' W σ) R1 (h2.ext e1) r1 ?_
    cases z : f d y h1 with
    | ok q h2 =>
      rw [z] at p1
      exact fun S' H' b e r q => p1 S' H' _ e r ((G1.mono e).set q i)
    | exc C xs h2 =>
      rw [z] at p1
      exact fun S' H' dd e r q => p1 S' H' σ dd e r (G1.mono e) q
    | stuck => rw [z] at p1; exact p1
  · exact p.elim

/-! targets -/
theorem sg_name (i : Nat) {x : Str} (hN : X.N.Nodup) (hi : X.N[i]? = some x := by rfl) (hx : Loc X.env.scope x := by first | exact Or.inl rfl | exact Or.inr rfl) (hf : X.fn x = true ∨ X.env.scope.names.lookup x = some .local := by first | exact .inl rfl | exact .inr rfl | assumption) :
    SG Γ X W (.Name x pos) (gNm i) := ⟨_, pg_name hN hi hx hf, fun S H h σ env d v Q R G r p => p S H _ (Ext.refl _ _) R (G.set r i)⟩
/-- a store to a place, by values -/
def LiftS (Γ : Gm) (K : PySem.W.Frag) (r : TSet) (f : MV → MV → MV → MH → Out MV) : Prop :=
  ∀ S H h o i d u v w Q E, Rel Γ K S h H → Rep Γ K S o u → Rep Γ K S i v → Rep Γ K S d w → Post Γ K (Rep Γ K) S H (fun _ H' => Q H') E (f o i d h) → r u v w H Q
theorem sg_sub {o i : Expr} {mo mi : ME} {t : TSet} {f : MV → MV → MV → MH → Out MV} (ho : SE Γ X W o mo) (hi : SE Γ X W i mi) (hs : PSet X t) (hl : LiftS Γ X.K t f) {pos : Pos}
    (hA : ∀ v, assign (.Subscript o i pos) X.env v = (do
      let ov ← holding [v] (eval o X.env)
      let iv ← holding [v, ov] (eval i X.env)
      standAt pos
      holding [v, ov, iv] (setItem ov iv v)
      release [v, ov, iv] []) := by intro _; rfl) : SG Γ X W (.Subscript o i pos) (gSb mo mi f) := by
  obtain ⟨ta, pa, ea⟩ := ho.ex
  obtain ⟨tb, pb, eb⟩ := hi.ex
  refine ⟨_, pg_sub pa pb hs hA, fun S H h σ env d v Q R G r p => ?_⟩
  show ta σ H _
  have gen : ∀ {γ : Type} {S1 : Sh} {H1 : Hp} {x : Out γ} {k : γ → MH → Out MEnv} {β : Type} {R' : Sh → γ → β → Prop} {QQ : β → Hp → Prop}, PostG Γ X.K S1 H1 Q W σ (x.bind k) → (∀ a h2 S2 H2 b, Ext S1 H1 S2 H2 → Rel Γ X.K S2 h2 H2 → R' S2 a b → PostG Γ X.K S2 H2 Q W σ (k a h2) → QQ b H2) → Post Γ X.K R' S1 H1 QQ (WE' W σ) x := by
    intro γ S1 H1 x k β R' QQ hp hk
    cases x with
    | ok a h2 => exact fun S' H' b e r q => hk a h2 S' H' b e r q (by
        cases z : k a h2 with
        | ok env2 h3 =>
          have hp' : PostG Γ X.K S1 H1 Q W σ (k a h2) := hp
          rw [z] at hp'
          exact fun S2 H2 σ2 e2 => hp' S2 H2 σ2 (e.trans e2)
        | exc C xs h3 =>
          have hp' : PostG Γ X.K S1 H1 Q W σ (k a h2) := hp
          rw [z] at hp'
          exact fun S2 H2 dd e2 => hp' S2 H2 dd (e.trans e2)
        | stuck =>
          have hp' : PostG Γ X.K S1 H1 Q W σ (k a h2) := hp
          rw [z] at hp'; exact hp')
    | exc C xs h2 => exact hp
    | stuck => exact hp
  refine ea S H h σ env _ R G (gen p fun x h1 S1 H1 u e1 R1 r1 p1 => ?_)
  refine eb S1 H1 h1 σ env _ R1 (G.mono e1) (gen p1 fun y h2 S2 H2 w e2 R2 r2 p2 => ?_)
  refine hl S2 H2 h2 x y d u w v _ (WE' W σ) R2 (r1.ext e2) r2 ((r.ext e1).ext e2) (gen p2 fun _ h3 S3 H3 _ e3 R3 r3 p3 => ?_)
  exact p3 S3 H3 σ (Ext.refl _ _) R3 (((G.mono e1).mono e2).mono e3)
def fSetL : MV → MV → MV → MH → Out MV
  | .ref n, .int k, d, h => match h[n]? with
    | some (.lst xs) => match ixN xs.length k with
      | some j => .ok .non (h.set n (.lst (xs.set j d)))
      | none => .stuck
    | _ => .stuck
  | _, _, _, _ => .stuck
/-- writing a list cell -/
theorem storeL {S : Sh} {H : Hp} {h : MH} {n : Nat} {xs ys : List MV} {v : V} (R : Rel Γ K S h H) (hn : h[n]? = some (.lst xs)) (r : Rep Γ K S (.ref n) v) : ∃ a us, v = .ref a ∧ H a = some (.lst us) ∧ RepL Γ K S xs us ∧
    ∀ vs, RepL Γ K S ys vs → Rel Γ K S (h.set n (.lst ys)) (upd H a (.lst vs)) ∧ Ext S H S (upd H a (.lst vs)) := by
  unfold Rep at r
  obtain ⟨a, e1, rfl⟩ := r
  obtain ⟨z, us, q1, q2⟩ := R.cell n _ a hn e1
  exact ⟨a, us, rfl, q1, q2, fun vs rv => R.store e1 z ⟨z, vs, upd_same, rv⟩⟩
theorem lift_setL : LiftS Γ K rSetL fSetL := by
  intro S H h o i d u v w Q E R ro ri rd p
  unfold fSetL at p
  split at p
  · split at p
    · rename_i xs hx
      split at p
      · rename_i j hj
        obtain ⟨a, us, rfl, q1, q2, q3⟩ := storeL (ys := xs.set j d) R hx ro
        obtain ⟨R1, e1⟩ := q3 _ (repL_set rd j q2)
        exact ⟨a, us, _, j, rfl, rep_int ri, q1, by rw [← repL_len q2]; exact hj, p S _ .non e1 R1 is_non⟩
      · exact p.elim
    · exact p.elim
  · exact p.elim
structure SGs (Γ : Gm) (X : Cx) (W : WX) (es : List Expr) (gs : List MG) : Prop where
  ex : ∃ t : TGs, PGs X es t ∧ ∀ S H h σ env ds vs Q, Rel Γ X.K S h H → REnv Γ X.K S env σ → RepL Γ X.K S ds vs → PostG Γ X.K S H Q W σ (gTp gs ds env h) → t vs σ H Q
theorem gTp_nox : ∀ (gs : List MG) (ds : List MV) (env : MEnv) (h : MH), (∃ env' h', gTp gs ds env h = .ok env' h') ∨ gTp gs ds env h = .stuck
  | [], [], env, h => .inl ⟨env, h, rfl⟩
  | [], _ :: _, _, _ => .inr rfl
  | _ :: _, [], _, _ => .inr rfl
  | g :: gs, d :: ds, env, h => by
    unfold gTp
    cases z : g d env h with
    | ok env1 h1 => exact gTp_nox gs ds env1 h1
    | exc C xs h1 => exact .inr rfl
    | stuck => exact .inr rfl
theorem sgs_nil : SGs Γ X W [] [] := ⟨_, pgs_nil, fun S H h σ env ds vs Q R G r p => by
  cases ds with
  | nil => exact ⟨by unfold RepL at r; exact r, p S H σ (Ext.refl _ _) R G⟩
  | cons d ds => exact p.elim⟩
theorem sgs_cons {e : Expr} {es : List Expr} {g : MG} {gs : List MG} (h1 : SG Γ X W e g) (h2 : SGs Γ X W es gs) (hs : (assignEach (e :: es) X.env).map (·.2) = assign e X.env :: (assignEach es X.env).map (·.2) := by rfl) : SGs Γ X W (e :: es) (g :: gs) := by
  obtain ⟨t, pt, et⟩ := h1.ex
  obtain ⟨u, pu, eu⟩ := h2.ex
  refine ⟨_, pgs_cons pt pu hs, fun S H h σ env ds vs Q R G r p => ?_⟩
  cases ds with
  | nil => exact p.elim
  | cons d ds =>
    unfold RepL at r
    obtain ⟨v, vr, rfl, r1, r2⟩ := r
    refine ⟨v, vr, rfl, et S H h σ env d v _ R G r1 ?_⟩
    unfold gTp at p
    cases z : g d env h with
    | ok env1 h1 =>
      rw [z] at p
      refine fun S' H' σ' e R' G' => eu S' H' h1 σ' env1 ds vr Q R' G' (r2.ext e) ?_
      have p' : PostG Γ X.K S H Q W σ (gTp gs ds env1 h1) := p
      rcases gTp_nox gs ds env1 h1 with ⟨env2, h2, y⟩ | y
      · rw [y] at p' ⊢; exact fun S2 H2 σ2 e2 => p' S2 H2 σ2 (e.trans e2)
      · rw [y] at p'; exact p'.elim
    | exc C xs h1 => rw [z] at p; exact p.elim
    | stuck => rw [z] at p; exact p.elim
theorem sgs_len {Q : L2.St → Hp → Prop} {S : Sh} {H : Hp} {σ : L2.St} : ∀ {gs : List MG} {ds : List MV} {env : MEnv} {h : MH}, PostG Γ X.K S H Q W σ (gTp gs ds env h) → ds.length = gs.length
  | [], [], _, _, _ => rfl
  | [], _ :: _, _, _, p => p.elim
  | _ :: _, [], _, _, p => p.elim
  | g :: gs, d :: ds, env, h, p => by
    unfold gTp at p
    cases z : g d env h with
    | ok env1 h1 =>
      rw [z] at p
      have p' : PostG Γ X.K S H Q W σ (gTp gs ds env1 h1) := p
      rw [List.length_cons, List.length_cons, sgs_len p']
    | exc C xs h1 => rw [z] at p; exact p.elim
    | stuck => rw [z] at p; exact p.elim
theorem sg_tup {es : List Expr} {gs : List MG} {n : Nat} {x1 : Nat} {pos : Pos} (hc : X.calm = true) (hp : SGs Γ X W es gs) (hl : gs.length = n := by rfl) (hn : (assignEach es X.env).length = n := by rfl) (hst : (assignEach es X.env).findIdx? (·.1) = none := by rfl) : SG Γ X W (.Tuple es x1 pos) (gTup gs) := by
  obtain ⟨t, pt, et⟩ := hp.ex
  refine ⟨_, pg_tup hc pt hn hst, fun S H h σ env d v Q R G r p => ?_⟩
  unfold gTup at p
  split at p
  · rename_i xs
    obtain ⟨a, us, rfl, q2, q3⟩ := tup_ok R r
    exact ⟨a, us, rfl, q2, by rw [← repL_len q3, sgs_len p, hl], et S H h σ env xs us Q R G q3 p⟩
  · exact p.elim
end
end Mn
/-! ## MnE -/
set_option Elab.async false
set_option linter.all false
set_option maxRecDepth 100000
/-! Mn, part E: loops, comprehensions, calls of defs, bodies. -/
namespace Mn
open PySem PySem.Spec PyProof.Rows L2

section
variable {Γ : Gm} {K : PySem.W.Frag} {X : Cx} {W : WX} {S : Sh} {H : Hp} {h : MH}

/-! ### iterators -/
theorem itst_list {a : Addr} {xs : List MV} {us : List V} (hs : SqL K S.Hs a us) (r : RepL Γ K S xs us) : ItSt Γ K (Itl K a) S xs := by
  intro S' h' H' i e ix R
  have q : SqL K H' a us := by
    rcases hs with (q | ⟨o, q⟩) | q
    · exact .inl (.inl (R.sub _ _ (e _ _ q)))
    · exact .inl (.inr ⟨o, R.sub _ _ (e _ _ q)⟩)
    · exact .inr q
  refine ⟨fun z => ⟨us, q, ?_⟩, fun x z => ?_⟩
  · rw [← repL_len r]; exact List.getElem?_eq_none_iff.mp z
  · obtain ⟨u, h1, h2⟩ := repL_get r z
    refine ⟨⟨us, u, q, h1⟩, fun v H'' y => ?_⟩
    obtain ⟨rfl, y⟩ := y
    have := y us q
    rw [h1] at this
    cases this
    exact ⟨rfl, rep_mono e ix _ _ h2⟩
theorem itst_tup {a : Addr} {xs : List MV} {us : List V} (hs : SqT K S.Hs a us) (r : RepL Γ K S xs us) : ItSt Γ K (Itt K a) S xs := by
  intro S' h' H' i e ix R
  have q : SqT K H' a us := by
    rcases hs with (q | ⟨o, q⟩) | q
    · exact .inl (.inl (R.sub _ _ (e _ _ q)))
    · exact .inl (.inr ⟨o, R.sub _ _ (e _ _ q)⟩)
    · exact .inr q
  refine ⟨fun z => ⟨us, q, ?_⟩, fun x z => ?_⟩
  · rw [← repL_len r]; exact List.getElem?_eq_none_iff.mp z
  · obtain ⟨u, h1, h2⟩ := repL_get r z
    refine ⟨⟨us, u, q, h1⟩, fun v H'' y => ?_⟩
    obtain ⟨rfl, y⟩ := y
    have := y us q
    rw [h1] at this
    cases this
    exact ⟨rfl, rep_mono e ix _ _ h2⟩
theorem itlv {n : Nat} {a : Addr} (hn : S.ι[n]? = some a) : ItLv Γ K (Itl K a) S n := by
  intro S' h' H' i xs e ix R hx
  obtain ⟨_, us, q1, q2⟩ := R.cell n _ a hx (ix _ _ hn)
  refine ⟨fun z => ⟨us, SqL.of q1, ?_⟩, fun x z => ?_⟩
  · rw [← repL_len q2]; exact List.getElem?_eq_none_iff.mp z
  · obtain ⟨u, h1, h2⟩ := repL_get q2 z
    refine ⟨⟨us, u, SqL.of q1, h1⟩, fun v H'' y => ?_⟩
    obtain ⟨rfl, y⟩ := y
    have := y us (SqL.of q1)
    rw [h1] at this
    cases this
    exact ⟨rfl, h2⟩
theorem itst_str (z : Str) : ItSt Γ K (Its z) S (charsOf z) := by
  intro S' h' H' i e ix R
  unfold charsOf
  refine ⟨fun q => ?_, fun x q => ?_⟩
  · have := List.getElem?_eq_none_iff.mp q
    rw [List.length_map] at this
    exact this
  · rw [List.getElem?_map] at q
    cases w : z.cps.toList[i]? with
    | none => rw [w] at q; cases q
    | some c =>
      rw [w] at q; cases q
      have hi := (List.getElem?_eq_some_iff.mp w).1
      refine ⟨hi, fun v H'' y => ?_⟩
      obtain ⟨rfl, c', h1, rfl⟩ := y
      rw [Array.getElem?_toList] at w
      rw [w] at h1
      cases h1
      exact ⟨rfl, is_str⟩
theorem itst_range (lo : Int) (n : Nat) : ItSt Γ K (Itr lo n) S (rangeM lo n) := by
  intro S' h' H' i e ix R
  unfold rangeM
  refine ⟨fun q => ?_, fun x q => ?_⟩
  · have := List.getElem?_eq_none_iff.mp q
    rw [List.length_map, List.length_range] at this
    exact this
  · rw [List.getElem?_map] at q
    cases w : (List.range n)[i]? with
    | none => rw [w] at q; cases q
    | some c =>
      rw [w] at q; cases q
      obtain ⟨hi, hc⟩ := List.getElem?_eq_some_iff.mp w
      rw [List.length_range] at hi
      rw [List.getElem_range] at hc
      subst hc
      refine ⟨hi, fun v H'' y => ?_⟩
      obtain ⟨rfl, rfl⟩ := y
      exact ⟨rfl, is_int⟩
theorem exEI {t : TE} {m : ME} {f : MV → MH → Out IterV} {σ : L2.St} {env : MEnv} {R' : It → Hp → Prop} {QQ : VK} (ht : ExE Γ K W t m) (R : Rel Γ K S h H) (G : REnv Γ K S env σ)
    (hp : PostI Γ K S H R' W σ ((m env h).bind f))
    (k : ∀ a h1 S1 H1 v, m env h = .ok a h1 → Ext S H S1 H1 → Rel Γ K S1 h1 H1 → Rep Γ K S1 a v → PostI Γ K S1 H1 R' W σ (f a h1) → QQ v H1) : t σ H QQ := by
  refine ht S H h σ env QQ R G ?_
  cases z : m env h with
  | ok a h1 =>
    rw [z] at hp
    refine fun S' H' b e r q => k a h1 S' H' b z e r q ?_
    have hp' : PostI Γ K S H R' W σ (f a h1) := hp
    cases y : f a h1 with
    | ok iv h2 =>
      rw [y] at hp'
      cases iv with
      | st xs => exact fun S2 H2 J e2 => hp' S2 H2 J (e.trans e2)
      | lv n => exact fun S2 H2 J e2 => hp' S2 H2 J (e.trans e2)
    | exc C xs h2 => rw [y] at hp'; exact fun S2 H2 dd e2 => hp' S2 H2 dd (e.trans e2)
    | stuck => rw [y] at hp'; exact hp'
  | exc C xs h1 => rw [z] at hp; exact hp
  | stuck => rw [z] at hp; exact hp
theorem PI.or {tg l : Expr} {w1 w2 : TI} (a : PI X tg l w1) (b : PI X tg l w2) : PI X tg l (fun σ H R => w1 σ H R ∨ w2 σ H R) := by
  refine ⟨fun pins s σ H R I h => ?_⟩
  rcases h with h | h
  · exact a.run pins s σ H R I h
  · exact b.run pins s σ H R I h
variable {tg e c : Expr} {me : ME} {mt : MT} {ms : MA} {pos p : Pos}
theorem si_seq (he : SE Γ X W e me) : SI Γ X W tg e (iSeq me) := by
  obtain ⟨t, pt, et⟩ := he.ex
  refine ⟨_, PI.or (pi_tup pt) (PI.or (pi_list pt) (pi_str pt)), fun S H h σ env R' R G q => ?_⟩
  unfold iSeq at q
  cases z : me env h with
  | ok d h1 =>
    cases d with
    | tup xs =>
      refine .inl (exEI (t := t) et R G q fun a h2 S1 H1 v y e1 R1 r1 p1 => ?_)
      rw [z] at y; cases y
      have r1' := r1
      unfold Rep at r1'
      obtain ⟨a, us, rfl, q2, q3⟩ := r1'
      exact ⟨a, rfl, ⟨us, sqT_sub R1 q2⟩, p1 S1 H1 _ (Ext.refl _ _) R1 (itst_tup q2 q3)⟩
    | fl xs =>
      refine .inr (.inl (exEI (t := t) et R G q fun a h2 S1 H1 v y e1 R1 r1 p1 => ?_))
      rw [z] at y; cases y
      have r1' := r1
      unfold Rep at r1'
      obtain ⟨a, us, rfl, q2, q3⟩ := r1'
      exact ⟨a, rfl, ⟨us, SqL.of (R1.sub _ _ q2)⟩, p1 S1 H1 _ (Ext.refl _ _) R1 (itst_list (SqL.of q2) q3)⟩
    | sl xs =>
      refine .inr (.inl (exEI (t := t) et R G q fun a h2 S1 H1 v y e1 R1 r1 p1 => ?_))
      rw [z] at y; cases y
      have r1' := r1
      unfold Rep at r1'
      obtain ⟨a, us, rfl, q2, q3⟩ := r1'
      obtain ⟨a', us', ea, q4, _⟩ := lstAt_ok (h := h1) (d := .sl xs) (xs := xs) R1 rfl r1
      cases ea
      exact ⟨a, rfl, ⟨us', q4⟩, p1 S1 H1 _ (Ext.refl _ _) R1 (itst_list q2 q3)⟩
    | ref n =>
      refine .inr (.inl (exEI (t := t) et R G q fun a h2 S1 H1 v y e1 R1 r1 p1 => ?_))
      rw [z] at y; cases y
      simp only at p1
      split at p1
      · rename_i xs hx
        have r1' := r1
        unfold Rep at r1'
        obtain ⟨a, q2, rfl⟩ := r1'
        obtain ⟨_, us, q3, _⟩ := R1.cell n _ a hx q2
        exact ⟨a, rfl, ⟨us, SqL.of q3⟩, p1 S1 H1 _ (Ext.refl _ _) R1 (itlv q2)⟩
      · exact p1.elim
    | str x =>
      refine .inr (.inr (exEI (t := t) et R G q fun a h2 S1 H1 v y e1 R1 r1 p1 => ?_))
      rw [z] at y; cases y
      exact ⟨x, rep_str r1, p1 S1 H1 _ (Ext.refl _ _) R1 (itst_str x)⟩
    | non => rw [z] at q; exact q.elim
    | bl _ => rw [z] at q; exact q.elim
    | int _ => rw [z] at q; exact q.elim
    | ob _ _ _ => rw [z] at q; exact q.elim
    | exo _ _ _ _ => rw [z] at q; exact q.elim
  | exc C xs h1 => exact .inl (exEI (t := t) et R G q fun a h2 S1 H1 v y => by rw [z] at y; cases y)
  | stuck => rw [z] at q; exact q.elim
theorem exAI {t : TA} {m : MA} {f : List MV → MH → Out IterV} {σ : L2.St} {env : MEnv} {R' : It → Hp → Prop} {QQ : List V → Hp → Prop} (ht : ExA Γ K W t m) (R : Rel Γ K S h H) (G : REnv Γ K S env σ)
    (hp : PostI Γ K S H R' W σ ((m env h).bind f))
    (k : ∀ a h1 S1 H1 v, Ext S H S1 H1 → Rel Γ K S1 h1 H1 → RepL Γ K S1 a v → PostI Γ K S1 H1 R' W σ (f a h1) → QQ v H1) : t σ H QQ := by
  refine ht S H h σ env QQ R G ?_
  cases z : m env h with
  | ok a h1 =>
    rw [z] at hp
    refine fun S' H' b e r q => k a h1 S' H' b e r q ?_
    have hp' : PostI Γ K S H R' W σ (f a h1) := hp
    cases y : f a h1 with
    | ok iv h2 =>
      rw [y] at hp'
      cases iv with
      | st xs => exact fun S2 H2 J e2 => hp' S2 H2 J (e.trans e2)
      | lv n => exact fun S2 H2 J e2 => hp' S2 H2 J (e.trans e2)
    | exc C xs h2 => rw [y] at hp'; exact fun S2 H2 dd e2 => hp' S2 H2 dd (e.trans e2)
    | stuck => rw [y] at hp'; exact hp'
  | exc C xs h1 => rw [z] at hp; exact hp
  | stuck => rw [z] at hp; exact hp
theorem repL_1 {d : MV} {vs : List V} (r : RepL Γ K S [d] vs) : ∃ v, vs = [v] ∧ Rep Γ K S d v := by
  unfold RepL at r
  obtain ⟨u, r', rfl, q1, q2⟩ := r
  unfold RepL at q2
  subst q2
  exact ⟨u, rfl, q1⟩
theorem repL_2 {d e : MV} {vs : List V} (r : RepL Γ K S [d, e] vs) : ∃ v w, vs = [v, w] ∧ Rep Γ K S d v ∧ Rep Γ K S e w := by
  unfold RepL at r
  obtain ⟨u, r', rfl, q1, q2⟩ := r
  obtain ⟨w, rfl, q3⟩ := repL_1 q2
  exact ⟨u, w, rfl, q1, q3⟩
theorem si_range1 {a : Expr} (hm : X.mg "range" = none) (ha : SA Γ X W [a] ms) (hg : Gl X "range" := by rfl) (hs : starEach [a] X.env = [(false, eval a X.env)] := by rfl) : SI Γ X W tg (.Call (.Name "range" p) [a] [] pos) (iRange1 ms) := by
  obtain ⟨t, pt, et⟩ := ha.ex
  refine ⟨_, pi_range1 hg hm pt hs, fun S H h σ env R' R G q => exAI (t := t) et R G q fun vs h1 S1 H1 us e1 R1 r1 p1 => ?_⟩
  split at p1
  · rename_i j
    obtain ⟨v, rfl, q1⟩ := repL_1 r1
    split at p1
    · rename_i hz
      exact ⟨j, by rw [rep_int q1], hz.1, hz.2, p1 S1 H1 _ (Ext.refl _ _) R1 (itst_range 0 j.toNat)⟩
    · exact p1.elim
  · exact p1.elim
theorem si_range2 {a b : Expr} (hm : X.mg "range" = none) (ha : SA Γ X W [a, b] ms) (hg : Gl X "range" := by rfl) (hs : starEach [a, b] X.env = [(false, eval a X.env), (false, eval b X.env)] := by rfl) (hs2 : starEach [b] X.env = [(false, eval b X.env)] := by rfl) : SI Γ X W tg (.Call (.Name "range" p) [a, b] [] pos) (iRange2 ms) := by
  obtain ⟨t, pt, et⟩ := ha.ex
  refine ⟨_, pi_range2 hg hm pt hs hs2, fun S H h σ env R' R G q => exAI (t := t) et R G q fun vs h1 S1 H1 us e1 R1 r1 p1 => ?_⟩
  split at p1
  · rename_i i j
    obtain ⟨v, w, rfl, q1, q2⟩ := repL_2 r1
    split at p1
    · rename_i hz
      exact ⟨i, j, by rw [rep_int q1, rep_int q2], hz, p1 S1 H1 _ (Ext.refl _ _) R1 (itst_range i (j - i).toNat)⟩
    · exact p1.elim
  · exact p1.elim

/-! ### while -/
variable {sb : List Stmt} {b : MS}
theorem ss_while {n : Nat} (hp : PassesOwn (model X.prog X.w) X.A X.env X.xe) (ht : ST Γ X W c mt) (hb : SSs Γ X W sb b) : SS Γ X W (.While c sb [] pos) (sWhile mt b n) := by
  obtain ⟨tc, pc, ec⟩ := ht.ex
  obtain ⟨tb, pb, eb⟩ := hb.ex
  refine ⟨_, ps_while hp pc pb, fun S H h σ env D R G q => ?_⟩
  refine ⟨fun m σ' H' => ∃ S' h' env', Ext S H S' H' ∧ Rel Γ X.K S' h' H' ∧ REnv Γ X.K S' env' σ' ∧ PostS Γ X.K S' H' D W (sWhile mt b m env' h'), ⟨n, S, h, env, Ext.refl _ _, R, G, q⟩, ?_⟩
  rintro m σ1 H1 ⟨S1, h1, env1, e1, R1, G1, q1⟩
  cases m with
  | zero => exact q1.elim
  | succ m =>
    unfold sWhile at q1
    refine exTS (t := tc) ec R1 G1 q1 fun a h2 S2 H2 e2 R2 G2 q2 => ?_
    cases a with
    | false =>
      rw [if_neg Bool.false_ne_true] at q2 ⊢
      exact q2 S2 H2 σ1 (Ext.refl _ _) R2 G2
    | true =>
      rw [if_pos rfl] at q2 ⊢
      refine ⟨fun σ' H' => ∃ S' h' env', Ext S H S' H' ∧ Rel Γ X.K S' h' H' ∧ REnv Γ X.K S' env' σ' ∧ PostS Γ X.K S' H' D W (sWhile mt b m env' h'), fun σ' H' w => ⟨m, Nat.lt_succ_self m, w⟩, ?_⟩
      refine eb S2 H2 h2 σ1 env1 _ R2 G2 ?_
      cases z : b env1 h2 with
      | ok f env3 h3 =>
        rw [z] at q2
        cases f with
        | nx => exact fun S3 H3 σ3 e3 R3 G3 => ⟨S3, h3, env3, (e1.trans e2).trans e3, R3, G3, PostS.ext q2 e3⟩
        | ct => exact fun S3 H3 σ3 e3 R3 G3 => ⟨S3, h3, env3, (e1.trans e2).trans e3, R3, G3, PostS.ext q2 e3⟩
        | bk => exact q2
        | rt d => exact q2
      | exc C xs env3 h3 => rw [z] at q2; exact q2
      | stuck => rw [z] at q2; exact q2

/-! ### for -/
theorem for_st {g : MG} {tgt : TG} {tb : TS} (eg : ExG Γ K W tgt g) (eb : ExS Γ K W tb b) {J : It} {xs : List MV} {σ : L2.St} {env : MEnv} {D : Ends} (R : Rel Γ K S h H) (G : REnv Γ K S env σ) (it : ItSt Γ K J S xs) (q : PostS Γ K S H D W (sForL g b xs env h)) :
    ∃ W' : Nat → Nat → L2.St → Hp → Prop, (∃ m, W' 0 m σ H) ∧ ∀ i m σ H, W' i m σ H →
      (J.stop i H ∧ D.nx σ H) ∨ (J.go i H ∧ ∃ N : L2.St → Hp → Prop, (∀ σ' H', N σ' H' → ∃ m', m' < m ∧ W' (i + 1) m' σ' H') ∧ ∀ x H', J.yld i H x H' → tgt x σ H' fun σ2 H2 => tb { D with nx := N, ct := N, bk := D.nx } σ2 H2) := by
  refine ⟨fun i m σ' H' => m = xs.length - i ∧ i ≤ xs.length ∧ ∃ S' h' env', Ext S H S' H' ∧ Rel Γ K S' h' H' ∧ REnv Γ K S' env' σ' ∧ PostS Γ K S' H' D W (sForL g b (xs.drop i) env' h'), ⟨xs.length, by simp, Nat.zero_le _, S, h, env, Ext.refl _ _, R, G, q⟩, ?_⟩
  rintro i m σ1 H1 ⟨rfl, hi, S1, h1, env1, e1, R1, G1, q1⟩
  obtain ⟨it1, it2⟩ := it S1 h1 H1 i e1.hs e1.ix R1
  by_cases hlt : i < xs.length
  · have hx : xs[i]? = some xs[i] := List.getElem?_eq_getElem hlt
    obtain ⟨go, yl⟩ := it2 _ hx
    rw [List.drop_eq_getElem_cons hlt] at q1
    unfold sForL at q1
    refine .inr ⟨go, fun σ' H' => ∃ S' h' env', Ext S H S' H' ∧ Rel Γ K S' h' H' ∧ REnv Γ K S' env' σ' ∧ PostS Γ K S' H' D W (sForL g b (xs.drop (i + 1)) env' h'), fun σ' H' w => ⟨xs.length - (i + 1), by omega, rfl, hlt, w⟩, fun v H' y => ?_⟩
    obtain ⟨rfl, rv⟩ := yl v H' y
    refine exGS (t := tgt) eg R1 G1 rv q1 fun env2 h2 S2 H2 σ2 e2 R2 G2 q2 => ?_
    refine eb S2 H2 h2 σ2 env2 _ R2 G2 ?_
    cases z : b env2 h2 with
    | ok f env3 h3 =>
      rw [z] at q2
      cases f with
      | nx => exact fun S3 H3 σ3 e3 R3 G3 => ⟨S3, h3, env3, (e1.trans e2).trans e3, R3, G3, PostS.ext q2 e3⟩
      | ct => exact fun S3 H3 σ3 e3 R3 G3 => ⟨S3, h3, env3, (e1.trans e2).trans e3, R3, G3, PostS.ext q2 e3⟩
      | bk => exact q2
      | rt d => exact q2
    | exc C xs env3 h3 => rw [z] at q2; exact q2
    | stuck => rw [z] at q2; exact q2
  · have hz : xs[i]? = none := List.getElem?_eq_none_iff.mpr (by omega)
    have hd : xs.drop i = [] := List.drop_eq_nil_iff.mpr (by omega)
    rw [hd] at q1
    exact .inl ⟨it1 hz, q1 S1 H1 σ1 (Ext.refl _ _) R1 G1⟩
theorem for_lv {g : MG} {tgt : TG} {tb : TS} (eg : ExG Γ K W tgt g) (eb : ExS Γ K W tb b) {J : It} {n : Nat} {σ : L2.St} {env : MEnv} {D : Ends} {N0 : Nat} (R : Rel Γ K S h H) (G : REnv Γ K S env σ) (it : ItLv Γ K J S n) (q : PostS Γ K S H D W (sForR g b n N0 0 env h)) :
    ∃ W' : Nat → Nat → L2.St → Hp → Prop, (∃ m, W' 0 m σ H) ∧ ∀ i m σ H, W' i m σ H →
      (J.stop i H ∧ D.nx σ H) ∨ (J.go i H ∧ ∃ N : L2.St → Hp → Prop, (∀ σ' H', N σ' H' → ∃ m', m' < m ∧ W' (i + 1) m' σ' H') ∧ ∀ x H', J.yld i H x H' → tgt x σ H' fun σ2 H2 => tb { D with nx := N, ct := N, bk := D.nx } σ2 H2) := by
  refine ⟨fun i m σ' H' => ∃ S' h' env', Ext S H S' H' ∧ Rel Γ K S' h' H' ∧ REnv Γ K S' env' σ' ∧ PostS Γ K S' H' D W (sForR g b n m i env' h'), ⟨N0, S, h, env, Ext.refl _ _, R, G, q⟩, ?_⟩
  rintro i m σ1 H1 ⟨S1, h1, env1, e1, R1, G1, q1⟩
  cases m with
  | zero => exact q1.elim
  | succ m =>
    unfold sForR at q1
    split at q1
    · rename_i xs hxs
      obtain ⟨it1, it2⟩ := it S1 h1 H1 i xs e1.hs e1.ix R1 hxs
      split at q1
      · rename_i hz
        exact .inl ⟨it1 hz, q1 S1 H1 σ1 (Ext.refl _ _) R1 G1⟩
      · rename_i x hx
        obtain ⟨go, yl⟩ := it2 _ hx
        refine .inr ⟨go, fun σ' H' => ∃ S' h' env', Ext S H S' H' ∧ Rel Γ K S' h' H' ∧ REnv Γ K S' env' σ' ∧ PostS Γ K S' H' D W (sForR g b n m (i + 1) env' h'), fun σ' H' w => ⟨m, Nat.lt_succ_self m, w⟩, fun v H' y => ?_⟩
        obtain ⟨rfl, rv⟩ := yl v H' y
        refine exGS (t := tgt) eg R1 G1 rv q1 fun env2 h2 S2 H2 σ2 e2 R2 G2 q2 => ?_
        refine eb S2 H2 h2 σ2 env2 _ R2 G2 ?_
        cases z : b env2 h2 with
        | ok f env3 h3 =>
          rw [z] at q2
          cases f with
          | nx => exact fun S3 H3 σ3 e3 R3 G3 => ⟨S3, h3, env3, (e1.trans e2).trans e3, R3, G3, PostS.ext q2 e3⟩
          | ct => exact fun S3 H3 σ3 e3 R3 G3 => ⟨S3, h3, env3, (e1.trans e2).trans e3, R3, G3, PostS.ext q2 e3⟩
          | bk => exact q2
          | rt d => exact q2
        | exc C xs env3 h3 => rw [z] at q2; exact q2
        | stuck => rw [z] at q2; exact q2
    · exact q1.elim
theorem ss_for {g : MG} {mi : MIt} (hp : PassesOwn (model X.prog X.w) X.A X.env X.xe) (hc : X.calm = true) (hi : SI Γ X W tg e mi) (hg : SG Γ X W tg g) (hb : SSs Γ X W sb b) (hs : ∀ x, foldedSetIterable e X.env x = pure x := by intro _; rfl) : SS Γ X W (.For tg e sb [] pos) (sFor mi g b) := by
  obtain ⟨wi, pi, ei⟩ := hi.ex
  obtain ⟨tgt, pg, eg⟩ := hg.ex
  obtain ⟨tb, pb, eb⟩ := hb.ex
  refine ⟨_, ps_for hp hc pi pg pb hs, fun S H h σ env D R G q => ?_⟩
  refine ei S H h σ env _ R G ?_
  unfold sFor at q
  cases z : mi env h with
  | ok iv h1 =>
    rw [z] at q
    cases iv with
    | st xs => exact fun S1 H1 J e1 R1 it => for_st eg eb R1 (G.mono e1) it (PostS.ext q e1)
    | lv n => exact fun S1 H1 J e1 R1 it => for_lv eg eb R1 (G.mono e1) it (PostS.ext q e1)
  | exc C xs h1 => rw [z] at q; exact fun S1 H1 dd e1 R1 x1 => q S1 H1 σ dd e1 R1 (G.mono e1) x1
  | stuck => rw [z] at q; exact q

/-! ### comprehensions -/
abbrev W0 : WX := fun _ _ _ _ => False
theorem post_nox {α β γ : Type} {R' : Sh → α → β → Prop} {f : α → MH → Out (List MV)} {x : Out α} {P : Out (List MV) → Prop} (hs : ¬ P .stuck) (hp : P (x.nox.bind f)) : ∃ a h, x = .ok a h ∧ P (f a h) := by
  cases x with
  | ok a h => exact ⟨a, h, rfl, hp⟩
  | exc C xs h => exact absurd hp hs
  | stuck => exact absurd hp hs
/-- what the walk of a comprehension keeps: D holds what is made so far, and is no cell of ours -/
structure AtD (Γ : Gm) (K : PySem.W.Frag) (D : Addr) (S1 : Sh) (H1 : Hp) (acc : List MV) (S : Sh) (h : MH) (H : Hp) : Prop where
  ext : Ext S1 H1 S H
  rel : Rel Γ K S h H
  at_ : ∃ us, H D = some (.lst us) ∧ RepL Γ K S acc us
  no : S.Hs D = none
  ni : D ∉ S.ι
theorem AtD.step {D : Addr} {S1 S' : Sh} {H1 H' : Hp} {acc : List MV} {h' : MH} (a : AtD Γ K D S1 H1 acc S h H) (e : Ext S H S' H') (R : Rel Γ K S' h' H') : AtD Γ K D S1 H1 acc S' h' H' := by
  obtain ⟨us, q1, q2⟩ := a.at_
  obtain ⟨f1, f2, f3⟩ := e.fr D _ q1 a.no a.ni
  exact ⟨a.ext.trans e, R, ⟨us, f1, q2.ext e⟩, f2, f3⟩
theorem Rel.other {D : Addr} {o : HO} (R : Rel Γ K S h H) (no : S.Hs D = none) (ni : D ∉ S.ι) : Rel Γ K S h (upd H D o) := by
  refine ⟨fun a u e => ?_, R.len, R.nd, fun a hm => ?_, fun n c a h1 h2 => ?_⟩
  · have na : a ≠ D := fun z => by rw [z, no] at e; cases e
    rw [upd_ne na]; exact R.sub a u e
  · have na : a ≠ D := fun z => ni (z ▸ hm)
    rw [upd_ne na]; exact R.trk a hm
  · have na : a ≠ D := fun z => ni (z ▸ List.mem_of_getElem? h2)
    exact (R.cell n c a h1 h2).mono (fun _ _ e => e) (fun _ _ e => e) (fun z => z) (fun u e => by rw [upd_ne na]; exact e)
theorem AtD.push {D : Addr} {S1 : Sh} {H1 : Hp} {acc : List MV} {y : MV} {v : V} (a : AtD Γ K D S1 H1 acc S h H) (hn : H1 D = none) (r : Rep Γ K S y v) : ∃ us, H D = some (.lst us) ∧ us.length = acc.length ∧ AtD Γ K D S1 H1 (acc ++ [y]) S h (upd H D (.lst (us ++ [v]))) := by
  obtain ⟨us, q1, q2⟩ := a.at_
  refine ⟨us, q1, (repL_len q2).symm, ⟨⟨a.ext.hs, a.ext.ix, fun b o h1 h2 h3 => ?_⟩, a.rel.other a.no a.ni, ⟨_, upd_same, repL_app q2 (repL_cons r repL_nil)⟩, a.no, a.ni⟩⟩
  obtain ⟨f1, f2, f3⟩ := a.ext.fr b o h1 h2 h3
  have nb : b ≠ D := fun z => by rw [z, hn] at h1; cases h1
  exact ⟨by rw [upd_ne nb]; exact f1, f2, f3⟩
theorem AtD.begin {D : Addr} (R : Rel Γ K S h H) (hn : H D = none) : AtD Γ K D S H [] S h (upd H D (.lst [])) := by
  have no : S.Hs D = none := by
    cases z : S.Hs D with
    | none => rfl
    | some o => rw [R.sub _ _ z] at hn; cases hn
  have ni : D ∉ S.ι := fun hm => by
    obtain ⟨o, e⟩ := R.trk D hm
    rw [hn] at e; cases e
  refine ⟨⟨fun _ _ e => e, fun _ _ e => e, fun b o h1 h2 h3 => ⟨?_, h2, h3⟩⟩, R.other no ni, ⟨[], upd_same, repL_nil⟩, no, ni⟩
  rw [upd_ne (ne_of_none h1 hn)]; exact h1
theorem AtD.end_ {D : Addr} {S1 : Sh} {H1 : Hp} {acc : List MV} {bb : Bool} {Q : VK} {E : XK} (a : AtD Γ K D S1 H1 acc S h H) (hn : H1 D = none) (p : Post Γ K (Rep Γ K) S1 H1 Q E (retL bb acc h)) : Q (.ref D) H := by
  obtain ⟨us, q1, q2⟩ := a.at_
  have R := a.rel
  have m1 : ∀ b u, S.Hs b = some u → upd S.Hs D (.lst us) b = some u := fun b u e => by
    have nb : b ≠ D := fun z => by rw [z, a.no] at e; cases e
    rw [upd_ne nb]; exact e
  cases bb with
  | false =>
    have e' : Ext S1 H1 ⟨upd S.Hs D (.lst us), S.ι⟩ H := ⟨fun b o e => m1 _ _ (a.ext.hs b o e), a.ext.ix, fun b o h1 h2 h3 => by
      obtain ⟨f1, f2, f3⟩ := a.ext.fr b o h1 h2 h3
      have nb : b ≠ D := fun z => by rw [z, hn] at h1; cases h1
      refine ⟨f1, ?_, f3⟩
      show upd S.Hs D (.lst us) b = none
      rw [upd_ne nb]; exact f2⟩
    refine p ⟨upd S.Hs D (.lst us), S.ι⟩ H (.ref D) e' ⟨fun b u e => ?_, R.len, R.nd, R.trk, fun n c b h1 h2 => ?_⟩ ?_
    · have e' : upd S.Hs D (.lst us) b = some u := e
      by_cases hb : b = D
      · subst hb; rw [upd_same] at e'; cases e'; exact q1
      · rw [upd_ne hb] at e'; exact R.sub _ _ e'
    · have nb : b ≠ D := fun z => a.ni (z ▸ List.mem_of_getElem? h2)
      refine (R.cell n c b h1 h2).mono m1 (fun _ _ e => e) (fun z => ?_) (fun u e => e)
      show upd S.Hs D (.lst us) b = none
      rw [upd_ne nb]; exact z
    · unfold Rep
      exact ⟨D, us, rfl, upd_same, repL_mono (S := S) (S' := ⟨upd S.Hs D (.lst us), S.ι⟩) m1 (fun _ _ e => e) _ _ q2⟩
  | true =>
    have m2 : ∀ (n : Nat) (b : Addr), S.ι[n]? = some b → (S.ι ++ [D])[n]? = some b := fun n b e => by
      rw [List.getElem?_append_left (List.getElem?_eq_some_iff.mp e).1]; exact e
    have e' : Ext S1 H1 ⟨S.Hs, S.ι ++ [D]⟩ H := ⟨a.ext.hs, fun n b e => m2 n b (a.ext.ix n b e), fun b o h1 h2 h3 => by
      obtain ⟨f1, f2, f3⟩ := a.ext.fr b o h1 h2 h3
      have nb : b ≠ D := fun z => by rw [z, hn] at h1; cases h1
      refine ⟨f1, f2, fun hm => ?_⟩
      rcases List.mem_append.mp (show b ∈ S.ι ++ [D] from hm) with hm | hm
      · exact f3 hm
      · exact nb (by simpa using hm)⟩
    refine p ⟨S.Hs, S.ι ++ [D]⟩ H (.ref D) e' ⟨R.sub, ?_, ?_, fun b hm => ?_, fun n c b h1 h2 => ?_⟩ ?_
    · show (S.ι ++ [D]).length = (h ++ [_]).length
      rw [List.length_append, List.length_append, R.len]; rfl
    · show (S.ι ++ [D]).Nodup
      rw [List.nodup_append]
      refine ⟨R.nd, by simp, fun b hb d hd => ?_⟩
      have : d = D := by simpa using hd
      subst this
      exact fun z => a.ni (z ▸ hb)
    · rcases List.mem_append.mp (show b ∈ S.ι ++ [D] from hm) with hm | hm
      · exact R.trk b hm
      · have : b = D := by simpa using hm
        subst this; exact ⟨_, q1⟩
    · have h2' : (S.ι ++ [D])[n]? = some b := h2
      by_cases hn' : n < h.length
      · rw [List.getElem?_append_left hn'] at h1
        rw [List.getElem?_append_left (by rw [R.len]; exact hn')] at h2'
        exact (R.cell n c b h1 h2').mono (S' := ⟨S.Hs, S.ι ++ [D]⟩) (fun _ _ e => e) m2 (fun z => z) (fun u e => e)
      · have hn'' : n = h.length := by
          have := (List.getElem?_eq_some_iff.mp h1).1
          rw [List.length_append] at this
          simp only [List.length_cons, List.length_nil] at this
          omega
        subst hn''
        rw [List.getElem?_append_right (Nat.le_refl _), Nat.sub_self] at h1
        rw [List.getElem?_append_right (by rw [R.len]; exact Nat.le_refl _), R.len, Nat.sub_self] at h2'
        simp only [List.getElem?_cons_zero, Option.some.injEq] at h1 h2'
        subst h1 h2'
        exact ⟨a.no, us, q1, repL_mono (S := S) (S' := ⟨S.Hs, S.ι ++ [D]⟩) (fun _ _ e => e) m2 _ _ q2⟩
    · unfold Rep
      exact ⟨D, by show (S.ι ++ [D])[h.length]? = some D; rw [← R.len]; simp, rfl⟩
/-- the weakest readings -/
def tOf (Γ : Gm) (K : PySem.W.Frag) (W : WX) (m : ME) : TE := fun σ H Q => ∃ S h env, Rel Γ K S h H ∧ REnv Γ K S env σ ∧ Post Γ K (Rep Γ K) S H Q (WE' W σ) (m env h)
def tOfT (Γ : Gm) (K : PySem.W.Frag) (W : WX) (m : MT) : TT := fun σ H Q => ∃ S h env, Rel Γ K S h H ∧ REnv Γ K S env σ ∧ Post Γ K (fun _ (a b : Bool) => b = a) S H Q (WE' W σ) (m env h)
theorem SE.of (h : SE Γ X W e me) : PE X e (tOf Γ X.K W me) := by
  obtain ⟨t, pt, et⟩ := h.ex
  exact ⟨fun pins s σ H Q I ⟨S, h, env, R, G, p⟩ => pt.run pins s σ H Q I (et S H h σ env Q R G p)⟩
theorem ST.of (h : ST Γ X W e mt) : PT X e (tOfT Γ X.K W mt) := by
  obtain ⟨t, pt, et⟩ := h.ex
  exact ⟨fun pins s σ H Q I ⟨S, h, env, R, G, p⟩ => pt.run pins s σ H Q I (et S H h σ env Q R G p)⟩
theorem exE_tOf {m : ME} : ExE Γ K W (tOf Γ K W m) m := fun S H h σ env Q R G p => ⟨S, h, env, R, G, p⟩
theorem exT_tOf {m : MT} : ExT Γ K W (tOfT Γ K W m) m := fun S H h σ env Q R G p => ⟨S, h, env, R, G, p⟩
/-- a target that stores into the slots vs alone -/
def TgW (tgt : TG) (vs : List Nat) : Prop := ∀ v (σ0 σ : L2.St) H Q, L2.wipe σ vs = L2.wipe σ0 vs → tgt v σ H Q → tgt v σ H (fun σ2 H2 => L2.wipe σ2 vs = L2.wipe σ0 vs ∧ Q σ2 H2)
theorem wipe_set {x : Option V} : ∀ {vs : List Nat} {i : Nat} {σ : L2.St}, i ∈ vs → L2.wipe (σ.set i x) vs = L2.wipe σ vs
  | v :: vs, i, σ, h => by
    unfold L2.wipe
    by_cases hi : i ∈ vs
    · rw [wipe_set hi]
    · have e : i = v := (List.mem_cons.mp h).resolve_right hi
      subst e
      have gen : ∀ {vs : List Nat} {σ : L2.St}, i ∉ vs → L2.wipe (σ.set i x) vs = (L2.wipe σ vs).set i x := by
        intro vs
        induction vs with
        | nil => intro σ _; rfl
        | cons w vs ih =>
          intro σ hn
          unfold L2.wipe
          rw [ih (fun z => hn (List.mem_cons_of_mem _ z)), List.set_comm _ _ (fun z => hn (by rw [z]; exact List.mem_cons_self))]
      rw [gen hi, List.set_set]
theorem wipe_wipe : ∀ {vs ws : List Nat} {σ : L2.St}, (∀ v ∈ ws, v ∈ vs) → L2.wipe (L2.wipe σ ws) vs = L2.wipe σ vs
  | vs, [], σ, _ => rfl
  | vs, w :: ws, σ, h => by
    show L2.wipe ((L2.wipe σ ws).set w none) vs = _
    rw [wipe_set (h w List.mem_cons_self), wipe_wipe (fun v hv => h v (List.mem_cons_of_mem _ hv))]
theorem tgw_name {i : Nat} {vs : List Nat} (hi : i ∈ vs) : TgW (gName i) vs := fun v σ0 σ H Q h q => ⟨(wipe_set hi).trans h, q⟩
def gNames : List Nat → TGs
  | [] => gNil
  | i :: is => gCons (gName i) (gNames is)
theorem tgs_names : ∀ {is vs : List Nat}, (∀ i ∈ is, i ∈ vs) → ∀ us (σ0 σ : L2.St) H Q, L2.wipe σ vs = L2.wipe σ0 vs → gNames is us σ H Q → gNames is us σ H (fun σ2 H2 => L2.wipe σ2 vs = L2.wipe σ0 vs ∧ Q σ2 H2)
  | [], vs, _, us, σ0, σ, H, Q, e, ⟨q1, q2⟩ => ⟨q1, e, q2⟩
  | i :: is, vs, h, us, σ0, σ, H, Q, e, ⟨v, r, q1, q2⟩ => ⟨v, r, q1, tgs_names (fun j hj => h j (List.mem_cons_of_mem _ hj)) r σ0 _ H Q ((wipe_set (h i List.mem_cons_self)).trans e) q2⟩
theorem tgw_tup {is vs : List Nat} {n : Nat} (h : ∀ i ∈ is, i ∈ vs) : TgW (L2.gTup K n (gNames is)) vs := fun v σ0 σ H Q e ⟨a, xs, q1, q2, q3, q4⟩ => ⟨a, xs, q1, q2, q3, tgs_names h xs σ0 σ H Q e q4⟩
theorem exg_name {i : Nat} : ExG Γ K W (gName i) (gNm i) := fun S H h σ env d v Q R G r p => p S H _ (Ext.refl _ _) R (G.set r i)
theorem exgs_names : ∀ {is : List Nat} S H h σ env ds vs Q, Rel Γ K S h H → REnv Γ K S env σ → RepL Γ K S ds vs → PostG Γ K S H Q W σ (gTp (is.map gNm) ds env h) → gNames is vs σ H Q
  | [], S, H, h, σ, env, ds, vs, Q, R, G, r, p => by
    cases ds with
    | nil => exact ⟨by unfold RepL at r; exact r, p S H σ (Ext.refl _ _) R G⟩
    | cons d ds => exact p.elim
  | i :: is, S, H, h, σ, env, ds, vs, Q, R, G, r, p => by
    cases ds with
    | nil => exact p.elim
    | cons d ds =>
      unfold RepL at r
      obtain ⟨v, vr, rfl, r1, r2⟩ := r
      refine ⟨v, vr, rfl, exgs_names S H h _ (env.set i (some d)) ds vr Q R (G.set r1 i) r2 ?_⟩
      have p' : PostG Γ K S H Q W σ (gTp (is.map gNm) ds (env.set i (some d)) h) := p
      rcases gTp_nox (is.map gNm) ds (env.set i (some d)) h with ⟨env2, h2, y⟩ | y
      · rw [y] at p' ⊢; exact p'
      · rw [y] at p'; exact p'.elim
theorem gtp_len {W : WX} {Q : L2.St → Hp → Prop} {S : Sh} {H : Hp} {σ : L2.St} : ∀ {gs : List MG} {ds : List MV} {env : MEnv} {h : MH}, PostG Γ K S H Q W σ (gTp gs ds env h) → ds.length = gs.length
  | [], [], _, _, _ => rfl
  | [], _ :: _, _, _, p => p.elim
  | _ :: _, [], _, _, p => p.elim
  | g :: gs, d :: ds, env, h, p => by
    unfold gTp at p
    cases z : g d env h with
    | ok env1 h1 =>
      rw [z] at p
      have p' : PostG Γ K S H Q W σ (gTp gs ds env1 h1) := p
      rw [List.length_cons, List.length_cons, gtp_len p']
    | exc C xs h1 => rw [z] at p; exact p.elim
    | stuck => rw [z] at p; exact p.elim
theorem exg_tup {is : List Nat} {n : Nat} (hn : is.length = n) : ExG Γ K W (L2.gTup K n (gNames is)) (gTup (is.map gNm)) := by
  intro S H h σ env d v Q R G r p
  unfold gTup at p
  split at p
  · rename_i xs
    obtain ⟨a, us, rfl, q2, q3⟩ := tup_ok R r
    exact ⟨a, us, rfl, q2, by rw [← repL_len q3, gtp_len p, List.length_map, hn], exgs_names S H h σ env xs us Q R G q3 p⟩
  · exact p.elim

/-- one turn -/
theorem comp_turn {tgt : TG} {g : MG} {mtt : MT} {mee : ME} {vs : List Nat} (eg : ExG Γ K W0 tgt g) (hw : TgW tgt vs) {D : Addr} {S1 : Sh} {H1 : Hp} {acc : List MV} {x : MV} {v : V} {σ : L2.St} {env : MEnv}
    (hn : H1 D = none) (a : AtD Γ K D S1 H1 acc S h H) (G : REnv Γ K S env σ) (rv : Rep Γ K S x v) {Nx : Hp → Prop}
    {acc1 : List MV} {h1 : MH} (hc : compT g mtt mee x acc (wipeM env vs) h = .ok acc1 h1) (hk : ∀ S' H', AtD Γ K D S1 H1 acc1 S' h1 H' → Ext S H S' H' ∨ True → (∀ env' σ', REnv Γ K S env' σ' → REnv Γ K S' env' σ') → Nx H') :
    tgt v (L2.wipe σ vs) H fun σ2 H2 => L2.wipe σ2 vs = L2.wipe σ vs ∧ tOfT Γ K W0 mtt σ2 H2 fun b H3 => if b = true then tOf Γ K W0 mee σ2 H3 fun y H4 => ∃ acc, H4 D = some (.lst acc) ∧ acc.length < sizeLine ∧ Nx (upd H4 D (.lst (acc ++ [y]))) else Nx H3 := by
  unfold compT at hc
  refine hw v σ (L2.wipe σ vs) H _ (wipe_wipe fun _ hv => hv) ?_
  cases z1 : g x (wipeM env vs) h with
  | exc C xs h2 => rw [z1] at hc; cases hc
  | stuck => rw [z1] at hc; cases hc
  | ok env2 h2 =>
    rw [z1] at hc
    refine eg S H h _ _ x v _ a.rel (G.wipe vs) rv ?_
    rw [z1]
    intro S2 H2 σ2 e2 R2 G2
    have a2 := a.step e2 R2
    cases z2 : mtt env2 h2 with
    | exc C xs h2 => simp only [z2, Out.nox, Out.bind] at hc; cases hc
    | stuck => simp only [z2, Out.nox, Out.bind] at hc; cases hc
    | ok bb h3 =>
      simp only [z2, Out.nox, Out.bind] at hc
      refine ⟨S2, h2, env2, R2, G2, ?_⟩
      rw [z2]
      intro S3 H3 b' e3 R3 eb'
      have eb'' : b' = bb := eb'
      subst eb''
      have a3 := a2.step e3 R3
      cases b' with
      | false =>
        rw [if_neg Bool.false_ne_true] at hc ⊢
        cases hc
        exact hk S3 H3 a3 (.inr trivial) fun env' σ' g => (g.mono e2).mono e3
      | true =>
        rw [if_pos rfl] at hc ⊢
        cases z3 : mee env2 h3 with
        | exc C xs h2 => simp only [z3] at hc; cases hc
        | stuck => simp only [z3] at hc; cases hc
        | ok y h4 =>
          simp only [z3] at hc
          split at hc
          · rename_i hlen
            cases hc
            refine ⟨S3, h3, env2, R3, G2.mono e3, ?_⟩
            rw [z3]
            intro S4 H4 w e4 R4 r4
            obtain ⟨us, q1, q2, q3⟩ := (a3.step e4 R4).push hn r4
            exact ⟨us, q1, by rw [q2]; exact hlen, hk S4 _ q3 (.inr trivial) fun env' σ' g => ((g.mono e2).mono e3).mono e4⟩
          · cases hc
theorem bind_ok {α β γ δ : Type} {R' : Sh → α → β → Prop} {Q : β → Hp → Prop} {E : XK} {x : Out γ} {f : γ → MH → Out α} (hx : ∀ C xs h, x ≠ .exc C xs h) (p : Post Γ K R' S H Q E (x.bind f)) : ∃ a h', x = .ok a h' ∧ Post Γ K R' S H Q E (f a h') := by
  cases x with
  | ok a h => exact ⟨a, h, rfl, p⟩
  | exc C xs h => exact absurd rfl (hx C xs h)
  | stuck => exact p.elim
theorem compT_noexc {g : MG} {t : MT} {e : ME} {x : MV} {acc : List MV} {env : MEnv} {h : MH} : ∀ C xs h', compT g t e x acc env h ≠ .exc C xs h' := by
  intro C xs h' q
  unfold compT at q
  cases z1 : g x env h with
  | exc _ _ _ => rw [z1] at q; cases q
  | stuck => rw [z1] at q; cases q
  | ok env2 h2 =>
    rw [z1] at q
    cases z2 : t env2 h2 with
    | exc _ _ _ => simp only [z2, Out.nox, Out.bind] at q; cases q
    | stuck => simp only [z2, Out.nox, Out.bind] at q; cases q
    | ok bb h3 =>
      simp only [z2, Out.nox, Out.bind] at q
      split at q
      · cases z3 : e env2 h3 with
        | exc _ _ _ => simp only [z3] at q; cases q
        | stuck => simp only [z3] at q; cases q
        | ok y h4 =>
          simp only [z3] at q
          split at q <;> cases q
      · cases q
theorem compL_noexc {g : MG} {t : MT} {e : ME} {env : MEnv} : ∀ (ys : List MV) {acc : List MV} {h : MH} (C xs h'), compL g t e env ys acc h ≠ .exc C xs h'
  | [], _, _, _, _, _, q => by unfold compL at q; cases q
  | y :: ys, acc, h, C, xs, h', q => by
    unfold compL at q
    cases z : compT g t e y acc env h with
    | exc _ _ _ => exact compT_noexc _ _ _ z
    | stuck => rw [z] at q; cases q
    | ok a h1 => rw [z] at q; exact compL_noexc ys _ _ _ q
theorem compR_noexc {g : MG} {t : MT} {e : ME} {env : MEnv} {n : Nat} : ∀ (f i : Nat) {acc : List MV} {h : MH} (C xs h'), compR g t e env n f i acc h ≠ .exc C xs h'
  | 0, _, _, _, _, _, _, q => by unfold compR at q; cases q
  | f + 1, i, acc, h, C, xs, h', q => by
    unfold compR at q
    split at q
    · split at q
      · cases q
      · rename_i y hy
        cases z : compT g t e y acc env h with
        | exc _ _ _ => exact compT_noexc _ _ _ z
        | stuck => rw [z] at q; cases q
        | ok a h1 => rw [z] at q; exact compR_noexc f (i + 1) _ _ _ q
    · cases q
/-- the reading of a comprehension -/
theorem ex_comp {bb : Bool} {wi : TI} {mi : MIt} {tgt : TG} {g : MG} {mtt : MT} {mee : ME} {vs : List Nat} (ei : ExI Γ K W wi mi) (eg : ExG Γ K W0 tgt g) (hw : TgW tgt vs) : ExE Γ K W (tLc wi tgt (tOfT Γ K W0 mtt) (tOf Γ K W0 mee) vs) (mComp bb mi g mtt mee vs) := by
  intro S H h σ env Q R G p
  refine ei S H h σ env _ R G ?_
  unfold mComp at p
  cases z : mi env h with
  | exc C xs h1 => rw [z] at p; exact p
  | stuck => rw [z] at p; exact p
  | ok iv h1 =>
    rw [z] at p
    cases iv with
    | st xs =>
      intro S1 H1 J e1 R1 it D hn
      have G1 := G.mono e1
      have p1 : Post Γ K (Rep Γ K) S1 H1 Q (WE' W σ) ((compL g mtt mee (wipeM env vs) xs [] h1).bind fun ys h => retL bb ys h) := Post.ext p e1
      clear p
      refine ⟨fun i m H' => m = xs.length - i ∧ i ≤ xs.length ∧ ∃ S' h' acc, AtD Γ K D S1 H1 acc S' h' H' ∧ REnv Γ K S' env σ ∧ Post Γ K (Rep Γ K) S1 H1 Q (WE' W σ) ((compL g mtt mee (wipeM env vs) (xs.drop i) acc h').bind fun ys h => retL bb ys h), ⟨xs.length, by simp, Nat.zero_le _, S1, h1, [], AtD.begin R1 hn, G1, p1⟩, ?_⟩
      rintro i m H2 ⟨rfl, hi, S2, h2, acc, a2, G2, p2⟩
      obtain ⟨it1, it2⟩ := it S2 h2 H2 i a2.ext.hs a2.ext.ix a2.rel
      by_cases hlt : i < xs.length
      · have hx : xs[i]? = some xs[i] := List.getElem?_eq_getElem hlt
        obtain ⟨go, yl⟩ := it2 _ hx
        rw [List.drop_eq_getElem_cons hlt] at p2
        unfold compL at p2
        cases zc : compT g mtt mee xs[i] acc (wipeM env vs) h2 with
        | exc C ys h3 => exact absurd zc (compT_noexc _ _ _)
        | stuck => rw [zc] at p2; exact p2.elim
        | ok acc3 h3 =>
          rw [zc] at p2
          refine .inr ⟨go, fun H' => ∃ S' h' acc, AtD Γ K D S1 H1 acc S' h' H' ∧ REnv Γ K S' env σ ∧ Post Γ K (Rep Γ K) S1 H1 Q (WE' W σ) ((compL g mtt mee (wipeM env vs) (xs.drop (i + 1)) acc h').bind fun ys h => retL bb ys h), fun H' w => ⟨xs.length - (i + 1), by omega, rfl, hlt, w⟩, fun v H' y => ?_⟩
          obtain ⟨rfl, rv⟩ := yl v H' y
          exact comp_turn eg hw hn a2 G2 rv zc fun S' H' a' _ mono => ⟨S', h3, acc3, a', mono _ _ G2, p2⟩
      · have hz : xs[i]? = none := List.getElem?_eq_none_iff.mpr (by omega)
        have hd : xs.drop i = [] := List.drop_eq_nil_iff.mpr (by omega)
        rw [hd] at p2
        exact .inl ⟨it1 hz, a2.end_ hn p2⟩
    | lv n =>
      intro S1 H1 J e1 R1 it D hn
      have G1 := G.mono e1
      have p1 : Post Γ K (Rep Γ K) S1 H1 Q (WE' W σ) ((compR g mtt mee (wipeM env vs) n big 0 [] h1).bind fun ys h => retL bb ys h) := Post.ext p e1
      clear p
      refine ⟨fun i m H' => ∃ S' h' acc, AtD Γ K D S1 H1 acc S' h' H' ∧ REnv Γ K S' env σ ∧ Post Γ K (Rep Γ K) S1 H1 Q (WE' W σ) ((compR g mtt mee (wipeM env vs) n m i acc h').bind fun ys h => retL bb ys h), ⟨big, S1, h1, [], AtD.begin R1 hn, G1, p1⟩, ?_⟩
      rintro i m H2 ⟨S2, h2, acc, a2, G2, p2⟩
      cases m with
      | zero => exact p2.elim
      | succ m =>
        unfold compR at p2
        split at p2
        · rename_i xs hxs
          obtain ⟨it1, it2⟩ := it S2 h2 H2 i xs a2.ext.hs a2.ext.ix a2.rel hxs
          split at p2
          · rename_i hz
            exact .inl ⟨it1 hz, a2.end_ hn p2⟩
          · rename_i x hx
            obtain ⟨go, yl⟩ := it2 _ hx
            cases zc : compT g mtt mee x acc (wipeM env vs) h2 with
            | exc C ys h3 => exact absurd zc (compT_noexc _ _ _)
            | stuck => rw [zc] at p2; exact p2.elim
            | ok acc3 h3 =>
              rw [zc] at p2
              refine .inr ⟨go, fun H' => ∃ S' h' acc, AtD Γ K D S1 H1 acc S' h' H' ∧ REnv Γ K S' env σ ∧ Post Γ K (Rep Γ K) S1 H1 Q (WE' W σ) ((compR g mtt mee (wipeM env vs) n m (i + 1) acc h').bind fun ys h => retL bb ys h), fun H' w => ⟨m, Nat.lt_succ_self m, w⟩, fun v H' y => ?_⟩
              obtain ⟨rfl, rv⟩ := yl v H' y
              exact comp_turn eg hw hn a2 G2 rv zc fun S' H' a' _ mono => ⟨S', h3, acc3, a', mono _ _ G2, p2⟩
        · exact p2.elim
/-- what a comprehension's target is -/
inductive TgOk (K : PySem.W.Frag) (X : Cx) (scope : Scope) (vs : List Nat) (tg : Expr) : TG → MG → Prop
  | nm {i : Nat} (hi : i ∈ vs) (hp : ∀ (s : Shared) (H : Hp) (C : Addr) (cl : List (Str × Addr)) (fp : List Addr), PG (X.blk s H scope (compEnvC scope cl C X.env) fp) tg (gName i)) : TgOk K X scope vs tg (gName i) (gNm i)
  | tp {is : List Nat} {n : Nat} (hi : ∀ i ∈ is, i ∈ vs) (hn : is.length = n) (hp : ∀ (s : Shared) (H : Hp) (C : Addr) (cl : List (Str × Addr)) (fp : List Addr), PG (X.blk s H scope (compEnvC scope cl C X.env) fp) tg (L2.gTup K n (gNames is))) : TgOk K X scope vs tg (L2.gTup K n (gNames is)) (gTup (is.map gNm))
variable {elt iter : Expr} {ifs : List Expr} {scope : Scope} {own : List (Str × Nat)} {mi : MIt} {mee : ME} {mtt : MT} {g : MG} {tgt : TG}
/-- a clause's tests: none, or one -/
structure STs (Γ : Gm) (X : Cx) (W : WX) (es : List Expr) (m : MT) : Prop where
  run : PTs X es (tOfT Γ X.K W m)
theorem sts_nil : STs Γ X W [] tYesM := ⟨⟨fun pins s σ H Q I ⟨S, h, env, R, G, p⟩ => pts_nil.run pins s σ H Q I (p S H true (Ext.refl _ _) R rfl)⟩⟩
theorem sts_one (h : ST Γ X W c mt) : STs Γ X W [c] mt := ⟨pts_one h.of⟩
theorem se_comp (bb : Bool) (hc : X.calm = true) (hN : X.N.Nodup) (hi : SI Γ X W tg iter mi) (ok : BlkOk X.N X.env.scope scope own) (hg : TgOk X.K X scope (own.map (·.2)) tg tgt g)
    (ht : ∀ (s : Shared) (H : Hp) (C : Addr) (cl : List (Str × Addr)) (fp : List Addr), STs Γ (X.blk s H scope (compEnvC scope cl C X.env) fp) W0 ifs mtt)
    (he : ∀ (s : Shared) (H : Hp) (C : Addr) (cl : List (Str × Addr)) (fp : List Addr), SE Γ (X.blk s H scope (compEnvC scope cl C X.env) fp) W0 elt mee)
    (hs : ∀ x, foldedSetIterable iter X.env x = pure x := by intro _; rfl) : SE Γ X W (.ListComp elt [⟨tg, iter, ifs, 0⟩] scope pos) (mComp bb mi g mtt mee (own.map (·.2))) := by
  obtain ⟨wi, pi, ei⟩ := hi.ex
  cases hg with
  | nm h1 h2 => exact ⟨_, pe_lc hc hN pi ok h2 (fun s H C cl fp => (ht s H C cl fp).run) (fun s H C cl fp => (he s H C cl fp).of) hs, ex_comp ei exg_name (tgw_name h1)⟩
  | tp h1 hn h2 => exact ⟨_, pe_lc hc hN pi ok h2 (fun s H C cl fp => (ht s H C cl fp).run) (fun s H C cl fp => (he s H C cl fp).of) hs, ex_comp ei (exg_tup hn) (tgw_tup h1)⟩
theorem ss_setLc (bb : Bool) (i : Nat) {y : Str} {py spos : Pos} (hc : X.calm = true) (hN : X.N.Nodup) (hsw : swapsWith (.ListComp elt [⟨tg, iter, ifs, 0⟩] scope pos) (some (.Name y py)) spos.line X.env = pure true) (hi : SI Γ X W tg iter mi) (ok : BlkOk X.N X.env.scope scope own) (hg : TgOk X.K X scope (own.map (·.2)) tg tgt g)
    (ht : ∀ (s : Shared) (H : Hp) (C : Addr) (cl : List (Str × Addr)) (fp : List Addr), STs Γ (X.blk s H scope (compEnvC scope cl C X.env) fp) W0 ifs mtt)
    (he : ∀ (s : Shared) (H : Hp) (C : Addr) (cl : List (Str × Addr)) (fp : List Addr), SE Γ (X.blk s H scope (compEnvC scope cl C X.env) fp) W0 elt mee)
    (hy : X.N[i]? = some y := by rfl) (hl : X.env.scope.names.lookup y = some .local := by rfl)
    (hs : ∀ x, foldedSetIterable iter X.env x = pure x := by intro _; rfl) : SS Γ X W (.Assign [.Name y py] (.ListComp elt [⟨tg, iter, ifs, 0⟩] scope pos) spos) (sSet i (mComp bb mi g mtt mee (own.map (·.2)))) := by
  obtain ⟨wi, pi, ei⟩ := hi.ex
  have fin : ∀ {t : TE}, ExE Γ X.K W t (mComp bb mi g mtt mee (own.map (·.2))) → ExS Γ X.K W (tAsg t (gName i)) (sSet i (mComp bb mi g mtt mee (own.map (·.2)))) := fun {t} et S H h σ env D R G p => exES (t := t) et R G p fun d h1 S1 H1 v e1 R1 G1 r1 p1 => p1 S1 H1 _ (Ext.refl _ _) R1 (G1.set r1 i)
  cases hg with
  | nm h1 h2 => exact ⟨_, ps_setLc hc hN hy hl hsw pi ok h2 (fun s H C cl fp => (ht s H C cl fp).run) (fun s H C cl fp => (he s H C cl fp).of) hs, fin (ex_comp ei exg_name (tgw_name h1))⟩
  | tp h1 hn h2 => exact ⟨_, ps_setLc hc hN hy hl hsw pi ok h2 (fun s H C cl fp => (ht s H C cl fp).run) (fun s H C cl fp => (he s H C cl fp).of) hs, fin (ex_comp ei (exg_tup hn) (tgw_tup h1))⟩
end
end Mn
/-! ## MnF -/
set_option Elab.async false
set_option linter.all false
set_option maxRecDepth 100000
/-! Mn, part F: defs, their calls; raise, try. -/
namespace Mn
open PySem PySem.Spec PyProof.Rows L2

/-! ### defs -/
def spM (Γ : Gm) (K : PySem.W.Frag) (n : Nat) (f : MF) : Sp := fun vs H Q E => vs.length = n ∧ ∃ S h ds, Rel Γ K S h H ∧ RepL Γ K S ds vs ∧ Post Γ K (Rep Γ K) S H Q E (f ds h)
@[reducible] def OutS.out : OutS → Out MV
  | .ok (.rt d) _ h => .ok d h
  | .ok .nx _ h => .ok .non h
  | .exc C xs _ h => .exc C xs h
  | _ => .stuck
/-- a def's body run; N: how many names it has -/
def runF (N : Nat) (m : MS) : MF := fun ds h => (m (ds.map some ++ List.replicate (N - ds.length) none) h).out
section
variable {P : Program} {w : World} {K : PySem.W.Frag} {mg : Str → Option Value} {base : Heap} {Γ : Gm}
theorem start_env {S : Sh} {N : List Str} : ∀ {ds : List MV} {vs : List V}, RepL Γ K S ds vs → ∀ n, REnv Γ K S (ds.map some ++ List.replicate n none) (vs.map some ++ List.replicate n none)
  | [], vs, r, n => by
    unfold RepL at r; subst r
    refine ⟨by simp, fun i d e => ?_⟩
    have e' : (List.replicate n (none : Option MV))[i]? = some (some d) := e
    rw [List.getElem?_replicate] at e'
    split at e' <;> cases e'
  | d :: ds, vs, r, n => by
    unfold RepL at r
    obtain ⟨v, vr, rfl, r1, r2⟩ := r
    obtain ⟨h1, h2⟩ := start_env (N := N) r2 n
    refine ⟨by simpa using h1, fun i d' e => ?_⟩
    cases i with
    | zero =>
      have e' : some (some d) = some (some d') := e
      cases e'
      exact ⟨v, rfl, r1⟩
    | succ i => exact h2 i d' e
theorem fn_ok {x qual : Str} {st : Stmt} {f : Addr} {fd : FuncData} {N ps : List Str} {k : Nat} {m : MS} (F : Fun K x qual st f fd) (S : FnScope N ps (defScope st))
    (hb : ∀ (cdv : Value) (A : Around) (outer : List Env) (s : Shared) (H : Hp) (E : XK), Room k (A.deeper (envOfC qual (defScope st) s.heap.objs.size f cdv)) →
      SSs Γ (cxOf (L2.CX P w) P w K mg base N qual (defScope st) f cdv A outer s H E) (fun c d _ H => E c d H) (defBody st) m) :
    FnOk P w K mg base (L2.CX P w) (k + 1) f fd ps (spM Γ K ps.length (runF N.length m)) := by
  refine F.okX S (fun vs H Q E h => h.1) (fun cdv A outer s H vs Q E hr hsp => ?_)
  obtain ⟨hl, Sh, h, ds, R, r, p⟩ := hsp
  obtain ⟨t, pt, et⟩ := (hb cdv A outer s H E hr).ex
  refine ⟨t, pt, et Sh H h (L2.start N vs) (ds.map some ++ List.replicate (N.length - ds.length) none) _ R ?_ ?_⟩
  · have := start_env (N := N) r (N.length - ds.length)
    unfold L2.start
    rw [repL_len r] at this ⊢
    exact this
  · unfold runF at p
    cases z : m (ds.map some ++ List.replicate (N.length - ds.length) none) h with
    | ok fl env h1 =>
      rw [z] at p
      cases fl with
      | nx => exact fun S' H' σ' e R' G' => p S' H' .non e R' is_non
      | rt d => exact fun S' H' v e R' rv => p S' H' v e R' rv
      | bk => exact p.elim
      | ct => exact p.elim
    | exc C xs env h1 =>
      rw [z] at p
      exact fun S' H' σ' dd e R' G' x => p S' H' dd e R' x
    | stuck => rw [z] at p; exact p.elim
variable {X : Cx} {W : WX} {e : Expr} {es : List Expr} {ms : MA} {me : ME} {pos p apos : Pos} {fd : FuncData} {ps : List Str} {k : Nat} {f C : Addr} {x m : Str}
/-- the promise for a call, from the mirror -/
theorem sp_of {n : Nat} {g : MF} {S : Sh} {H : Hp} {h : MH} {ds : List MV} {vs : List V} {Q : VK} {E : XK} (R : Rel Γ K S h H) (r : RepL Γ K S ds vs) (hn : ds.length = n) (p : Post Γ K (Rep Γ K) S H Q E (g ds h)) : spM Γ K n g vs H Q E := ⟨by rw [← repL_len r]; exact hn, S, h, ds, R, r, p⟩
def mCall (n : Nat) (g : MF) (a : MA) : ME := fun env h => (a env h).bind fun ds h => if ds.length = n then g ds h else .stuck
theorem se_call {n : Nat} {g : MF} (F : FnOk X.prog X.w X.K X.mg X.base (L2.CX X.prog X.w) k f fd ps (spM Γ X.K n g)) (hr : Room k X.A) (hm : X.mg x = some (.ref f)) (hk : PySem.W.keepIn X.K (.ref f) = true) (hb : Binds X.K fd ps []) (tk : Takes X W)
    (ha : SA Γ X W (e :: es) ms) (hg : Gl X x := by rfl) (hdb : (x == ("__debug__" : Str)) = false := by decide) (he : starEach (e :: es) X.env = (false, eval e X.env) :: starEach es X.env := by rfl) (hpl : (backTo pos (starEach es X.env)).any (·.1) = false := by rfl) :
    SE Γ X W (.Call (.Name x p) (e :: es) [] pos) (mCall n g ms) := by
  obtain ⟨t, pt, et⟩ := ha.ex
  refine ⟨_, pe_callSD (E := WE W) F hr hg hm hk hb .nil (fun σ => passAt tk σ) pt hdb he hpl, fun S H h σ env Q R G p => exA_bind (t := t) et R G p fun ds h1 S1 H1 vs e1 R1 G1 r1 p1 => ?_⟩
  split at p1
  · rename_i hn
    rw [List.append_nil]
    exact sp_of R1 r1 hn p1
  · exact p1.elim
/-- .. with defaults: dvs, of the values ds -/
theorem se_callD {n : Nat} {g : MF} {dvs : List V} {ds : List Value} {dms : List MV} (F : FnOk X.prog X.w X.K X.mg X.base (L2.CX X.prog X.w) k f fd ps (spM Γ X.K n g)) (hr : Room k X.A) (hm : X.mg x = some (.ref f)) (hk : PySem.W.keepIn X.K (.ref f) = true) (hb : Binds X.K fd ps ds) (hd : Vals dvs ds) (hdm : ∀ S, RepL Γ X.K S dms dvs) (tk : Takes X W)
    (ha : SA Γ X W (e :: es) ms) (hg : Gl X x := by rfl) (hdb : (x == ("__debug__" : Str)) = false := by decide) (he : starEach (e :: es) X.env = (false, eval e X.env) :: starEach es X.env := by rfl) (hpl : (backTo pos (starEach es X.env)).any (·.1) = false := by rfl) :
    SE Γ X W (.Call (.Name x p) (e :: es) [] pos) (mCall n g fun env h => (ms env h).bind fun xs h => .ok (xs ++ dms) h) := by
  obtain ⟨t, pt, et⟩ := ha.ex
  refine ⟨_, pe_callSD (E := WE W) F hr hg hm hk hb hd (fun σ => passAt tk σ) pt hdb he hpl, fun S H h σ env Q R G p => ?_⟩
  have p' : Post Γ X.K (Rep Γ X.K) S H Q (WE' W σ) ((ms env h).bind fun xs h => if (xs ++ dms).length = n then g (xs ++ dms) h else .stuck) := by
    unfold mCall at p
    dsimp only at p
    cases z : ms env h with
    | ok a h1 => rw [z] at p; exact p
    | exc C xs h1 => rw [z] at p; exact p
    | stuck => rw [z] at p; exact p
  refine exA_bind (t := t) et R G p' fun ds' h1 S1 H1 vs e1 R1 G1 r1 p1 => ?_
  split at p1
  · rename_i hn
    exact sp_of R1 (repL_app r1 (hdm S1)) hn p1
  · exact p1.elim
end

/-! ### raise -/
def sRaise (C : Str) : MS := fun env h => .exc C [] env h
section
variable {Γ : Gm} {X : Cx} {W : WX}
theorem ss_raise {x m : Str} {j : Nat} {p p2 pos pos' : Pos} {bmB : List Value} {B newId initId : String} (hc : X.calm = true) (tk : Takes X W) (F : ExcBaseFacts B newId initId bmB) (q : PySem.W.excIn X.K (Γ.cls x) bmB newId = true) (gC : X.mg x = some (.ref (Γ.cls x))) (kC : PySem.W.keepIn X.K (.ref (Γ.cls x)) = true) (r : Raises X (.ref (Γ.cls x)))
    (hg : Gl X x := by rfl) (hdb : (x == ("__debug__" : Str)) = false := by decide) : SS Γ X W (.Raise (some (.Call (.Name x p) [.Constant (.str m) j p2] [] pos)) none pos') (sRaise x) :=
  ⟨_, ps_raise hc tk (pmk_own F q gC kC r hg hdb), fun S H h σ env D R G p => p S H σ none (Ext.refl _ _) R G rfl⟩
end

/-! ### try -/
/-- what the clauses wish of an exception of the body, one after the other; sl: the slot of 'as' -/
def wGen (K : PySem.W.Frag) (Wout : WX) (D : Ends) : List (Value × Option Nat × (Addr → Value → Option Addr → TS)) → WX
  | [] => Wout
  | (c, none, ts) :: r => fun cls d σ H => ∃ b, PySem.W.exmOne K cls c = some b ∧ (b = true → ∀ a, H a = none → ts a cls d D σ H) ∧ (b = false → wGen K Wout D r cls d σ H)
  | (c, some i, ts) :: r => fun cls d σ H => ∃ b, PySem.W.exmOne K cls c = some b ∧ (b = true → ∀ a, H a = none → ts a cls d { nx := fun σ' H' => D.nx (σ'.set i none) H', rt := D.rt, bk := fun σ' H' => D.bk (σ'.set i none) H', ct := fun σ' H' => D.ct (σ'.set i none) H' } (σ.set i (some (.ref a))) H) ∧ (b = false → wGen K Wout D r cls d σ H)
inductive HdsG (X : Cx) : List ExceptHandler → List (Value × Option Nat × (Addr → Value → Option Addr → TS)) → Prop
  | nil : HdsG X [] []
  | cons {x : Str} {c : Value} {ts : Addr → Value → Option Addr → TS} {b₀ : Stmt} {suite : List Stmt} {np pos' : Pos} {hds : List ExceptHandler} {l : List (Value × Option Nat × (Addr → Value → Option Addr → TS))} (hc : Names X x c)
      (hsu : ∀ (a : Addr) (oe : Obj) (cls : Value) (d : Option Addr) (pn : List (Addr × Obj)), Zc cls d oe → (∃ vs, oe.data = .fields vs) → PSs (X.suite a ((a, oe) :: pn)) (b₀ :: suite) (ts a cls d)) (r : HdsG X hds l) :
      HdsG X (.ExceptHandler (some (.Name x np)) none (b₀ :: suite) pos' :: hds) ((c, none, ts) :: l)
  | consA {x n : Str} {i : Nat} {c : Value} {ts : Addr → Value → Option Addr → TS} {b₀ : Stmt} {suite : List Stmt} {np pos' : Pos} {hds : List ExceptHandler} {l : List (Value × Option Nat × (Addr → Value → Option Addr → TS))} (hN : X.N.Nodup) (hi : X.N[i]? = some n) (hln : X.env.kindOf n = some .local) (hc : Names X x c)
      (hsu : ∀ (a : Addr) (oe : Obj) (cls : Value) (d : Option Addr) (pn : List (Addr × Obj)), Zc cls d oe → (∃ vs, oe.data = .fields vs) → PSs (X.suite a ((a, oe) :: pn)) (b₀ :: suite) (ts a cls d)) (r : HdsG X hds l) :
      HdsG X (.ExceptHandler (some (.Name x np)) (some n) (b₀ :: suite) pos' :: hds) ((c, some i, ts) :: l)
section
variable {X : Cx} {body : List Stmt} {h₀ : ExceptHandler} {hds : List ExceptHandler} {l : List (Value × Option Nat × (Addr → Value → Option Addr → TS))} {pos : Pos} {tb : WX → TS} {Wout : WX}
theorem ps_try_gen (hs : X.stack = X.env :: X.outer) (hf : X.env.frame = some X.env.locals) (tk : Takes X Wout)
    (hb : ∀ (W : WX) (pn : List (Addr × Obj)) (xe : Value → Shared → Prop), Takes (X.tr pn xe) W → PassesOwn (model X.prog X.w) X.A X.env xe → PSs (X.tr pn xe) body (tb W))
    (hh : HdsG X (h₀ :: hds) l) : PS X (.Try body (h₀ :: hds) [] [] pos) (fun D σ H => tb (wGen X.K Wout D l) D σ H) := by
  refine ⟨fun pins s σ H D I h => ?_⟩
  have ok := I.ok
  have hfr : X.A.frames = some (X.env :: X.outer) := by rw [ok.frames, hs]
  refine wpAny_Try_except ?_
  refine wpAny_mono ((hb (wGen X.K Wout D l) (X.pn ++ pins) (fun e s₁ => wpAny (model X.prog X.w) X.A (noteFrame e X.env) (fun _ s₂ => wpAny (model X.prog X.w) X.A (setFlight e none) (fun _ s₃ =>
    wpAny (model X.prog X.w) X.A (handleBy e X.env (h₀ :: hds)) (SP X pins D) X.xe s₃) X.xe s₂) X.xe s₁) (fun u s' xx => ?_) PassesOwn.looking).run [] s σ H D (I.toTry _) h) (fun f s1 hsp => ?_) (fun e s1 he => he)
  · obtain ⟨a, B, sI, pins', σ', H', cls, d, rfl, J', nb, up, sky, na, os, ag, w⟩ := xx
    have J : Inv X pins σ' H' sI := J'.ofTry ok
    have sky' : Sky B (X.env :: X.outer) a (Zc cls d) X.env.locals s'.heap := by rw [← hs]; exact sky
    show wpAny (model X.prog X.w) X.A (noteFrame (.ref a) X.env) _ _ _
    refine Sky.land Zc.steady hfr hf sky' fun h3 fl3 up3 => ?_
    have J3 : Inv X pins σ' H' { s' with heap := h3 } := J.landed nb fl3.1 (up.trans up3) os ag
    obtain ⟨oe3, vs3, he3, hz3, hd3⟩ := fl3.there
    have notFr : ∀ {h : Heap} {o : Obj} {vs : Array Value}, h.FunFrames B (X.env :: X.outer) → h.get? a = some o → o.data = .fields vs → a ∉ frs (X.env :: X.outer) := fun {h o vs} ff e dd hm => by
      obtain ⟨_, o', e', hnf⟩ := ff.mem hm
      rw [e] at e'; cases e'
      exact hnf _ dd
    have nfr := notFr fl3.2.2.1 he3 hd3
    have nL : a ≠ X.env.locals := fun z => nfr (List.mem_filterMap.mpr ⟨X.env, List.mem_cons_self, by rw [hf, z]⟩)
    have nF : a ∉ X.fs := fun hm => by
      obtain ⟨e, he, q⟩ := List.mem_filterMap.mp hm
      exact nfr (List.mem_filterMap.mpr ⟨e, List.mem_cons_of_mem _ he, q⟩)
    have S3 := J3.suite he3 hd3 na nL nF
    have test : ∀ {x : Str} {np : Pos} {c : Value} {Q : Value → Shared → Prop} {E : Value → Shared → Prop}, Names X x c → Q c { s' with heap := h3 } → wpAny (model X.prog X.w) (X.A.mark (some (.ref a))) (eval (.Name x np) X.env) Q E { s' with heap := h3 } := fun {x np c Q E} hc q => by
      obtain ⟨hg, hdbg, hm | ⟨hm, hv, hnn⟩⟩ := hc
      · exact ld_glob (X := X.suite a ((a, oe3) :: (X.pn ++ pins))) S3 hg hm q hdbg
      · exact ld_blt (X := X.suite a ((a, oe3) :: (X.pn ++ pins))) S3 hg hm hv q hnn hdbg
    have LT : PySem.W.Looks (model X.prog X.w) h3 (typeOf (.ref a)) cls := fun A Q E s k q => wpAny_typeOf_ref (k _ _ he3) (by rw [hz3.1]; exact q)
    have go : ∀ {hds' : List ExceptHandler} {l' : List (Value × Option Nat × (Addr → Value → Option Addr → TS))}, HdsG X hds' l' → wGen X.K Wout D l' cls d σ' H' →
        wpAny (model X.prog X.w) X.A (handleBy (.ref a) X.env hds') (SP X pins D) X.xe { s' with heap := h3 } := by
      intro hds' l' hk
      induction hk with
      | nil =>
        intro w
        refine wpAny_handleBy_nil ?_
        obtain ⟨k1, k2, k3, oe, vs, T, oT, ts', he, hz, hd, h1, hr⟩ := id fl3
        unfold PySem.passOn
        refine wpAny_bind (wpAny_field he hd h1 ?_)
        rw [if_neg (show ¬ ((Value.ref T == Value.none) = true) from by simp)]
        have fin : wpAny (model X.prog X.w) X.A (setFlight (.ref a) X.env.frame) (fun _ s4 => wpAny (model X.prog X.w) X.A (throw (.ref a) : Sem Flow) (SP X pins D) X.xe s4) X.xe { s' with heap := h3 } := by
          rw [hf]
          refine HandSPX.setFlight_upZ fl3 fun h4 hh4 up4 => wpAny_throw (tk _ _ ?_)
          exact ⟨a, B, sI, pins, σ', H', cls, d, rfl, J, nb, (up.trans up3).trans up4, .inr (.inr (by rw [hs]; exact hh4)), na, os, ag, w⟩
        first
          | exact wpAny_bind (wpAny_pure (wpAny_bind fin))
          | exact wpAny_bind fin
      | @cons x c ts b₀ suite np pos' hds2 l2 hc hsu r ih =>
        intro w
        obtain ⟨b, hb1, hyes, hno⟩ := w
        refine wpAny_handleBy_cons (codeAny_handlers_test ?_) (by intro q; cases q)
        have LM := PySem.W.exm_one (M := model X.prog X.w) (J3.kIn) LT hb1
        refine test hc (LM.here ?_)
        cases b with
        | true =>
          refine codeAny_handlers_suite ?_
          refine HandSPX.lands_againZ fl3 fun h4 fl4 up4 => ?_
          have J4 : Inv X pins σ' H' { s' with heap := h4 } := J.landed nb fl4.1 ((up.trans up3).trans up4) os ag
          obtain ⟨oe4, vs4, he4, hz4, hd4⟩ := fl4.there
          have S4 := J4.suite he4 hd4 na nL nF
          refine wpAny_mono ((hsu a oe4 cls d (X.pn ++ pins) hz4 ⟨_, hd4⟩).run [] _ _ H' _ S4 (hyes rfl a na)) (fun f s6 hsp => ?_) (fun _ _ z => False.elim z)
          cases f with
          | next =>
            obtain ⟨σ6, H6, S6, q6⟩ := hsp
            exact ⟨_, _, S6.unsuite ok, q6⟩
          | brk =>
            obtain ⟨σ6, H6, S6, q6⟩ := hsp
            exact ⟨_, _, S6.unsuite ok, q6⟩
          | cont =>
            obtain ⟨σ6, H6, S6, q6⟩ := hsp
            exact ⟨_, _, S6.unsuite ok, q6⟩
          | ret u =>
            obtain ⟨v6, σ6, H6, S6, r6, q6⟩ := hsp
            exact ⟨_, _, _, S6.unsuite ok, r6, q6⟩
        | false =>
          show wpAny _ X.A (handleBy (.ref a) X.env hds2) _ _ _
          exact ih (hno rfl)
      | @consA x n i c ts b₀ suite np pos' hds2 l2 hN hi hln hc hsu r ih =>
        intro w
        obtain ⟨b, hb1, hyes, hno⟩ := w
        refine wpAny_handleBy_cons (codeAny_handlers_test ?_) (by intro q; cases q)
        have LM := PySem.W.exm_one (M := model X.prog X.w) (J3.kIn) LT hb1
        refine test hc (LM.here ?_)
        cases b with
        | true =>
          refine codeAny_handlers_suite_as ?_
          refine HandSPX.lands_againZ fl3 fun h4 fl4 up4 => ?_
          have J4 : Inv X pins σ' H' { s' with heap := h4 } := J.landed nb fl4.1 ((up.trans up3).trans up4) os ag
          obtain ⟨oe4, vs4, he4, hz4, hd4⟩ := fl4.there
          have S4 := J4.suite he4 hd4 na nL nF
          refine store_ok (X := X.suite a ((a, oe4) :: (X.pn ++ pins))) (v := .ref a) S4 hN hi (.inl hln) rfl (fun s5 S5 => ?_) (.inr hln)
          refine wpAny_mono ((hsu a oe4 cls d (X.pn ++ pins) hz4 ⟨_, hd4⟩).run [] s5 _ H' _ S5 (hyes rfl a na)) (fun f s6 hsp => ?_) (fun _ _ z => False.elim z)
          have end_ : ∀ {σ6 : L2.St} {H6 : Hp} {Q : Shared → Prop}, Inv (X.suite a ((a, oe4) :: (X.pn ++ pins))) [] σ6 H6 s6 → (∀ s7, Inv X pins (σ6.set i none) H6 s7 → Q s7) →
              wpAny (model X.prog X.w) X.A (do bindName X.env n .none; unbindBehindTheSuite X.env n pos') (fun _ s7 => Q s7) X.xe s6 := fun {σ6 H6 Q} S6 hq => gone_ok (S6.unsuite ok) hN hi hln hq
          cases f with
          | next =>
            obtain ⟨σ6, H6, S6, q6⟩ := hsp
            exact end_ S6 fun s7 J7 => ⟨_, _, J7, q6⟩
          | brk =>
            obtain ⟨σ6, H6, S6, q6⟩ := hsp
            exact end_ S6 fun s7 J7 => ⟨_, _, J7, q6⟩
          | cont =>
            obtain ⟨σ6, H6, S6, q6⟩ := hsp
            exact end_ S6 fun s7 J7 => ⟨_, _, J7, q6⟩
          | ret u =>
            obtain ⟨v6, σ6, H6, S6, r6, q6⟩ := hsp
            exact end_ S6 fun s7 J7 => ⟨_, _, _, J7, r6, q6⟩
        | false =>
          show wpAny _ X.A (handleBy (.ref a) X.env hds2) _ _ _
          exact ih (hno rfl)
    exact go hh w
  · cases f with
    | next =>
      obtain ⟨σ', H', J', q⟩ := hsp
      exact wpAny_execs_nil ⟨σ', H', J'.ofTry ok, q⟩
    | brk =>
      obtain ⟨σ', H', J', q⟩ := hsp
      exact ⟨σ', H', J'.ofTry ok, q⟩
    | cont =>
      obtain ⟨σ', H', J', q⟩ := hsp
      exact ⟨σ', H', J'.ofTry ok, q⟩
    | ret u =>
      obtain ⟨v, σ', H', J', r, q⟩ := hsp
      exact ⟨v, σ', H', J'.ofTry ok, r, q⟩
end
/-- a clause's mirror: which classes it takes (those that may come), the slot of 'as', the suite -/
structure Hd where
  tab : List (Str × Bool)
  sl : Option Nat
  su : MV → MS
@[reducible] def OutS.noxS : OutS → OutS
  | .exc _ _ _ _ => .stuck
  | o => o
/-- at a clause's end its name is gone -/
def wipeO (i : Nat) : OutS → OutS
  | .ok f env h => .ok f (env.set i none) h
  | _ => .stuck
open Classical in
noncomputable def runHds (C : Str) (xs : List MV) : List Hd → MEnv → MH → OutS
  | [], env, h => .exc C xs env h
  | hd :: r, env, h => match hd.tab.lookup C with
    | some true => match hd.sl with
      | none => (hd.su .non env h).noxS
      | some i => if ∀ a d, wipeO i (hd.su (.exo a d C xs) (env.set i (some (.exo a d C xs))) h) = wipeO i (hd.su (.exo 0 none C xs) (env.set i (some (.exo 0 none C xs))) h) then
          wipeO i (hd.su (.exo 0 none C xs) (env.set i (some (.exo 0 none C xs))) h) else .stuck
    | some false => runHds C xs r env h
    | none => .stuck
noncomputable def sTry (b : MS) (hds : List Hd) : MS := fun env h => match b env h with
  | .exc C xs env' h' => runHds C xs hds env' h'
  | o => o
def tOfS (Γ : Gm) (K : PySem.W.Frag) (W : WX) (m : MS) : TS := fun D σ H => ∃ S h env, Rel Γ K S h H ∧ REnv Γ K S env σ ∧ PostS Γ K S H D W (m env h)
section
variable {Γ : Gm} {X : Cx} {W : WX}
theorem SSs.of {sts : List Stmt} {m : MS} (h : SSs Γ X W sts m) : PSs X sts (tOfS Γ X.K W m) := by
  obtain ⟨t, pt, et⟩ := h.ex
  exact ⟨fun pins s σ H D I ⟨S, h, env, R, G, p⟩ => pt.run pins s σ H D I (et S H h σ env D R G p)⟩
theorem pss_exW {ι : Type} {sts : List Stmt} {t : ι → TS} (h : ∀ i, PSs X sts (t i)) : PSs X sts (fun D σ H => ∃ i, t i D σ H) := ⟨fun pins s σ H D I ⟨i, q⟩ => (h i).run pins s σ H D I q⟩
/-- the reading of a clause's suite -/
def tHd (Γ : Gm) (K : PySem.W.Frag) (hd : Hd) (a : Addr) (cls : Value) (d : Option Addr) : TS := fun D σ H => ∃ i : { q : Str × List MV // cls = .ref (Γ.cls q.1) ∧ hd.tab.lookup q.1 = some true },
  tOfS Γ K W0 (hd.su (match hd.sl with | none => .non | some _ => .exo a d i.1.1 i.1.2)) D σ H
inductive SHd (Γ : Gm) (X : Cx) : List ExceptHandler → List Hd → Prop
  | nil : SHd Γ X [] []
  | cons {x : Str} {c : Value} {b₀ : Stmt} {suite : List Stmt} {np pos' : Pos} {hds : List ExceptHandler} {tab : List (Str × Bool)} {su : MV → MS} {l : List Hd} (hc : Names X x c) (ht : ∀ p ∈ tab, PySem.W.exmOne X.K (.ref (Γ.cls p.1)) c = some p.2)
      (hsu : ∀ (a : Addr) (oe : Obj) (C : Str) (d : Option Addr) (pn : List (Addr × Obj)), Zc (.ref (Γ.cls C)) d oe → (∃ vs, oe.data = .fields vs) → SSs Γ (X.suite a ((a, oe) :: pn)) W0 (b₀ :: suite) (su .non)) (r : SHd Γ X hds l) :
      SHd Γ X (.ExceptHandler (some (.Name x np)) none (b₀ :: suite) pos' :: hds) (⟨tab, none, su⟩ :: l)
  | consA {x n : Str} {i : Nat} {c : Value} {b₀ : Stmt} {suite : List Stmt} {np pos' : Pos} {hds : List ExceptHandler} {tab : List (Str × Bool)} {su : MV → MS} {l : List Hd} (hN : X.N.Nodup) (hi : X.N[i]? = some n) (hln : X.env.kindOf n = some .local) (hc : Names X x c) (ht : ∀ p ∈ tab, PySem.W.exmOne X.K (.ref (Γ.cls p.1)) c = some p.2)
      (hsu : ∀ (a : Addr) (oe : Obj) (C : Str) (xs : List MV) (d : Option Addr) (pn : List (Addr × Obj)), Zc (.ref (Γ.cls C)) d oe → (∃ vs, oe.data = .fields vs) → tab.lookup C = some true → SSs Γ (X.suite a ((a, oe) :: pn)) W0 (b₀ :: suite) (su (.exo a d C xs))) (r : SHd Γ X hds l) :
      SHd Γ X (.ExceptHandler (some (.Name x np)) (some n) (b₀ :: suite) pos' :: hds) (⟨tab, some i, su⟩ :: l)
theorem SHd.hds {hs : List ExceptHandler} {l : List Hd} (h : SHd Γ X hs l) : ∃ g : List (Value × Option Nat × (Addr → Value → Option Addr → TS)), HdsG X hs g ∧
    ∀ (Wout : WX) (D : Ends) (C : Str) (xs : List MV) (env : MEnv) (hh : MH) S H σ dd, Rel Γ X.K S hh H → REnv Γ X.K S env σ → RepX Γ X.K C xs dd S H → PostS Γ X.K S H D Wout (runHds C xs l env hh) → wGen X.K Wout D g (.ref (Γ.cls C)) dd σ H := by
  induction h with
  | nil => exact ⟨[], .nil, fun Wout D C xs env hh S H σ dd R G x p => p S H σ dd (Ext.refl _ _) R G x⟩
  | @cons x c b₀ suite np pos' hds tab su l hc ht hsu r ih =>
    obtain ⟨g, hg, ih⟩ := ih
    refine ⟨(c, none, tHd Γ X.K ⟨tab, none, su⟩) :: g, .cons hc (fun a oe cls d pn hz hf => pss_exW fun ⟨⟨C, xs⟩, e, _⟩ => ?_) hg, fun Wout D C xs env hh S H σ dd R G x p => ?_⟩
    · have e' : cls = .ref (Γ.cls C) := e
      subst e'
      exact (hsu a oe C d pn hz hf).of
    · unfold runHds at p
      simp only at p
      split at p
      · rename_i ht1
        refine ⟨true, ht (C, true) (PySem.mem_of_lookup ht1), fun _ a ha => ⟨⟨(C, xs), rfl, ht1⟩, S, hh, env, R, G, ?_⟩, fun z => by cases z⟩
        show PostS Γ X.K S H D W0 (su .non env hh)
        cases z : su .non env hh with
        | ok f env1 h1 => rw [z] at p; cases f <;> exact p
        | exc _ _ _ _ => rw [z] at p; exact p.elim
        | stuck => rw [z] at p; exact p
      · rename_i ht1
        exact ⟨false, ht (C, false) (PySem.mem_of_lookup ht1), fun z => (by cases z), fun _ => ih Wout D C xs env hh S H σ dd R G x p⟩
      · exact p.elim
  | @consA x n i c b₀ suite np pos' hds tab su l hN hi hln hc ht hsu r ih =>
    obtain ⟨g, hg, ih⟩ := ih
    refine ⟨(c, some i, tHd Γ X.K ⟨tab, some i, su⟩) :: g, .consA hN hi hln hc (fun a oe cls d pn hz hf => pss_exW fun ⟨⟨C, xs⟩, e, ht1⟩ => ?_) hg, fun Wout D C xs env hh S H σ dd R G x p => ?_⟩
    · have e' : cls = .ref (Γ.cls C) := e
      subst e'
      exact (hsu a oe C xs d pn hz hf ht1).of
    · unfold runHds at p
      simp only at p
      split at p
      · rename_i ht1
        split at p
        · rename_i hall
          refine ⟨true, ht (C, true) (PySem.mem_of_lookup ht1), fun _ a ha => ⟨⟨(C, xs), rfl, ht1⟩, S, hh, env.set i (some (.exo a dd C xs)), R, G.set ?_ i, ?_⟩, fun z => by cases z⟩
          · unfold Rep
            refine ⟨rfl, ?_⟩
            unfold RepX at x
            split at x
            · exact ⟨[], .inl ⟨rfl, x⟩, repL_nil⟩
            · obtain ⟨d, v, q1, q2, q3⟩ := x
              exact ⟨[v], .inr ⟨d, v, rfl, q1, q2⟩, repL_cons q3 repL_nil⟩
            · exact x.elim
          · show PostS Γ X.K S H _ W0 (su (.exo a dd C xs) (env.set i (some (.exo a dd C xs))) hh)
            rw [← hall a dd] at p
            cases z : su (.exo a dd C xs) (env.set i (some (.exo a dd C xs))) hh with
            | ok f env1 h1 =>
              rw [z] at p
              cases f with
              | nx => exact fun S' H' σ' e R' G' => p S' H' _ e R' (G'.drop i none)
              | bk => exact fun S' H' σ' e R' G' => p S' H' _ e R' (G'.drop i none)
              | ct => exact fun S' H' σ' e R' G' => p S' H' _ e R' (G'.drop i none)
              | rt d => exact p
            | exc _ _ _ _ => rw [z] at p; exact p.elim
            | stuck => rw [z] at p; exact p.elim
        · exact p.elim
      · rename_i ht1
        exact ⟨false, ht (C, false) (PySem.mem_of_lookup ht1), fun z => (by cases z), fun _ => ih Wout D C xs env hh S H σ dd R G x p⟩
      · exact p.elim
/-- try: body / except ..: .. -/
theorem ss_try {body : List Stmt} {h₀ : ExceptHandler} {hds : List ExceptHandler} {pos : Pos} {b : MS} {l : List Hd} (hs : X.stack = X.env :: X.outer) (hf : X.env.frame = some X.env.locals) (tk : Takes X W)
    (hb : ∀ (W' : WX) (pn : List (Addr × Obj)) (xe : Value → Shared → Prop), Takes (X.tr pn xe) W' → PassesOwn (model X.prog X.w) X.A X.env xe → SSs Γ (X.tr pn xe) W' body b)
    (hh : SHd Γ X (h₀ :: hds) l) : SS Γ X W (.Try body (h₀ :: hds) [] [] pos) (sTry b l) := by
  obtain ⟨g, hg, eg⟩ := hh.hds
  refine ⟨_, ps_try_gen hs hf tk (tb := fun W' => tOfS Γ X.K W' b) (fun W' pn xe t1 t2 => (hb W' pn xe t1 t2).of) hg, fun S H h σ env D R G p => ⟨S, h, env, R, G, ?_⟩⟩
  unfold sTry at p
  cases z : b env h with
  | ok f env1 h1 => rw [z] at p; cases f <;> exact p
  | exc C xs env1 h1 =>
    rw [z] at p
    exact fun S' H' σ' dd e R' G' x => eg W D C xs env1 h1 S' H' σ' dd R' G' x (PostS.ext p e)
  | stuck => rw [z] at p; exact p.elim
end
end Mn
/-! ## MnG -/
set_option Elab.async false
set_option linter.all false
set_option maxRecDepth 100000
/-! Mn, part G: built-ins by call, methods of built-in types. -/
namespace Mn
open PySem PySem.Spec PyProof.Rows L2

theorem CallR.or {X : Cx} {f : Value} {r r' : List V → Hp → VK → Prop} (a : CallR X f r) (b : CallR X f r') : CallR X f (fun xs H Q => r xs H Q ∨ r' xs H Q) := by
  intro pins s σ H xs us Q I r h
  rcases h with h | h
  · exact a pins s σ H xs us Q I r h
  · exact b pins s σ H xs us Q I r h
section
variable {Γ : Gm} {K : PySem.W.Frag} {X : Cx} {W : WX}

/-! len -/
def fLen : MF
  | [.str z], h => if z.length ≤ sizeLine then .ok (.int z.length) h else .stuck
  | [.ref n], h => match h[n]? with
    | some (.lst xs) => .ok (.int xs.length) h
    | some (.dct kvs) => .ok (.int kvs.length) h
    | _ => .stuck
  | [x], h => match seqAt h x with
    | some xs => .ok (.int xs.length) h
    | none => .stuck
  | _, _ => .stuck
theorem repD_len : ∀ {kvs : List (MV × MV)} {us : List (Key × V)} {S : Sh}, RepD Γ K S kvs us → kvs.length = us.length
  | [], us, S, r => by unfold RepD at r; rw [r]; rfl
  | x :: xs, us, S, ⟨k, u, r, e1, e2, e3, e4⟩ => by rw [e1, List.length_cons, List.length_cons, repD_len e4]
def rLenAll (K : PySem.W.Frag) : List V → Hp → VK → Prop := fun xs H Q => (∃ x n, xs = [x] ∧ LenV K x H n ∧ Q (.int n) H) ∨ ∃ a kvs, xs = [V.ref a] ∧ H a = some (.dK kvs) ∧ Q (.int kvs.length) H
theorem call_lenAll : CallR X (.builtin "len") (rLenAll X.K) := CallR.or call_len call_lenD
theorem lift_len : LiftF Γ K (rLenAll K) fLen := by
  intro S H h xs us Q E R r p
  unfold fLen at p
  split at p
  · obtain ⟨v, rfl, q1⟩ := repL_1 r
    split at p
    · rename_i hz
      have := rep_str q1
      subst this
      exact .inl ⟨_, _, rfl, ⟨hz, rfl⟩, p.val R is_int⟩
    · exact p.elim
  · obtain ⟨v, rfl, q1⟩ := repL_1 r
    split at p
    · rename_i n _ xs hx
      obtain ⟨a, us, rfl, q2, q3⟩ := lstAt_ok (xs := xs) R (d := .ref n) (show lstAt h (.ref n) = some xs by unfold lstAt; simp only; rw [hx]) q1
      exact .inl ⟨_, us.length, rfl, .inl ⟨us, q2, rfl⟩, by rw [← repL_len q3]; exact p.val R is_int⟩
    · rename_i n _ kvs hx
      unfold Rep at q1
      obtain ⟨a, e1, rfl⟩ := q1
      obtain ⟨_, us, q2, q3⟩ := R.cell n _ a hx e1
      exact .inr ⟨a, us, rfl, q2, by rw [← repD_len q3]; exact p.val R is_int⟩
    · exact p.elim
  · rename_i x _ _ _
    obtain ⟨v, rfl, q1⟩ := repL_1 r
    split at p
    · rename_i xs hx
      obtain ⟨a, us, rfl, q2, q3⟩ := seqAt_ok R hx q1
      refine .inl ⟨_, us.length, rfl, ?_, by rw [← repL_len q3]; exact p.val R is_int⟩
      rcases q2 with q2 | q2
      · exact .inl ⟨us, q2, rfl⟩
      · exact .inr ⟨us, q2, rfl⟩
    · exact p.elim
  · exact p.elim

/-! int -/
def fInt : MF
  | [.int i], h => .ok (.int i) h
  | [.bl b], h => .ok (.int (if b then 1 else 0)) h
  | _, _ => .stuck
theorem lift_int : LiftF Γ K (fun xs H Q => (∃ i, xs = [V.int i] ∧ Q (.int i) H) ∨ ∃ k, xs = [V.bl k] ∧ Q (.int (if k then 1 else 0)) H) fInt := by
  intro S H h xs us Q E R r p
  unfold fInt at p
  split at p
  · obtain ⟨v, rfl, q1⟩ := repL_1 r
    exact .inl ⟨_, by rw [rep_int q1], p.val R is_int⟩
  · obtain ⟨v, rfl, q1⟩ := repL_1 r
    exact .inr ⟨_, by rw [rep_bl q1], p.val R is_int⟩
  · exact p.elim
/-! list, tuple -/
def fList (b : Bool) : MF
  | [x], h => match seqAt h x with
    | some xs => retL b xs h
    | none => .stuck
  | _, _ => .stuck
theorem lift_list {b : Bool} : LiftF Γ K (fun xs H Q => ∃ p ys, xs = [V.ref p] ∧ (SqL K H p ys ∨ SqT K H p ys) ∧ ∀ l, H l = none → Q (.ref l) (upd H l (.lst ys))) (fList b) := by
  intro S H h xs us Q E R r p
  unfold fList at p
  split at p
  · obtain ⟨v, rfl, q1⟩ := repL_1 r
    split at p
    · rename_i xs hx
      obtain ⟨a, us, rfl, q2, q3⟩ := seqAt_ok R hx q1
      exact ⟨a, us, rfl, q2, newL R q3 p⟩
    · exact p.elim
  · exact p.elim
def fTuple : MF
  | [.tup xs], h => .ok (.tup xs) h
  | [x], h => match lstAt h x with
    | some xs => .ok (.tup xs) h
    | none => .stuck
  | _, _ => .stuck
theorem lift_tuple : LiftF Γ K (fun xs H Q => ∃ p ys, xs = [V.ref p] ∧ ((SqL K H p ys ∧ ∀ l, H l = none → Q (.ref l) (upd H l (.tup ys))) ∨ (SqT K H p ys ∧ Q (.ref p) H))) fTuple := by
  intro S H h xs us Q E R r p
  unfold fTuple at p
  split at p
  · obtain ⟨v, rfl, q1⟩ := repL_1 r
    have q1' := q1
    obtain ⟨a, us, rfl, q2, q3⟩ := tup_ok R q1
    exact ⟨a, us, rfl, .inr ⟨q2, p.val R q1'⟩⟩
  · obtain ⟨v, rfl, q1⟩ := repL_1 r
    split at p
    · rename_i xs hx
      obtain ⟨a, us, rfl, q2, q3⟩ := lstAt_ok R hx q1
      exact ⟨a, us, rfl, .inl ⟨q2, newT R q3 p⟩⟩
    · exact p.elim
  · exact p.elim
/-! max, min of two ints -/
def fMax2 : MF
  | [.int i, .int j], h => .ok (.int (if j > i then j else i)) h
  | _, _ => .stuck
theorem lift_max2 : LiftF Γ K (fun xs H Q => ∃ i j : Int, xs = [V.int i, .int j] ∧ Q (.int (if j > i then j else i)) H) fMax2 := by
  intro S H h xs us Q E R r p
  unfold fMax2 at p
  split at p
  · obtain ⟨v, w, rfl, q1, q2⟩ := repL_2 r
    exact ⟨_, _, by rw [rep_int q1, rep_int q2], p.val R is_int⟩
  · exact p.elim
def fMin2 : MF
  | [.int i, .int j], h => .ok (.int (if j < i then j else i)) h
  | _, _ => .stuck
theorem lift_min2 : LiftF Γ K (fun xs H Q => ∃ i j : Int, xs = [V.int i, .int j] ∧ Q (.int (if j < i then j else i)) H) fMin2 := by
  intro S H h xs us Q E R r p
  unfold fMin2 at p
  split at p
  · obtain ⟨v, w, rfl, q1, q2⟩ := repL_2 r
    exact ⟨_, _, by rw [rep_int q1, rep_int q2], p.val R is_int⟩
  · exact p.elim
/-! sum, max, min of a list of ints -/
def intsOf : List MV → Option (List Int)
  | [] => some []
  | .int i :: xs => match intsOf xs with
    | some ns => some (i :: ns)
    | none => none
  | _ :: _ => none
theorem intsOf_eq : ∀ {xs : List MV} {ns : List Int}, intsOf xs = some ns → xs = ns.map MV.int
  | [], ns, e => by cases e; rfl
  | .int i :: xs, ns, e => by
    unfold intsOf at e
    split at e
    · rename_i ms hm
      cases e
      rw [intsOf_eq hm]; rfl
    · cases e
  | .non :: _, _, e => by cases e
  | .bl _ :: _, _, e => by cases e
  | .str _ :: _, _, e => by cases e
  | .tup _ :: _, _, e => by cases e
  | .fl _ :: _, _, e => by cases e
  | .sl _ :: _, _, e => by cases e
  | .ob _ _ _ :: _, _, e => by cases e
  | .ref _ :: _, _, e => by cases e
  | .exo _ _ _ _ :: _, _, e => by cases e
theorem intsOf_map : ∀ ns : List Int, intsOf (ns.map MV.int) = some ns
  | [] => rfl
  | n :: ns => by show (match intsOf (ns.map MV.int) with | some ms => some (n :: ms) | none => none) = _; rw [intsOf_map ns]
def fSum : MF
  | [x], h => match lstAt h x with
    | some xs => match intsOf xs with
      | some ns => .ok (.int ns.sum) h
      | none => .stuck
    | none => .stuck
  | _, _ => .stuck
theorem ints_ok {S : Sh} {H : Hp} {h : MH} {d : MV} {v : V} {xs : List MV} {ns : List Int} (R : Rel Γ K S h H) (e : lstAt h d = some xs) (e2 : intsOf xs = some ns) (r : Rep Γ K S d v) : ∃ a, v = .ref a ∧ SqL K H a (ns.map V.int) := by
  obtain ⟨a, us, rfl, q2, q3⟩ := lstAt_ok R e r
  rw [intsOf_eq e2] at q3
  rw [repL_ints q3] at q2
  exact ⟨a, rfl, q2⟩
theorem lift_sum : LiftF Γ K (rSum K) fSum := by
  intro S H h xs us Q E R r p
  unfold fSum at p
  split at p
  · obtain ⟨v, rfl, q1⟩ := repL_1 r
    split at p
    · rename_i xs hx
      split at p
      · rename_i ns hn
        obtain ⟨a, rfl, q2⟩ := ints_ok R hx hn q1
        exact ⟨a, ns, rfl, q2, p.val R is_int⟩
      · exact p.elim
    · exact p.elim
  · exact p.elim
def maxL : Int → List Int → Int
  | m, [] => m
  | m, n :: ns => maxL (if n > m then n else m) ns
def minL : Int → List Int → Int
  | m, [] => m
  | m, n :: ns => minL (if n < m then n else m) ns
theorem maxL_ge : ∀ (ns : List Int) (m : Int), m ≤ maxL m ns ∧ ∀ y ∈ ns, y ≤ maxL m ns
  | [], m => ⟨Int.le_refl _, fun _ h => nomatch h⟩
  | n :: ns, m => by
    obtain ⟨h1, h2⟩ := maxL_ge ns (if n > m then n else m)
    unfold maxL
    have e1 : m ≤ if n > m then n else m := by split <;> omega
    have e2 : n ≤ if n > m then n else m := by split <;> omega
    refine ⟨Int.le_trans e1 h1, fun y hy => ?_⟩
    rcases List.mem_cons.mp hy with rfl | hy
    · exact Int.le_trans e2 h1
    · exact h2 y hy
theorem maxL_mem : ∀ (ns : List Int) (m : Int), maxL m ns = m ∨ maxL m ns ∈ ns
  | [], m => .inl rfl
  | n :: ns, m => by
    unfold maxL
    rcases maxL_mem ns (if n > m then n else m) with h | h
    · rw [h]
      split
      · exact .inr List.mem_cons_self
      · exact .inl rfl
    · exact .inr (List.mem_cons_of_mem _ h)
theorem minL_le : ∀ (ns : List Int) (m : Int), minL m ns ≤ m ∧ ∀ y ∈ ns, minL m ns ≤ y
  | [], m => ⟨Int.le_refl _, fun _ h => nomatch h⟩
  | n :: ns, m => by
    obtain ⟨h1, h2⟩ := minL_le ns (if n < m then n else m)
    unfold minL
    have e1 : (if n < m then n else m) ≤ m := by split <;> omega
    have e2 : (if n < m then n else m) ≤ n := by split <;> omega
    refine ⟨Int.le_trans h1 e1, fun y hy => ?_⟩
    rcases List.mem_cons.mp hy with rfl | hy
    · exact Int.le_trans h1 e2
    · exact h2 y hy
theorem minL_mem : ∀ (ns : List Int) (m : Int), minL m ns = m ∨ minL m ns ∈ ns
  | [], m => .inl rfl
  | n :: ns, m => by
    unfold minL
    rcases minL_mem ns (if n < m then n else m) with h | h
    · rw [h]
      split
      · exact .inr List.mem_cons_self
      · exact .inl rfl
    · exact .inr (List.mem_cons_of_mem _ h)
def fMax1 : MF
  | [x], h => match lstAt h x with
    | some xs => match intsOf xs with
      | some (n :: ns) => .ok (.int (maxL n ns)) h
      | _ => .stuck
    | none => .stuck
  | _, _ => .stuck
theorem lift_max1 : LiftF Γ K (rMax K) fMax1 := by
  intro S H h xs us Q E R r p
  unfold fMax1 at p
  split at p
  · obtain ⟨v, rfl, q1⟩ := repL_1 r
    split at p
    · rename_i xs hx
      split at p
      · rename_i n ns hn
        obtain ⟨a, rfl, q2⟩ := ints_ok R hx hn q1
        refine ⟨a, n :: ns, rfl, q2, Nat.succ_pos _, fun m hm hall => ?_⟩
        have hg := maxL_ge ns n
        have e : m = maxL n ns := by
          have h1 : maxL n ns ≤ m := by
            rcases maxL_mem ns n with h | h
            · rw [h]; exact hall n List.mem_cons_self
            · exact hall _ (List.mem_cons_of_mem _ h)
          have h2 : m ≤ maxL n ns := by
            rcases List.mem_cons.mp hm with rfl | hm
            · exact hg.1
            · exact hg.2 m hm
          omega
        rw [e]
        exact p.val R is_int
      · exact p.elim
    · exact p.elim
  · exact p.elim
def fMin1 : MF
  | [x], h => match lstAt h x with
    | some xs => match intsOf xs with
      | some (n :: ns) => .ok (.int (minL n ns)) h
      | _ => .stuck
    | none => .stuck
  | _, _ => .stuck
theorem lift_min1 : LiftF Γ K (rMin K) fMin1 := by
  intro S H h xs us Q E R r p
  unfold fMin1 at p
  split at p
  · obtain ⟨v, rfl, q1⟩ := repL_1 r
    split at p
    · rename_i xs hx
      split at p
      · rename_i n ns hn
        obtain ⟨a, rfl, q2⟩ := ints_ok R hx hn q1
        refine ⟨a, n :: ns, rfl, q2, Nat.succ_pos _, fun m hm hall => ?_⟩
        have hg := minL_le ns n
        have e : m = minL n ns := by
          have h1 : m ≤ minL n ns := by
            rcases minL_mem ns n with h | h
            · rw [h]; exact hall n List.mem_cons_self
            · exact hall _ (List.mem_cons_of_mem _ h)
          have h2 : minL n ns ≤ m := by
            rcases List.mem_cons.mp hm with rfl | hm
            · exact hg.1
            · exact hg.2 m hm
          omega
        rw [e]
        exact p.val R is_int
      · exact p.elim
    · exact p.elim
  · exact p.elim

/-! isinstance, a built-in class -/
def tyOfM (h : MH) : MV → Option String
  | .non => some "NoneType"
  | .bl _ => some "bool"
  | .int _ => some "int"
  | .str _ => some "str"
  | .tup _ => some "tuple"
  | .fl _ => some "list"
  | .ref n => match h[n]? with
    | some (.lst _) => some "list"
    | some (.dct _) => some "dict"
    | _ => none
  | _ => none
def isiB (a T : String) : Option Bool := if a ∈ ["NoneType", "bool", "int", "str", "tuple", "list", "dict"] ∧ T ∈ ["bool", "int", "str", "tuple", "list", "dict"] then some (a == T || (a == "bool" && T == "int")) else none
theorem isiB_ok {a T : String} {b : Bool} (e : isiB a T = some b) : kitB a T = some b := by
  unfold isiB at e
  split at e
  · rename_i hm
    obtain ⟨h1, h2⟩ := hm
    have gen : ∀ x ∈ ["NoneType", "bool", "int", "str", "tuple", "list", "dict"], ∀ y ∈ ["bool", "int", "str", "tuple", "list", "dict"], kitB x y = some (x == y || (x == "bool" && y == "int")) := by decide +kernel
    rw [gen a h1 T h2]; exact e
  · cases e
def fIsi (T : String) (x : MV) (h : MH) : Out MV := match tyOfM h x with
  | some a => match isiB a T with
    | some b => .ok (.bl b) h
    | none => .stuck
  | none => .stuck
theorem tyx_tup {S : Sh} {H : Hp} {h : MH} {a : Addr} {us : List V} (R : Rel Γ K S h H) (q : SqT K S.Hs a us) : TyX K H (.ref a) (.type "tuple") := by
  rcases q with (q | ⟨o, q⟩) | ⟨o, its, n, q1, q2, _⟩
  · exact .base (.tup (R.sub _ _ q))
  · exact .fTuple (R.sub _ _ q)
  · exact .kTuple q1 q2
theorem tyOfM_ok {S : Sh} {H : Hp} {h : MH} {x : MV} {v : V} {a : String} (R : Rel Γ K S h H) (e : tyOfM h x = some a) (r : Rep Γ K S x v) : TyX K H v (.type a) := by
  cases x with
  | non => cases e; rw [rep_non r]; exact .base .non
  | bl b => cases e; rw [rep_bl r]; exact .base (.bl b)
  | int i => cases e; rw [rep_int r]; exact .base (.int i)
  | str z => cases e; rw [rep_str r]; exact .base (.str z)
  | tup xs =>
    cases e
    unfold Rep at r
    obtain ⟨a, us, rfl, q1, _⟩ := r
    exact tyx_tup R q1
  | fl xs =>
    cases e
    unfold Rep at r
    obtain ⟨a, us, rfl, q1, _⟩ := r
    exact .base (.lst (R.sub _ _ q1))
  | ref n =>
    unfold Rep at r
    obtain ⟨a, e1, rfl⟩ := r
    unfold tyOfM at e
    simp only at e
    split at e
    · rename_i xs hx
      cases e
      obtain ⟨_, us, q1, _⟩ := R.cell n _ a hx e1
      exact .base (.lst q1)
    · rename_i kvs hx
      cases e
      obtain ⟨_, us, q1, _⟩ := R.cell n _ a hx e1
      exact .base (.dK q1)
    · cases e
  | sl _ => cases e
  | ob _ _ _ => cases e
  | exo _ _ _ _ => cases e
theorem se_isi {e : Expr} {me : ME} {T : String} {p p2 pos : Pos} (ha : SE Γ X W e me) (hm : X.mg "isinstance" = none) (hm2 : X.mg (Str.ofString T) = none) (hg : Gl X "isinstance" := by rfl) (hg2 : Gl X (Str.ofString T) := by rfl) (hv : bootBuiltins "isinstance" = some (.builtin "isinstance") := by decide +kernel) (hv2 : bootBuiltins (Str.ofString T) = some (.type T) := by decide +kernel)
    (hn2 : (Str.ofString T) ≠ "__name__" := by decide) (hd2 : ((Str.ofString T) == ("__debug__" : Str)) = false := by decide)
    (he : starEach [e, .Name (Str.ofString T) p2] X.env = (false, eval e X.env) :: starEach [.Name (Str.ofString T) p2] X.env := by rfl) (he2 : starEach [.Name (Str.ofString T) p2] X.env = (false, eval (.Name (Str.ofString T) p2) X.env) :: starEach [] X.env := by rfl) (hpl : (backTo pos (starEach [.Name (Str.ofString T) p2] X.env)).any (·.1) = false := by rfl) :
    SE Γ X W (.Call (.Name "isinstance" p) [e, .Name (Str.ofString T) p2] [] pos) (m1 (fIsi T) me) := by
  obtain ⟨t, pt, et⟩ := ha.ex
  refine ⟨_, pe_callB call_isi hg hm hv (pa_cons pt (pa_cons (pe_bltn (v := .ty T) hg2 hm2 hv2 rfl hn2 hd2) pa_nil he2) he) (by decide) (by decide) he hpl, fun S H h σ env Q R G q => exE_bind (t := t) et R G q fun x h1 S1 H1 v e1 R1 G1 r1 p1 => ?_⟩
  unfold fIsi at p1
  split at p1
  · rename_i a ha
    split at p1
    · rename_i b hb
      exact ⟨v, .ty T, .type a, .type T, b, rfl, .ty T, tyOfM_ok R1 ha r1, kit_ty (isiB_ok hb), p1.val R1 is_bl⟩
    · exact p1.elim
  · exact p1.elim

/-! isinstance of the caught exception -/
open Classical in
noncomputable def mIsE (i : Nat) (v : MV) (tab : List (Str × Bool)) : ME := fun env h => if env[i]? = some (some v) then (match v with
  | .exo _ _ C [] => match tab.lookup C with
    | some b => .ok (.bl b) h
    | none => .stuck
  | _ => .stuck) else .stuck
theorem se_isE {X0 : Cx} {a : Addr} {oe : Obj} {pn : List (Addr × Obj)} {C n D : Str} {xs : List MV} {d : Option Addr} {tab : List (Str × Bool)} {cv : Value} {v2 : V} {p p1 p2 pos : Pos} (i : Nat) (hz : Zc (.ref (Γ.cls C)) d oe) (hf : ∃ vs, oe.data = .fields vs)
    (hi : X0.N[i]? = some n) (hvis : Vis X0.env.scope n) (hdn : (n == ("__debug__" : Str)) = false) (hcn : (n == ("__classdict__" : Str)) = false)
    (hD : PE (X0.suite a ((a, oe) :: pn)) (.Name D p2) (tC v2)) (hcv : ∀ u, RelV v2 u → u = cv)
    (ht : ∀ q ∈ tab, ExcC X0.K (Γ.cls q.1) ∧ PySem.W.kitOne X0.K (.ref (Γ.cls q.1)) cv = some q.2)
    (hm : X0.mg "isinstance" = none) (hg : Gl X0 "isinstance" := by rfl) (hv : bootBuiltins "isinstance" = some (.builtin "isinstance") := by decide +kernel)
    (he : starEach [.Name n p1, .Name D p2] X0.env = (false, eval (.Name n p1) X0.env) :: starEach [.Name D p2] X0.env := by rfl) (he2 : starEach [.Name D p2] X0.env = (false, eval (.Name D p2) X0.env) :: starEach [] X0.env := by rfl) (hpl : (backTo pos (starEach [.Name D p2] X0.env)).any (·.1) = false := by rfl) :
    SE Γ (X0.suite a ((a, oe) :: pn)) W0 (.Call (.Name "isinstance" p) [.Name n p1, .Name D p2] [] pos) (mIsE i (.exo a d C xs) tab) := by
  by_cases hcase : ∃ b, tab.lookup C = some b
  · obtain ⟨b, hb⟩ := hcase
    obtain ⟨hE, hk⟩ := ht _ (PySem.mem_of_lookup hb)
    by_cases hd : d = none
    · subst hd
      refine ⟨_, pe_callB (X := X0.suite a ((a, oe) :: pn)) (call_isE (X := X0) hE hz hf) hg hm hv (pa_cons (pe_var (i := i) hi hvis hdn hcn) (pa_cons hD pa_nil he2) he) (by decide) (by decide) he hpl, fun S H h σ env Q R G q => ?_⟩
      unfold mIsE at q
      split at q
      · rename_i henv
        obtain ⟨v, h1, h2⟩ := G.2 i _ henv
        unfold Rep at h2
        obtain ⟨rfl, _⟩ := h2
        cases xs with
        | nil =>
          simp only [hb] at q
          exact ⟨.ref a, h1, v2, cv, b, rfl, hcv, hk, q.val R is_bl⟩
        | cons x xs => exact q.elim
      · exact q.elim
    · refine ⟨_, (⟨fun _ _ _ _ _ _ z => False.elim z⟩ : PE _ _ (fun _ _ _ => False)), fun S H h σ env Q R G q => ?_⟩
      unfold mIsE at q
      split at q
      · rename_i henv
        obtain ⟨v, h1, h2⟩ := G.2 i _ henv
        unfold Rep at h2
        obtain ⟨rfl, us, h3, h4⟩ := h2
        cases xs with
        | nil =>
          unfold RepL at h4
          subst h4
          rcases h3 with ⟨_, h3⟩ | ⟨dd, u, h3, _⟩
          · exact hd h3
          · cases h3
        | cons x xs => exact q.elim
      · exact q.elim
  · refine ⟨_, (⟨fun _ _ _ _ _ _ z => False.elim z⟩ : PE _ _ (fun _ _ _ => False)), fun S H h σ env Q R G q => ?_⟩
    unfold mIsE at q
    split at q
    · cases xs with
      | nil =>
        have : tab.lookup C = none := by
          cases z : tab.lookup C with
          | none => rfl
          | some b => exact absurd ⟨b, z⟩ hcase
        simp only [this] at q
        exact q.elim
      | cons x xs => exact q.elim
    · exact q.elim

/-! ### displays -/
def mTup (a : MA) : ME := fun env h => (a env h).bind fun xs h => if xs.length ≤ sizeLine then .ok (.tup xs) h else .stuck
def mLst (b : Bool) (a : MA) : ME := fun env h => (a env h).bind fun xs h => if xs.length ≤ sizeLine then retL b xs h else .stuck
variable {es : List Expr} {ms : MA} {pos : Pos}
theorem se_tup {x1} (ha : SA Γ X W es ms) : SE Γ X W (.Tuple es x1 pos) (mTup ms) := by
  obtain ⟨t, pt, et⟩ := ha.ex
  refine ⟨_, pe_tup pt, fun S H h σ env Q R G p => exA_bind (t := t) et R G p fun xs h1 S1 H1 us e1 R1 G1 r1 p1 => ?_⟩
  split at p1
  · rename_i hz
    exact ⟨by rw [← repL_len r1]; exact hz, newT R1 r1 p1⟩
  · exact p1.elim
theorem se_lst (b : Bool) (ha : SA Γ X W es ms) : SE Γ X W (.List es pos) (mLst b ms) := by
  obtain ⟨t, pt, et⟩ := ha.ex
  refine ⟨_, pe_lst pt, fun S H h σ env Q R G p => exA_bind (t := t) et R G p fun xs h1 S1 H1 us e1 R1 G1 r1 p1 => ?_⟩
  split at p1
  · rename_i hz
    exact ⟨by rw [← repL_len r1]; exact hz, newL R1 r1 p1⟩
  · exact p1.elim

/-! ### methods of built-in types -/
def LiftM (Γ : Gm) (K : PySem.W.Frag) (r : V → List V → Hp → VK → Prop) (f : MV → List MV → MH → Out MV) : Prop :=
  ∀ S H h x u xs us Q E, Rel Γ K S h H → Rep Γ K S x u → RepL Γ K S xs us → Post Γ K (Rep Γ K) S H Q E (f x xs h) → r u us H Q
def tyChk (T : String) (h : MH) (x : MV) : Bool := (T == "list" && (lstAt h x).isSome) || (T == "str" && (match x with | .str _ => true | _ => false)) || (T == "dict" && (match x with | .ref n => (match h[n]? with | some (.dct _) => true | _ => false) | _ => false))
theorem tyChk_ok {T : String} {S : Sh} {H : Hp} {h : MH} {x : MV} {v : V} (R : Rel Γ K S h H) (e : tyChk T h x = true) (r : Rep Γ K S x v) : tyV K T v H := by
  unfold tyChk at e
  simp only [Bool.or_eq_true, Bool.and_eq_true, beq_iff_eq] at e
  rcases e with (⟨rfl, e⟩ | ⟨rfl, e⟩) | ⟨rfl, e⟩
  · obtain ⟨xs, hx⟩ := Option.isSome_iff_exists.mp e
    obtain ⟨a, us, rfl, q2, q3⟩ := lstAt_ok R hx r
    exact .inl ⟨rfl, us, q2⟩
  · cases x with
    | str z => rw [rep_str r]; exact rfl
    | _ => cases e
  · cases x with
    | ref n =>
      simp only at e
      split at e
      · rename_i kvs hx
        unfold Rep at r
        obtain ⟨a, e1, rfl⟩ := r
        obtain ⟨_, us, q2, q3⟩ := R.cell n _ a hx e1
        exact .inr (.inr (.inl ⟨rfl, .inl ⟨us, q2⟩⟩))
      · cases e
    | _ => cases e
def mM (T : String) (f : MV → List MV → MH → Out MV) (o : ME) (a : MA) : ME := fun env h => (o env h).bind fun x h => if tyChk T h x = true then (a env h).bind fun xs h => f x xs h else .stuck
def mM0 (T : String) (f : MV → List MV → MH → Out MV) (o : ME) : ME := fun env h => (o env h).bind fun x h => if tyChk T h x = true then f x [] h else .stuck
variable {o e : Expr} {mo : ME} {name : Str} {apos cpos : Pos} {T id : String} {r : V → List V → Hp → VK → Prop} {f : MV → List MV → MH → Out MV}
theorem se_m0 (pa : PlainAttrs T) (slot : Slot T name id) (hty : typeOf (.builtin id) = pure (.type "method_descriptor")) (hm : MtR X id r) (hl : LiftM Γ X.K r f) (ho : SE Γ X W o mo)
    (hbase : attributeBase o name X.env (eval o X.env) = eval o X.env := by rfl) (hline : (apos.endLine == cpos.line) = true := by rfl) : SE Γ X W (.Call (.Attribute o name apos) [] [] cpos) (mM0 T f mo) := by
  obtain ⟨t, pt, et⟩ := ho.ex
  refine ⟨_, pe_bm0 pa slot hty hm pt hbase hline, fun S H h σ env Q R G p => exE_bind (t := t) et R G p fun x h1 S1 H1 v e1 R1 G1 r1 p1 => ?_⟩
  split at p1
  · rename_i hc
    exact ⟨tyChk_ok R1 hc r1, hl S1 H1 h1 x v [] [] Q _ R1 r1 repL_nil p1⟩
  · exact p1.elim
theorem se_m (pa : PlainAttrs T) (slot : Slot T name id) (hty : typeOf (.builtin id) = pure (.type "method_descriptor")) (hm : MtR X id r) (hl : LiftM Γ X.K r f) (ho : SE Γ X W o mo) (ha : SA Γ X W (e :: es) ms)
    (hbase : attributeBase o name X.env (eval o X.env) = eval o X.env := by rfl)
    (hfew : ((backTo cpos (starEach (e :: es) X.env)).all (fun x => !x.1) && (backToKw cpos (keywordEach [] X.env)).all (fun x => x.1.isSome)
      && decide ((e :: es).length + ([] : List Keyword).length + (if ([] : List Keyword).isEmpty then 0 else 1) < 30)) = true := by rfl)
    (hline : (apos.endLine == cpos.line) = true := by rfl) (hs : starEach (e :: es) X.env = (false, eval e X.env) :: starEach es X.env := by rfl) (hplain : (backTo cpos (starEach es X.env)).any (·.1) = false := by rfl) : SE Γ X W (.Call (.Attribute o name apos) (e :: es) [] cpos) (mM T f mo ms) := by
  obtain ⟨t, pt, et⟩ := ho.ex
  obtain ⟨ta, pta, eta⟩ := ha.ex
  refine ⟨_, pe_bm pa slot hty hm pt pta hbase hfew hline hs hplain, fun S H h σ env Q R G p => exE_bind (t := t) et R G p fun x h1 S1 H1 v e1 R1 G1 r1 p1 => ?_⟩
  split at p1
  · rename_i hc
    exact ⟨tyChk_ok R1 hc r1, exA_bind (t := ta) eta R1 G1 p1 fun xs h2 S2 H2 us e2 R2 G2 r2 p2 => hl S2 H2 h2 x v xs us Q _ R2 (r1.ext e2) r2 p2⟩
  · exact p1.elim
def fAppend : MV → List MV → MH → Out MV
  | .ref n, [y], h => match h[n]? with
    | some (.lst xs) => if xs.length < sizeLine then .ok .non (h.set n (.lst (xs ++ [y]))) else .stuck
    | _ => .stuck
  | _, _, _ => .stuck
theorem lift_append : LiftM Γ K rAppend fAppend := by
  intro S H h x u xs us Q E R rx rs p
  unfold fAppend at p
  split at p
  · split at p
    · rename_i n y _ xs hx
      split at p
      · rename_i hz
        obtain ⟨v, rfl, q1⟩ := repL_1 rs
        obtain ⟨a, vs, rfl, q2, q3, q4⟩ := storeL (ys := xs ++ [y]) R hx rx
        obtain ⟨R1, e1⟩ := q4 _ (repL_app q3 (repL_cons q1 repL_nil))
        exact ⟨a, vs, v, rfl, rfl, q2, by rw [← repL_len q3]; exact hz, p _ _ .non e1 R1 is_non⟩
      · exact p.elim
    · exact p.elim
  · exact p.elim
def fPop : MV → List MV → MH → Out MV
  | .ref n, [], h => match h[n]? with
    | some (.lst xs) => match xs[xs.length - 1]? with
      | some y => .ok y (h.set n (.lst xs.dropLast))
      | none => .stuck
    | _ => .stuck
  | _, _, _ => .stuck
theorem lift_pop : LiftM Γ K rPop fPop := by
  intro S H h x u xs us Q E R rx rs p
  unfold fPop at p
  split at p
  · split at p
    · rename_i n xs hx
      split at p
      · rename_i y hy
        unfold RepL at rs
        subst rs
        obtain ⟨a, vs, rfl, q2, q3, q4⟩ := storeL (ys := xs.dropLast) R hx rx
        obtain ⟨w, w1, w2⟩ := repL_get q3 hy
        obtain ⟨R1, e1⟩ := q4 _ (repL_dropLast q3)
        exact ⟨a, vs, w, rfl, rfl, q2, by rw [← repL_len q3]; exact w1, p _ _ w e1 R1 (w2.ext e1)⟩
      · exact p.elim
    · exact p.elim
  · exact p.elim
def fReverse : MV → List MV → MH → Out MV
  | .ref n, [], h => match h[n]? with
    | some (.lst xs) => .ok .non (h.set n (.lst xs.reverse))
    | _ => .stuck
  | _, _, _ => .stuck
theorem lift_reverse : LiftM Γ K rReverse fReverse := by
  intro S H h x u xs us Q E R rx rs p
  unfold fReverse at p
  split at p
  · split at p
    · rename_i n xs hx
      unfold RepL at rs
      subst rs
      obtain ⟨a, vs, rfl, q2, q3, q4⟩ := storeL (ys := xs.reverse) R hx rx
      obtain ⟨R1, e1⟩ := q4 _ (repL_rev q3)
      exact ⟨a, vs, rfl, rfl, q2, p _ _ .non e1 R1 is_non⟩
    · exact p.elim
  · exact p.elim
def fExtend : MV → List MV → MH → Out MV
  | .ref n, [y], h => match h[n]?, wlst h y with
    | some (.lst xs), some ys => if xs.length + ys.length ≤ sizeLine then .ok .non (h.set n (.lst (xs ++ ys))) else .stuck
    | _, _ => .stuck
  | _, _, _ => .stuck
theorem lift_extend : LiftM Γ K rExtend fExtend := by
  intro S H h x u xs us Q E R rx rs p
  unfold fExtend at p
  split at p
  · split at p
    · rename_i n y xs ys hx hy
      split at p
      · rename_i hz
        obtain ⟨v, rfl, q1⟩ := repL_1 rs
        obtain ⟨b, ws, rfl, w2, w3⟩ := wlst_ok R hy q1
        obtain ⟨a, vs, rfl, q2, q3, q4⟩ := storeL (ys := xs ++ ys) R hx rx
        obtain ⟨R1, e1⟩ := q4 _ (repL_app q3 w3)
        exact ⟨a, b, vs, ws, rfl, rfl, q2, w2, by rw [← repL_len q3, ← repL_len w3]; exact hz, p _ _ .non e1 R1 is_non⟩
      · exact p.elim
    · exact p.elim
  · exact p.elim
/-! in, not in: flat things -/
def scalV : MV → Option V
  | .non => some .non
  | .bl b => some (.bl b)
  | .int i => some (.int i)
  | .str x => some (.str x)
  | _ => none
def scalVs : List MV → Option (List V)
  | [] => some []
  | x :: xs => match scalV x, scalVs xs with
    | some v, some vs => some (v :: vs)
    | _, _ => none
theorem scalV_ok {S : Sh} {x : MV} {v w : V} (e : scalV x = some w) (r : Rep Γ K S x v) : v = w := by
  cases x with
  | non => cases e; exact rep_non r
  | bl _ => cases e; exact rep_bl r
  | int _ => cases e; exact rep_int r
  | str _ => cases e; exact rep_str r
  | _ => cases e
theorem scalVs_ok {S : Sh} : ∀ {xs : List MV} {vs ws : List V}, scalVs xs = some ws → RepL Γ K S xs vs → vs = ws
  | [], vs, ws, e, r => by cases e; unfold RepL at r; exact r
  | x :: xs, vs, ws, e, r => by
    unfold RepL at r
    obtain ⟨u, r', rfl, q1, q2⟩ := r
    unfold scalVs at e
    split at e
    · rename_i v vs' h1 h2
      cases e
      rw [scalV_ok h1 q1, scalVs_ok h2 q2]
    · cases e
theorem scalV_flat {x : MV} {w : V} (e : scalV x = some w) : flatV w = true := by
  cases x with
  | non => cases e; rfl
  | bl _ => cases e; rfl
  | int _ => cases e; rfl
  | str _ => cases e; rfl
  | _ => cases e
theorem scalVs_flat : ∀ {xs : List MV} {ws : List V}, scalVs xs = some ws → ws.all flatV = true
  | [], ws, e => by cases e; rfl
  | x :: xs, ws, e => by
    unfold scalVs at e
    split at e
    · rename_i v vs' h1 h2
      cases e
      rw [List.all_cons, scalV_flat h1, scalVs_flat h2]; rfl
    · cases e
def fIn (neg : Bool) (x y : MV) (h : MH) : Out MV := match scalV x, seqAt h y with
  | some v, some xs => match scalVs xs with
    | some vs => .ok (.bl (if neg = true then !inV v vs else inV v vs)) h
    | none => .stuck
  | _, _ => .stuck
theorem lift_in {neg : Bool} : Lift2 Γ K (rIn K neg) (fIn neg) := by
  intro S H h x y u v Q E R rx ry p
  unfold fIn at p
  split at p
  · rename_i w xs h1 h2
    split at p
    · rename_i vs h3
      obtain ⟨a, us, rfl, q2, q3⟩ := seqAt_ok R h2 ry
      have e1 := scalV_ok h1 rx
      have e2 := scalVs_ok h3 q3
      subst e1 e2
      exact ⟨a, us, rfl, q2, scalV_flat h1, scalVs_flat h3, p.val R is_bl⟩
    · exact p.elim
  · exact p.elim
end
end Mn
/-! ## MnH -/
set_option Elab.async false
set_option linter.all false
set_option maxRecDepth 100000
/-! Mn, part H: short words for printed derivations. -/
namespace Mn
open PySem PySem.Spec PyProof.Rows L2

theorem kit_own {K : PySem.W.Frag} {R C : Addr} {b : Bool} (hd : PySem.W.hasDictIn K C = true) (ht : PySem.W.typeIn K (.ref C) = some (.type "type")) (hs : PySem.W.subIn K (.ref R) (.ref C) = some b) (hn : b = true ∨ R ≠ C) : PySem.W.kitOne K (.ref R) (.ref C) = some b := by
  obtain ⟨cd, hc, _⟩ := PySem.W.any_some hd
  unfold PySem.W.kitOne
  split
  · rename_i e
    have e' : R = C := Value.ref.inj (beq_iff_eq.mp e)
    rcases hn with rfl | hn
    · rfl
    · exact absurd e' hn
  · unfold PySem.W.kitCls
    simp only [hc, ht, Option.isSome_some, beq_self_eq_true, Bool.and_self, if_true]
    exact hs
theorem kit_bltn {K : PySem.W.Frag} {R : Addr} {T : String} {b : Bool} (hm : PySem.W.kitMeta T = true) (hs : PySem.W.subIn K (.ref R) (.type T) = some b) : PySem.W.kitOne K (.ref R) (.type T) = some b := by
  unfold PySem.W.kitOne
  rw [if_neg (by intro e; exact nomatch (beq_iff_eq.mp e))]
  unfold PySem.W.kitCls
  simp only [hm, if_true]
  exact hs
/-- a def that may be called by its name -/
structure CallOk (P : Program) (w : World) (K : PySem.W.Frag) (mg : Str → Option Value) (base : Heap) (Γ : Gm) (k : Nat) (x : Str) (n : Nat) (g : MF) : Prop where
  ex : ∃ (f : Addr) (fd : FuncData) (ps : List Str), FnOk P w K mg base (L2.CX P w) k f fd ps (spM Γ K n g) ∧ mg x = some (.ref f) ∧ PySem.W.keepIn K (.ref f) = true ∧ Binds K fd ps []
/-- a def of the text as the top left it -/
structure DefOk (K : PySem.W.Frag) (mg : Str → Option Value) (x : Str) (st : Stmt) (ps : List Str) : Prop where
  ex : ∃ (f : Addr) (fd : FuncData), Fun K x x st f fd ∧ (∀ us : List Value, us.length = ps.length → bindArgs fd ⟨us, []⟩ = pure (ps.zip us)) ∧ mg x = some (.ref f)
/-- its promise -/
structure DefRun (P : Program) (w : World) (K : PySem.W.Frag) (mg : Str → Option Value) (base : Heap) (Γ : Gm) (k : Nat) (x : Str) (ps : List Str) (g : MF) : Prop where
  ex : ∃ (f : Addr) (fd : FuncData), FnOk P w K mg base (L2.CX P w) k f fd ps (spM Γ K ps.length g) ∧ mg x = some (.ref f) ∧ PySem.W.keepIn K (.ref f) = true ∧ (∀ us : List Value, us.length = ps.length → bindArgs fd ⟨us, []⟩ = pure (ps.zip us)) ∧ ∃ oc od sl, K.lookup f = some ⟨oc, od, .func fd, sl⟩
section
variable {P : Program} {w : World} {K : PySem.W.Frag} {mg : Str → Option Value} {base : Heap} {Γ : Gm} {k j n : Nat} {x : Str} {g : MF} {ps : List Str}
theorem CallOk.mono (c : CallOk P w K mg base Γ j x n g) (h : j ≤ k) : CallOk P w K mg base Γ k x n g := by
  obtain ⟨f, fd, ps, h1, h2, h3, h4⟩ := c.ex
  exact ⟨f, fd, ps, h1.mono h, h2, h3, h4⟩
theorem DefRun.call (c : DefRun P w K mg base Γ k x ps g) : CallOk P w K mg base Γ k x ps.length g := by
  obtain ⟨f, fd, h1, h2, h3, h4, _⟩ := c.ex
  exact ⟨f, fd, ps, h1, h2, h3, .all h4⟩
theorem def_mk {st : Stmt} {f : Addr} {oc : Value} {od an : Option Addr} {osl : Array (Option Value)} {kV doc pm cdv ct : Value} (l : K.lookup f = some ⟨oc, od, .func (PySem.W.fnOf x x (defArgs st) (defBody st) (defScope st) .none kV doc pm an cdv ct), osl⟩)
    (c : PySem.W.codeIn K cdv x = true) (kp : PySem.W.keepIn K (.ref f) = true) (g : mg x = some (.ref f))
    (h : ∀ us : List Value, us.length = ps.length → bindArgs (PySem.W.fnOf x x (defArgs st) (defBody st) (defScope st) .none kV doc pm an cdv ct) ⟨us, []⟩ = pure (ps.zip us)) : DefOk K mg x st ps := ⟨f, _, fun_mk l c kp, h, g⟩
theorem def_ok {st : Stmt} {N : List Str} {m : MS} (D : DefOk K mg x st ps) (S : FnScope N ps (defScope st))
    (hb : ∀ (f : Addr) (cdv : Value) (A : Around) (outer : List Env) (s : Shared) (H : Hp) (E : XK), Room k (A.deeper (envOfC x (defScope st) s.heap.objs.size f cdv)) →
      SSs Γ (cxOf (L2.CX P w) P w K mg base N x (defScope st) f cdv A outer s H E) (fun c d _ H => E c d H) (defBody st) m) : DefRun P w K mg base Γ (k + 1) x ps (runF N.length m) := by
  obtain ⟨f, fd, F, b, hm⟩ := D.ex
  obtain ⟨oc, od, kV, doc, pm, an, cdv, ct, osl, e, lk, _⟩ := id F.ex
  exact ⟨f, fd, fn_ok F S (hb f), hm, F.kp, b, oc, od, osl, lk⟩
/-- the law's promise, whatever the classes' addresses -/
def spL (K : PySem.W.Frag) (g : MF) : Sp := fun vs H Q E => ∀ Γ, spM Γ K 1 g vs H Q E
/-- the law's own promise, for the head -/
theorem law_run {l : PySem.W.OpenLaw} {y : Str} {fa : Addr} (h : Heap) (hfa : mg "law" = some (.ref fa)) (R : ∀ base, DefRun l.prog w K mg base Γ k "law" [y] g) :
    ∃ fd : FuncData, (∀ (s : Shared) (v : Value), BindsTo s fd ⟨[v], []⟩ [(y, v)]) ∧ ∀ base : Heap, K.In base → base.Ns mainGlobals mg → FnOk l.prog w K mg base (L2.CX l.prog w) k fa fd [y] (spL K g) := by
  obtain ⟨f, fd, h1, h2, h3, h4, oc, od, sl, lk⟩ := (R h).ex
  rw [hfa] at h2
  cases h2
  refine ⟨fd, fun s v => .of_eq (h4 [v] rfl), fun base _ _ => ?_⟩
  obtain ⟨f', fd', g1, g2, g3, g4, oc', od', sl', lk'⟩ := (R base).ex
  rw [hfa] at g2
  cases g2
  rw [lk] at lk'
  cases lk'
  exact g1.imp fun _ _ _ _ h => h Γ
theorem law_sp {ns : List Int} {a : Addr} {H : Hp} (hs : SqL K H a (ns.map V.int)) (hr : ∃ h', g [.sl (ns.map MV.int)] [] = .ok (.bl true) h') : spL K g [.ref a] H (fun v _ => v = .bl true) fun _ _ _ => False := by
  obtain ⟨h', e⟩ := hr
  intro Γ
  refine ⟨rfl, ⟨H, []⟩, [], [.sl (ns.map MV.int)], ⟨fun _ _ h => h, rfl, List.nodup_nil, fun _ h => (nomatch h), fun n c a h => (by cases h)⟩, repL_cons (by unfold Rep; exact ⟨a, _, rfl, hs, ints_repL ns⟩) repL_nil, ?_⟩
  rw [e]
  exact fun S' H' b _ _ r => rep_bl r
def fIpAdd := fII (fun _ _ => true) (fun i j => .int (i + j))
theorem lift_ipadd : Lift2 Γ K (ipI fun i j => i + j) fIpAdd := lift_ii0 (g' := fun i j => .int (i + j)) fun _ _ _ => is_int
theorem lift_ipsub : Lift2 Γ K (ipI fun i j => i - j) fSub := lift_ii0 (g' := fun i j => .int (i - j)) fun _ _ _ => is_int
variable {X : Cx} {W : WX} {e : Expr} {es : List Expr} {ms : MA} {pos p : Pos}
theorem sc_call (c : CallOk X.prog X.w X.K X.mg X.base Γ k x n g) (hr : Room k X.A) (tk : Takes X W) (ha : SA Γ X W (e :: es) ms) (hg : Gl X x := by rfl) (hdb : (x == ("__debug__" : Str)) = false := by decide) (he : starEach (e :: es) X.env = (false, eval e X.env) :: starEach es X.env := by rfl) (hpl : (backTo pos (starEach es X.env)).any (·.1) = false := by rfl) :
    SE Γ X W (.Call (.Name x p) (e :: es) [] pos) (mCall n g ms) := by
  obtain ⟨f, fd, ps, h1, h2, h3, h4⟩ := c.ex
  exact se_call h1 hr h2 h3 h4 tk ha hg hdb he hpl
theorem bt_len : bootBuiltins "len" = some (.builtin "len") := by decide +kernel
theorem bt_int : bootBuiltins "int" = some (.type "int") := by decide +kernel
theorem bt_list : bootBuiltins "list" = some (.type "list") := by decide +kernel
theorem bt_tuple : bootBuiltins "tuple" = some (.type "tuple") := by decide +kernel
theorem bt_max : bootBuiltins "max" = some (.builtin "max") := by decide +kernel
theorem bt_min : bootBuiltins "min" = some (.builtin "min") := by decide +kernel
theorem bt_sum : bootBuiltins "sum" = some (.builtin "sum") := by decide +kernel
theorem bt_isinstance : bootBuiltins "isinstance" = some (.builtin "isinstance") := by decide +kernel
theorem bt_bool : bootBuiltins "bool" = some (.type "bool") := by decide +kernel
theorem bt_str : bootBuiltins "str" = some (.type "str") := by decide +kernel
theorem sb_len (hm : X.mg "len" = none) (ha : SA Γ X W (e :: es) ms) (hg : Gl X "len" := by rfl) (he : starEach (e :: es) X.env = (false, eval e X.env) :: starEach es X.env := by rfl) (hpl : (backTo pos (starEach es X.env)).any (·.1) = false := by rfl) : SE Γ X W (.Call (.Name "len" p) (e :: es) [] pos) (mF fLen ms) :=
  se_callB call_lenAll lift_len hg hm bt_len ha (by decide) (by decide) he hpl
theorem sb_int (hm : X.mg "int" = none) (ha : SA Γ X W (e :: es) ms) (hg : Gl X "int" := by rfl) (he : starEach (e :: es) X.env = (false, eval e X.env) :: starEach es X.env := by rfl) (hpl : (backTo pos (starEach es X.env)).any (·.1) = false := by rfl) : SE Γ X W (.Call (.Name "int" p) (e :: es) [] pos) (mF fInt ms) :=
  se_callTy call_int1 lift_int hg hm bt_int ha (by decide) (by decide) he hpl
theorem sb_list (b : Bool) (hm : X.mg "list" = none) (ha : SA Γ X W (e :: es) ms) (hg : Gl X "list" := by rfl) (he : starEach (e :: es) X.env = (false, eval e X.env) :: starEach es X.env := by rfl) (hpl : (backTo pos (starEach es X.env)).any (·.1) = false := by rfl) : SE Γ X W (.Call (.Name "list" p) (e :: es) [] pos) (mF (fList b) ms) :=
  se_callTy call_list_of lift_list hg hm bt_list ha (by decide) (by decide) he hpl
theorem sb_tuple (hm : X.mg "tuple" = none) (ha : SA Γ X W (e :: es) ms) (hg : Gl X "tuple" := by rfl) (he : starEach (e :: es) X.env = (false, eval e X.env) :: starEach es X.env := by rfl) (hpl : (backTo pos (starEach es X.env)).any (·.1) = false := by rfl) : SE Γ X W (.Call (.Name "tuple" p) (e :: es) [] pos) (mF fTuple ms) :=
  se_callTy call_tuple_of lift_tuple hg hm bt_tuple ha (by decide) (by decide) he hpl
theorem sb_max2 (hc : X.calm = true) (hm : X.mg "max" = none) (ha : SA Γ X W (e :: es) ms) (hg : Gl X "max" := by rfl) (he : starEach (e :: es) X.env = (false, eval e X.env) :: starEach es X.env := by rfl) (hpl : (backTo pos (starEach es X.env)).any (·.1) = false := by rfl) : SE Γ X W (.Call (.Name "max" p) (e :: es) [] pos) (mF fMax2 ms) :=
  se_callB (call_max2 hc) lift_max2 hg hm bt_max ha (by decide) (by decide) he hpl
theorem sb_min2 (hc : X.calm = true) (hm : X.mg "min" = none) (ha : SA Γ X W (e :: es) ms) (hg : Gl X "min" := by rfl) (he : starEach (e :: es) X.env = (false, eval e X.env) :: starEach es X.env := by rfl) (hpl : (backTo pos (starEach es X.env)).any (·.1) = false := by rfl) : SE Γ X W (.Call (.Name "min" p) (e :: es) [] pos) (mF fMin2 ms) :=
  se_callB (call_min2 hc) lift_min2 hg hm bt_min ha (by decide) (by decide) he hpl
theorem sb_max1 (hc : X.calm = true) (hm : X.mg "max" = none) (ha : SA Γ X W (e :: es) ms) (hg : Gl X "max" := by rfl) (he : starEach (e :: es) X.env = (false, eval e X.env) :: starEach es X.env := by rfl) (hpl : (backTo pos (starEach es X.env)).any (·.1) = false := by rfl) : SE Γ X W (.Call (.Name "max" p) (e :: es) [] pos) (mF fMax1 ms) :=
  se_callB (cr_max hc) lift_max1 hg hm bt_max ha (by decide) (by decide) he hpl
theorem sb_min1 (hc : X.calm = true) (hm : X.mg "min" = none) (ha : SA Γ X W (e :: es) ms) (hg : Gl X "min" := by rfl) (he : starEach (e :: es) X.env = (false, eval e X.env) :: starEach es X.env := by rfl) (hpl : (backTo pos (starEach es X.env)).any (·.1) = false := by rfl) : SE Γ X W (.Call (.Name "min" p) (e :: es) [] pos) (mF fMin1 ms) :=
  se_callB (cr_min hc) lift_min1 hg hm bt_min ha (by decide) (by decide) he hpl
theorem sb_sum (hc : X.calm = true) (hm : X.mg "sum" = none) (ha : SA Γ X W (e :: es) ms) (hg : Gl X "sum" := by rfl) (he : starEach (e :: es) X.env = (false, eval e X.env) :: starEach es X.env := by rfl) (hpl : (backTo pos (starEach es X.env)).any (·.1) = false := by rfl) : SE Γ X W (.Call (.Name "sum" p) (e :: es) [] pos) (mF fSum ms) :=
  se_callB (cr_sum hc) lift_sum hg hm bt_sum ha (by decide) (by decide) he hpl
variable {o : Expr} {mo : ME} {apos cpos : Pos}
theorem sm_append (ho : SE Γ X W o mo) (ha : SA Γ X W (e :: es) ms) (hbase : attributeBase o "append" X.env (eval o X.env) = eval o X.env := by rfl)
    (hfew : ((backTo cpos (starEach (e :: es) X.env)).all (fun x => !x.1) && (backToKw cpos (keywordEach [] X.env)).all (fun x => x.1.isSome)
      && decide ((e :: es).length + ([] : List Keyword).length + (if ([] : List Keyword).isEmpty then 0 else 1) < 30)) = true := by rfl)
    (hline : (apos.endLine == cpos.line) = true := by rfl) (hs : starEach (e :: es) X.env = (false, eval e X.env) :: starEach es X.env := by rfl) (hplain : (backTo cpos (starEach es X.env)).any (·.1) = false := by rfl) : SE Γ X W (.Call (.Attribute o "append" apos) (e :: es) [] cpos) (mM "list" fAppend mo ms) :=
  se_m PySem.F.plainAttrs_list PySem.F.slot_list_append PySem.F.type_list_append mt_append lift_append ho ha hbase hfew hline hs hplain
theorem sm_extend (ho : SE Γ X W o mo) (ha : SA Γ X W (e :: es) ms) (hbase : attributeBase o "extend" X.env (eval o X.env) = eval o X.env := by rfl)
    (hfew : ((backTo cpos (starEach (e :: es) X.env)).all (fun x => !x.1) && (backToKw cpos (keywordEach [] X.env)).all (fun x => x.1.isSome)
      && decide ((e :: es).length + ([] : List Keyword).length + (if ([] : List Keyword).isEmpty then 0 else 1) < 30)) = true := by rfl)
    (hline : (apos.endLine == cpos.line) = true := by rfl) (hs : starEach (e :: es) X.env = (false, eval e X.env) :: starEach es X.env := by rfl) (hplain : (backTo cpos (starEach es X.env)).any (·.1) = false := by rfl) : SE Γ X W (.Call (.Attribute o "extend" apos) (e :: es) [] cpos) (mM "list" fExtend mo ms) :=
  se_m PySem.F.plainAttrs_list PySem.F.slot_list_extend PySem.F.type_list_extend mt_extend lift_extend ho ha hbase hfew hline hs hplain
theorem sm_pop (ho : SE Γ X W o mo) (hbase : attributeBase o "pop" X.env (eval o X.env) = eval o X.env := by rfl) (hline : (apos.endLine == cpos.line) = true := by rfl) : SE Γ X W (.Call (.Attribute o "pop" apos) [] [] cpos) (mM0 "list" fPop mo) :=
  se_m0 PySem.F.plainAttrs_list PySem.F.slot_list_pop PySem.F.type_list_pop mt_pop lift_pop ho hbase hline
theorem sm_reverse (ho : SE Γ X W o mo) (hbase : attributeBase o "reverse" X.env (eval o X.env) = eval o X.env := by rfl) (hline : (apos.endLine == cpos.line) = true := by rfl) : SE Γ X W (.Call (.Attribute o "reverse" apos) [] [] cpos) (mM0 "list" fReverse mo) :=
  se_m0 PySem.F.plainAttrs_list PySem.F.slot_list_reverse PySem.F.type_list_reverse mt_reverse lift_reverse ho hbase hline
/-- an exception class of the text's own, without own __init__ -/
structure ExcOk (X' : Type) (K : PySem.W.Frag) (mg : Str → Option Value) (Γ : Gm) (x : Str) : Prop where
  q : PySem.W.excIn K (Γ.cls x) [.type "ValueError", .type "Exception", .type "BaseException", .type "object"] "ValueError.__new__" = true
  g : mg x = some (.ref (Γ.cls x))
  k : PySem.W.keepIn K (.ref (Γ.cls x)) = true
  sb : PySem.W.subIn K (.ref (Γ.cls x)) (.type "BaseException") = some true
  ty : PySem.W.typeIn K (.ref (Γ.cls x)) = some (.type "type")
end
end Mn
/-! ## MnI -/
set_option Elab.async false
set_option linter.all false
set_option maxRecDepth 100000
/-! Mn, part I: math.lcm by name. -/
namespace Mn
open PySem PySem.Spec PyProof.Rows L2
def rLcm : List V → Hp → VK → Prop := fun vs H Q => ∃ a b : Int, vs = [.int a, .int b] ∧ a.natAbs < 2 ^ 64 ∧ b.natAbs < 2 ^ 64 ∧ Q (.int ((Nat.lcm a.natAbs b.natAbs : Nat) : Int)) H
theorem cr_lcm {X : Cx} : CallR X (.builtin "math.lcm") rLcm := by
  intro pins s σ H vs us Q I r h
  obtain ⟨a, b, rfl, ha, hb, q⟩ := h
  obtain ⟨t, u, rfl⟩ := Vals.int2 r
  exact PySem.W.mc_lcm ha hb fun _ => ⟨.int _, H, I.tok _, ⟨_, rfl⟩, q⟩
def fLcm : MF
  | [.int i, .int j], h => if i.natAbs < 2 ^ 64 ∧ j.natAbs < 2 ^ 64 then .ok (.int ((Nat.lcm i.natAbs j.natAbs : Nat) : Int)) h else .stuck
  | _, _ => .stuck
section
variable {Γ : Gm} {K : PySem.W.Frag}
theorem lift_lcm : LiftF Γ K rLcm fLcm := by
  intro S H h xs us Q E R r p
  unfold fLcm at p
  split at p
  · split at p
    · rename_i hz
      obtain ⟨v, w, rfl, q1, q2⟩ := repL_2 r
      exact ⟨_, _, by rw [rep_int q1, rep_int q2], hz.1, hz.2, p.val R is_int⟩
    · exact p.elim
  · exact p.elim
end
section
variable {Γ : Gm} {X : Cx} {W : WX} {e : Expr} {es : List Expr} {ms : MA} {pos p : Pos}
theorem sb_lcm (hm : X.mg "lcm" = some (.builtin "math.lcm")) (ha : SA Γ X W (e :: es) ms) (hg : Gl X "lcm" := by rfl) (he : starEach (e :: es) X.env = (false, eval e X.env) :: starEach es X.env := by rfl) (hpl : (backTo pos (starEach es X.env)).any (·.1) = false := by rfl) : SE Γ X W (.Call (.Name "lcm" p) (e :: es) [] pos) (mF fLcm ms) := by
  obtain ⟨ta, pa, ea⟩ := ha.ex
  exact ⟨_, pe_callBfun cr_lcm hg hm pa (by decide) he hpl, fun S H h σ env Q R G p => exA_bind (t := ta) ea R G p fun xs h1 S1 H1 us e1 R1 G1 r1 p1 => lift_lcm S1 H1 h1 xs us Q _ R1 r1 p1⟩
end
end Mn
/-! ## MnP -/
set_option Elab.async false
set_option linter.all false
set_option maxRecDepth 100000
/-! Mn, part P: plain reasoning about mirrors. -/
namespace Mn
open PySem PySem.Spec PyProof.Rows L2

abbrev nums (ns : List Int) : List MV := ns.map MV.int
/-! ### evaluation of expressions, by equations -/
section
variable {env : MEnv} {h h1 h2 h3 : MH} {a b c : ME} {x y z d : MV} {ms : MA} {xs ys : List MV} {t u : MT} {i : Nat}
theorem ev_C : mC d env h = .ok d h := rfl
theorem ev_V (e : env[i]? = some (some d)) : mV i env h = .ok d h := by unfold mV; rw [e]
theorem ev_1 {f : MV → MH → Out MV} (ha : a env h = .ok x h1) (hf : f x h1 = .ok y h2) : m1 f a env h = .ok y h2 := by unfold m1; rw [ha]; exact hf
theorem ev_2 {f : MV → MV → MH → Out MV} (ha : a env h = .ok x h1) (hb : b env h1 = .ok y h2) (hf : f x y h2 = .ok z h3) : m2 f a b env h = .ok z h3 := by unfold m2; rw [ha]; show (b env h1).bind _ = _; rw [hb]; exact hf
theorem ev_F {f : MF} (ha : ms env h = .ok xs h1) (hf : f xs h1 = .ok y h2) : mF f ms env h = .ok y h2 := by unfold mF; rw [ha]; exact hf
theorem ev_call {f : MF} {n : Nat} (ha : ms env h = .ok xs h1) (hn : xs.length = n) (hf : f xs h1 = .ok y h2) : mCall n f ms env h = .ok y h2 := by unfold mCall; rw [ha]; show (if xs.length = n then _ else _) = _; rw [if_pos hn]; exact hf
theorem ev_N : maN env h = .ok [] h := rfl
theorem ev_Cs (ha : a env h = .ok x h1) (hb : ms env h1 = .ok xs h2) : maC a ms env h = .ok (x :: xs) h2 := by unfold maC; rw [ha]; show (ms env h1).bind _ = _; rw [hb]
theorem ev_T {v : Bool} (ha : a env h = .ok (.bl v) h1) : mT a env h = .ok v h1 := by unfold mT; rw [ha]; rfl
theorem ev_tnot {v : Bool} (ha : t env h = .ok v h1) : tNotM t env h = .ok (!v) h1 := by unfold tNotM; rw [ha]
theorem ev_tand {v w : Bool} (ha : t env h = .ok v h1) (hb : v = true → u env h1 = .ok w h2) (hn : v = false → h2 = h1) : tAndM t u env h = .ok (v && w) h2 := by
  unfold tAndM; rw [ha]
  cases v with
  | true => show u env h1 = _; rw [hb rfl]; rfl
  | false => show Out.ok false h1 = _; rw [hn rfl]; rfl
theorem ev_tor {v w : Bool} (ha : t env h = .ok v h1) (hb : v = false → u env h1 = .ok w h2) (hn : v = true → h2 = h1) : tOrM t u env h = .ok (v || w) h2 := by
  unfold tOrM; rw [ha]
  cases v with
  | false => show u env h1 = _; rw [hb rfl]; rfl
  | true => show Out.ok true h1 = _; rw [hn rfl]; rfl
theorem ev_tandF (ha : t env h = .ok false h1) : tAndM t u env h = .ok false h1 := by unfold tAndM; rw [ha]; rfl
theorem ev_tandT {v : Bool} (ha : t env h = .ok true h1) (hb : u env h1 = .ok v h2) : tAndM t u env h = .ok v h2 := by unfold tAndM; rw [ha]; exact hb
theorem ev_torT (ha : t env h = .ok true h1) : tOrM t u env h = .ok true h1 := by unfold tOrM; rw [ha]; rfl
theorem ev_torF {v : Bool} (ha : t env h = .ok false h1) (hb : u env h1 = .ok v h2) : tOrM t u env h = .ok v h2 := by unfold tOrM; rw [ha]; exact hb
theorem ev_and {v w : Bool} (ha : a env h = .ok (.bl v) h1) (hb : v = true → b env h1 = .ok (.bl w) h2) (hn : v = false → h2 = h1) : mAnd a b env h = .ok (.bl (v && w)) h2 := by
  unfold mAnd; rw [ha]
  cases v with
  | true => show b env h1 = _; rw [hb rfl]; rfl
  | false => show Out.ok (MV.bl false) h1 = _; rw [hn rfl]; rfl
theorem ev_or {v w : Bool} (ha : a env h = .ok (.bl v) h1) (hb : v = false → b env h1 = .ok (.bl w) h2) (hn : v = true → h2 = h1) : mOr a b env h = .ok (.bl (v || w)) h2 := by
  unfold mOr; rw [ha]
  cases v with
  | false => show b env h1 = _; rw [hb rfl]; rfl
  | true => show Out.ok (MV.bl true) h1 = _; rw [hn rfl]; rfl
theorem ev_not {v : Bool} (ha : a env h = .ok (.bl v) h1) : mNot a env h = .ok (.bl (!v)) h1 := by unfold mNot; rw [ha]; rfl
theorem ev_ifT (ht : t env h = .ok true h1) (ha : a env h1 = .ok x h2) : mIf t a b env h = .ok x h2 := by unfold mIf; rw [ht]; exact ha
theorem ev_ifF (ht : t env h = .ok false h1) (ha : b env h1 = .ok x h2) : mIf t a b env h = .ok x h2 := by unfold mIf; rw [ht]; exact ha
theorem ev_tup (ha : ms env h = .ok xs h1) (hz : xs.length ≤ sizeLine) : mTup ms env h = .ok (.tup xs) h1 := by unfold mTup; rw [ha]; show (if xs.length ≤ sizeLine then _ else _) = _; rw [if_pos hz]
theorem ev_lstF (ha : ms env h = .ok xs h1) (hz : xs.length ≤ sizeLine) : mLst false ms env h = .ok (.fl xs) h1 := by unfold mLst; rw [ha]; show (if xs.length ≤ sizeLine then _ else _) = _; rw [if_pos hz]; rfl
theorem ev_lstT (ha : ms env h = .ok xs h1) (hz : xs.length ≤ sizeLine) : mLst true ms env h = .ok (.ref h1.length) (h1 ++ [.lst xs]) := by unfold mLst; rw [ha]; show (if xs.length ≤ sizeLine then _ else _) = _; rw [if_pos hz]; rfl
theorem ev_oN : moN env h = .ok none h := rfl
theorem ev_oS {k : Int} (ha : a env h = .ok (.int k) h1) : moS a env h = .ok (some k) h1 := by unfold moS; rw [ha]; rfl
theorem ev_sl {f : MV → Option Int → Option Int → MH → Out MV} {l r : MI} {lo hi : Option Int} {h4 : MH} (ha : a env h = .ok x h1) (hl : l env h1 = .ok lo h2) (hr : r env h2 = .ok hi h3) (hf : f x lo hi h3 = .ok y h4) : mSl f a l r env h = .ok y h4 := by
  unfold mSl; rw [ha]; show (l env h1).bind _ = _; rw [hl]; show (r env h2).bind _ = _; rw [hr]; exact hf
theorem ev_m0 {T : String} {f : MV → List MV → MH → Out MV} (ha : a env h = .ok x h1) (hc : tyChk T h1 x = true) (hf : f x [] h1 = .ok y h2) : mM0 T f a env h = .ok y h2 := by unfold mM0; rw [ha]; show (if tyChk T h1 x = true then _ else _) = _; rw [if_pos hc]; exact hf
theorem ev_m {T : String} {f : MV → List MV → MH → Out MV} (ha : a env h = .ok x h1) (hc : tyChk T h1 x = true) (hb : ms env h1 = .ok xs h2) (hf : f x xs h2 = .ok y h3) : mM T f a ms env h = .ok y h3 := by
  unfold mM; rw [ha]; show (if tyChk T h1 x = true then _ else _) = _; rw [if_pos hc]; show (ms env h1).bind _ = _; rw [hb]; exact hf
/-! operations -/
theorem f_ii {c : Int → Int → Bool} {g : Int → Int → MV} {m n : Int} (hc : c m n = true) : fII c g (.int m) (.int n) h = .ok (g m n) h := by unfold fII; simp only; rw [if_pos hc]
theorem f_ii0 {g : Int → Int → MV} {m n : Int} : fII (fun _ _ => true) g (.int m) (.int n) h = .ok (g m n) h := rfl
theorem f_ip {m n : Int} : fIpAdd (.int m) (.int n) h = .ok (.int (m + n)) h := rfl
theorem f_add {v : Bool} {m n : Int} : fAdd v (.int m) (.int n) h = .ok (.int (m + n)) h := rfl
theorem f_addT {v : Bool} (hz : xs.length + ys.length ≤ sizeLine) : fAdd v (.tup xs) (.tup ys) h = .ok (.tup (xs ++ ys)) h := by unfold fAdd; simp only; rw [if_pos hz]
theorem f_mod {m n : Int} (hn : 0 < n) : fMod (.int m) (.int n) h = .ok (.int (m % n)) h := f_ii (decide_eq_true hn)
theorem f_div {m n : Int} (hn : 0 < n) (hn2 : n < 1073741824) : fDiv (.int m) (.int n) h = .ok (.int (m / n)) h := f_ii (decide_eq_true ⟨hn, hn2⟩)
theorem f_pow {m n : Int} (hn : 0 ≤ n ∧ n ≤ 1000000 ∧ m.natAbs < 2 ^ 64) : fPow (.int m) (.int n) h = .ok (.int (m ^ n.toNat)) h := f_ii (decide_eq_true hn)
theorem f_mul {v : Bool} {m n : Int} (hc : cMul m n = true) : fMul v (.int m) (.int n) h = .ok (.int (m * n)) h := by unfold fMul; simp only; rw [if_pos hc]
theorem f_ui {g : Int → MV} {m : Int} : fUI g (.int m) h = .ok (g m) h := rfl
theorem f_int {m : Int} : fInt [.int m] h = .ok (.int m) h := rfl
theorem f_intB {v : Bool} : fInt [.bl v] h = .ok (.int (if v then 1 else 0)) h := rfl
theorem f_max {m n : Int} : fMax2 [.int m, .int n] h = .ok (.int (if n > m then n else m)) h := rfl
theorem f_min {m n : Int} : fMin2 [.int m, .int n] h = .ok (.int (if n < m then n else m)) h := rfl
theorem f_lenT : fLen [.tup xs] h = .ok (.int xs.length) h := rfl
theorem f_lenF : fLen [.fl xs] h = .ok (.int xs.length) h := rfl
theorem f_lenS : fLen [.sl xs] h = .ok (.int xs.length) h := rfl
theorem f_lenR {n : Nat} (e : h[n]? = some (.lst xs)) : fLen [.ref n] h = .ok (.int xs.length) h := by unfold fLen; simp only; rw [e]
theorem f_tupT : fTuple [.tup xs] h = .ok (.tup xs) h := rfl
theorem f_tupF : fTuple [.fl xs] h = .ok (.tup xs) h := rfl
theorem f_tupS : fTuple [.sl xs] h = .ok (.tup xs) h := rfl
theorem f_tupR {n : Nat} (e : h[n]? = some (.lst xs)) : fTuple [.ref n] h = .ok (.tup xs) h := by unfold fTuple lstAt; simp only; rw [e]
theorem f_listF {v : Bool} (e : seqAt h x = some xs) : fList v [x] h = retL v xs h := by unfold fList; simp only; rw [e]
theorem atI_of {α : Type} {xs : List α} {k : Nat} {v : α} (e : xs[k]? = some v) : atI xs (k : Int) = some v := by
  unfold atI ixN
  have hl := (List.getElem?_eq_some_iff.mp e).1
  rw [if_pos (by omega), if_pos (by omega)]
  simpa using e
theorem atI_z {α : Type} {xs : List α} {k : Int} {v : α} (h0 : 0 ≤ k) (e : xs[k.toNat]? = some v) : atI xs k = some v := by
  have := atI_of e
  rwa [Int.toNat_of_nonneg h0] at this
theorem f_ix {k : Int} (e : seqAt h x = some xs) (hk : atI xs k = some d) : fIx x (.int k) h = .ok d h := by
  unfold fIx
  cases x with
  | str z => cases e
  | tup ys => simp only; rw [e]; simp only; rw [hk]
  | fl ys => simp only; rw [e]; simp only; rw [hk]
  | sl ys => simp only; rw [e]; simp only; rw [hk]
  | ref n => simp only; rw [e]; simp only; rw [hk]
  | _ => cases e
theorem seq_T : seqAt h (.tup xs) = some xs := rfl
theorem seq_F : seqAt h (.fl xs) = some xs := rfl
theorem seq_S : seqAt h (.sl xs) = some xs := rfl
theorem seq_R {n : Nat} (e : h[n]? = some (.lst xs)) : seqAt h (.ref n) = some xs := by unfold seqAt lstAt; simp only; rw [e]
theorem f_slT {v : Bool} {lo hi : Option Int} : fSl v (.tup xs) lo hi h = .ok (.tup (cutM xs lo hi)) h := rfl
theorem f_slF {v : Bool} {lo hi : Option Int} : fSl v (.fl xs) lo hi h = retL v (cutM xs lo hi) h := rfl
theorem f_slR {v : Bool} {n : Nat} {lo hi : Option Int} (e : h[n]? = some (.lst xs)) : fSl v (.ref n) lo hi h = retL v (cutM xs lo hi) h := by unfold fSl lstAt; simp only; rw [e]
theorem f_app {n : Nat} (e : h[n]? = some (.lst xs)) (hz : xs.length < sizeLine) : fAppend (.ref n) [y] h = .ok .non (h.set n (.lst (xs ++ [y]))) := by unfold fAppend; simp only; rw [e]; simp only; rw [if_pos hz]
theorem f_pop {n : Nat} (e : h[n]? = some (.lst (xs ++ [y]))) : fPop (.ref n) [] h = .ok y (h.set n (.lst xs)) := by
  unfold fPop; simp only; rw [e]; simp
theorem f_rev {n : Nat} (e : h[n]? = some (.lst xs)) : fReverse (.ref n) [] h = .ok .non (h.set n (.lst xs.reverse)) := by unfold fReverse; simp only; rw [e]
theorem f_setL {n : Nat} {k : Int} (e : h[n]? = some (.lst xs)) (h0 : 0 ≤ k) (hk : k < xs.length) : fSetL (.ref n) (.int k) d h = .ok .non (h.set n (.lst (xs.set k.toNat d))) := by
  unfold fSetL; simp only; rw [e]; simp only
  have : ixN xs.length k = some k.toNat := by unfold ixN; rw [if_pos h0, if_pos hk]
  rw [this]
theorem tyc_R {n : Nat} (e : h[n]? = some (.lst xs)) : tyChk "list" h (.ref n) = true := by unfold tyChk lstAt; simp [e]
theorem f_isi {T : String} {A : String} {v : Bool} (e : tyOfM h x = some A) (e2 : isiB A T = some v) : fIsi T x h = .ok (.bl v) h := by unfold fIsi; rw [e]; simp only; rw [e2]
/-! equality of data -/
theorem f_eqD {e1 e2 : PyData} (a1 : dataOf h x = some e1) (a2 : dataOf h y = some e2) (s1 : SeqAt.shaped e1 = true) (s2 : SeqAt.shaped e2 = true) : fEq false x y h = .ok (.bl (PyData.eqv e1 e2)) h := by
  unfold fEq; rw [a1, a2]; simp only; rw [if_pos ⟨s1, s2⟩, if_neg Bool.false_ne_true]
theorem f_neD {e1 e2 : PyData} (a1 : dataOf h x = some e1) (a2 : dataOf h y = some e2) (s1 : SeqAt.shaped e1 = true) (s2 : SeqAt.shaped e2 = true) : fEq true x y h = .ok (.bl (!PyData.eqv e1 e2)) h := by
  unfold fEq; rw [a1, a2]; simp only; rw [if_pos ⟨s1, s2⟩]; rfl
theorem data_int {m : Int} : dataOf h (.int m) = some (.int m) := rfl
theorem f_eqI {m n : Int} : fEq false (.int m) (.int n) h = .ok (.bl (decide (m = n))) h := by
  rw [f_eqD data_int data_int rfl rfl]
  unfold PyData.eqv
  rw [Bool.beq_eq_decide_eq]
theorem f_neI {m n : Int} : fEq true (.int m) (.int n) h = .ok (.bl (!decide (m = n))) h := by
  rw [f_neD data_int data_int rfl rfl]
  unfold PyData.eqv
  rw [Bool.beq_eq_decide_eq]
theorem f_isN1 : fIsN false .non .non h = .ok (.bl true) h := rfl
theorem f_isN0 (hx : x ≠ .non) : fIsN false x .non h = .ok (.bl false) h := by cases x <;> first | exact absurd rfl hx | rfl
theorem f_notN1 : fIsN true .non .non h = .ok (.bl false) h := rfl
theorem f_notN0 (hx : x ≠ .non) : fIsN true x .non h = .ok (.bl true) h := by cases x <;> first | exact absurd rfl hx | rfl
end

/-! ### statements, by what is wanted at their end -/
@[irreducible] def Ends (Q : OutS → Prop) (o : OutS) : Prop := Q o
theorem Ends.out {Q : OutS → Prop} {o : OutS} (k : Ends Q o) : Q o := by unfold Ends at k; exact k
theorem Ends.of {Q : OutS → Prop} {o : OutS} (k : Q o) : Ends Q o := by unfold Ends; exact k
section
variable {Q : OutS → Prop} {env env1 : MEnv} {h h1 h2 : MH} {a b : MS} {e : ME} {t : MT} {d : MV} {i : Nat}
theorem en_seq (k : Ends (fun o => match o with | .ok .nx env' h' => Ends Q (b env' h') | o => Q o) (a env h)) : Ends Q (sSeq a b env h) := by
  unfold sSeq
  unfold Ends at *
  cases z : a env h with
  | ok f env' h' => rw [z] at k; cases f <;> exact k
  | exc _ _ _ _ => rw [z] at k; exact k
  | stuck => rw [z] at k; exact k
theorem en_set (he : e env h = .ok d h1) (k : Q (.ok .nx (env.set i (some d)) h1)) : Ends Q (sSet i e env h) := by unfold sSet Ends; rw [he]; exact k
theorem en_expr (he : e env h = .ok d h1) (k : Q (.ok .nx env h1)) : Ends Q (sExpr e env h) := by unfold sExpr Ends; rw [he]; exact k
theorem en_ret (he : e env h = .ok d h1) (k : Q (.ok (.rt d) env h1)) : Ends Q (sRet e env h) := by unfold sRet Ends; rw [he]; exact k
theorem en_retN (k : Q (.ok (.rt .non) env h)) : Ends Q (sRetN env h) := by unfold Ends; exact k
theorem en_nil (k : Q (.ok .nx env h)) : Ends Q (sNil env h) := by unfold Ends; exact k
theorem en_break (k : Q (.ok .bk env h)) : Ends Q (sBreak env h) := by unfold Ends; exact k
theorem en_cont (k : Q (.ok .ct env h)) : Ends Q (sCont env h) := by unfold Ends; exact k
theorem en_raise {C : Str} (k : Q (.exc C [] env h)) : Ends Q (sRaise C env h) := by unfold Ends; exact k
theorem en_if {v : Bool} (ht : t env h = .ok v h1) (k1 : v = true → Ends Q (a env h1)) (k2 : v = false → Ends Q (b env h1)) : Ends Q (sIf t a b env h) := by
  unfold sIf Ends; rw [ht]
  cases v with
  | true => exact (k1 rfl).out
  | false => exact (k2 rfl).out
theorem en_asg {g : MG} {env2 : MEnv} (he : e env h = .ok d h1) (hg : g d env h1 = .ok env2 h2) (k : Q (.ok .nx env2 h2)) : Ends Q (sAsg e g env h) := by unfold sAsg Ends; rw [he]; show Q ((g d env h1).andS env _); rw [hg]; exact k
theorem en_aug {f : MV → MV → MH → Out MV} {x y : MV} (hx : env[i]? = some (some x)) (he : e env h = .ok y h1) (hf : f x y h1 = .ok d h2) (k : Q (.ok .nx (env.set i (some d)) h2)) : Ends Q (sAug i f e env h) := by
  unfold sAug Ends; rw [hx]; simp only; rw [he]; show Q ((f x y h1).andS env _); rw [hf]; exact k
theorem en_callX {C : Str} {xs : List MV} (he : e env h = .exc C xs h1) (k : Q (.exc C xs env h1)) : Ends Q (sRet e env h) := by unfold sRet Ends; rw [he]; exact k
/-- a for over known values, by an invariant -/
theorem en_forL {g : MG} {xs : List MV} (I : Nat → MEnv → MH → Prop) (h0 : I 0 env h)
    (step : ∀ (j : Nat) (x : MV) env h, xs[j]? = some x → I j env h → Ends (fun o => match o with | .ok .nx env' h' => I (j + 1) env' h' | .ok .ct env' h' => I (j + 1) env' h' | .ok .bk env' h' => Q (.ok .nx env' h') | o => Q o) ((g x env h).andS env b))
    (fin : ∀ env h, I xs.length env h → Q (.ok .nx env h)) : Ends Q (sForL g b xs env h) := by
  have gen : ∀ (n : Nat) (k : Nat) env h, xs.length - k = n → k ≤ xs.length → I k env h → Q (sForL g b (xs.drop k) env h) := by
    intro n
    induction n with
    | zero =>
      intro k env h e1 e2 hi
      have : k = xs.length := by omega
      subst this
      rw [List.drop_length]
      exact fin env h hi
    | succ n ih =>
      intro k env h e1 e2 hi
      have hlt : k < xs.length := by omega
      rw [List.drop_eq_getElem_cons hlt]
      have st := step k xs[k] env h (List.getElem?_eq_getElem hlt) hi
      unfold sForL
      unfold Ends at st
      cases z : g xs[k] env h with
      | ok env1 h1 =>
        rw [z] at st
        simp only [Out.andS] at st ⊢
        cases y : b env1 h1 with
        | ok f env2 h2 =>
          rw [y] at st
          cases f with
          | nx => exact ih (k + 1) env2 h2 (by omega) hlt st
          | ct => exact ih (k + 1) env2 h2 (by omega) hlt st
          | bk => exact st
          | rt d => exact st
        | exc _ _ _ _ => rw [y] at st; exact st
        | stuck => rw [y] at st; exact st
      | exc _ _ _ => rw [z] at st; exact st
      | stuck => rw [z] at st; exact st
  have := gen xs.length 0 env h (by omega) (Nat.zero_le _) h0
  rw [List.drop_zero] at this; exact .of this
theorem en_for {g : MG} {mi : MIt} {xs : List MV} (he : mi env h = .ok (.st xs) h1) (k : Ends Q (sForL g b xs env h1)) : Ends Q (sFor mi g b env h) := by unfold sFor Ends; rw [he]; exact k.out
theorem en_while {n : Nat} (I : MEnv → MH → Prop) (μ : MEnv → MH → Nat) (h0 : I env h) (hn : μ env h < n)
    (step : ∀ env h, I env h → ∃ v h1, t env h = .ok v h1 ∧ (v = false → Q (.ok .nx env h1)) ∧ (v = true → Ends (fun o => match o with | .ok .nx env' h' => I env' h' ∧ μ env' h' < μ env h | .ok .ct env' h' => I env' h' ∧ μ env' h' < μ env h | .ok .bk env' h' => Q (.ok .nx env' h') | o => Q o) (b env h1))) : Ends Q (sWhile t b n env h) := by
  induction n generalizing env h with
  | zero => omega
  | succ n ih =>
    obtain ⟨v, h1, e1, e2, e3⟩ := step env h h0
    unfold sWhile Ends
    rw [e1]
    cases v with
    | false => exact e2 rfl
    | true =>
      have st := e3 rfl
      unfold Ends at st
      simp only [Out.andS, if_true]
      cases y : b env h1 with
      | ok f env2 h2 =>
        rw [y] at st
        cases f with
        | nx => exact (ih st.1 (by omega)).out
        | ct => exact (ih st.1 (by omega)).out
        | bk => exact st
        | rt d => exact st
      | exc _ _ _ _ => rw [y] at st; exact st
      | stuck => rw [y] at st; exact st
theorem runF_ends {N : Nat} {m : MS} {ds : List MV} {P : Out MV → Prop} (k : Ends (fun o => P o.out) (m (ds.map some ++ List.replicate (N - ds.length) none) h)) : P (runF N m ds h) := by unfold Ends at k; exact k
/-- a call's value and heap -/
def Does (Q : MV → MH → Prop) (o : Out MV) : Prop := ∃ v h, o = .ok v h ∧ Q v h
theorem runF_does {N : Nat} {m : MS} {ds : List MV} {P : MV → MH → Prop} (k : Ends (fun o => Does P o.out) (m (ds.map some ++ List.replicate (N - ds.length) none) h)) : Does P (runF N m ds h) := by unfold Ends at k; exact k
theorem Does.of {P : MV → MH → Prop} {v : MV} (k : P v h) : Does P (.ok v h) := ⟨v, h, rfl, k⟩
theorem it_range1 {ms : MA} {j : Int} (ha : ms env h = .ok [.int j] h1) (hj : -(2 ^ 62) ≤ j ∧ j < 2 ^ 62) : iRange1 ms env h = .ok (.st (rangeM 0 j.toNat)) h1 := by unfold iRange1; rw [ha]; simp only [Out.bind]; rw [if_pos hj]
theorem it_range2 {ms : MA} {i j : Int} (ha : ms env h = .ok [.int i, .int j] h1) (hj : -(2 ^ 62) ≤ i ∧ i < 2 ^ 62 ∧ -(2 ^ 62) ≤ j ∧ j < 2 ^ 62) : iRange2 ms env h = .ok (.st (rangeM i (j - i).toNat)) h1 := by unfold iRange2; rw [ha]; simp only [Out.bind]; rw [if_pos hj]
theorem it_T {xs : List MV} (ha : e env h = .ok (.tup xs) h1) : iSeq e env h = .ok (.st xs) h1 := by unfold iSeq; rw [ha]
theorem it_F {xs : List MV} (ha : e env h = .ok (.fl xs) h1) : iSeq e env h = .ok (.st xs) h1 := by unfold iSeq; rw [ha]
theorem it_S {xs : List MV} (ha : e env h = .ok (.sl xs) h1) : iSeq e env h = .ok (.st xs) h1 := by unfold iSeq; rw [ha]
theorem it_R {n : Nat} {xs : List MV} (ha : e env h = .ok (.ref n) h1) (hx : h1[n]? = some (.lst xs)) : iSeq e env h = .ok (.lv n) h1 := by unfold iSeq; rw [ha]; simp only [Out.bind]; rw [hx]
theorem rangeM_len {lo : Int} {n : Nat} : (rangeM lo n).length = n := by unfold rangeM; simp
theorem rangeM_get {lo : Int} {n j : Nat} {x : MV} (e : (rangeM lo n)[j]? = some x) : x = .int (lo + j) ∧ j < n := by
  have hl := (List.getElem?_eq_some_iff.mp e).1
  rw [rangeM_len] at hl
  unfold rangeM at e
  rw [List.getElem?_map, List.getElem?_range hl] at e
  cases e
  exact ⟨rfl, hl⟩
end
/-! ### heaps -/
theorem set_same {h : MH} {n : Nat} {c c' : Cell} (e : h[n]? = some c) : (h.set n c')[n]? = some c' := List.getElem?_set_self (List.getElem?_eq_some_iff.mp e).1
theorem set_other {h : MH} {n m : Nat} {c' : Cell} {x : Option Cell} (hn : n ≠ m) (e : h[m]? = x) : (h.set n c')[m]? = x := by rw [List.getElem?_set_ne hn]; exact e
theorem app_same {h : MH} {c : Cell} : (h ++ [c])[h.length]? = some c := by simp
theorem app_old {h g : MH} {n : Nat} {c : Cell} (e : h[n]? = some c) : (h ++ g)[n]? = some c := by rw [List.getElem?_append_left (List.getElem?_eq_some_iff.mp e).1]; exact e
/-- what stands apart from d stays -/
structure Kp (d : Nat) (h h' : MH) : Prop where
  len : h.length ≤ h'.length
  old : ∀ (n : Nat) c, n ≠ d → h[n]? = some c → h'[n]? = some c
theorem Kp.refl {d : Nat} {h : MH} : Kp d h h := ⟨Nat.le_refl _, fun _ _ _ e => e⟩
theorem Kp.trans {d : Nat} {h h1 h2 : MH} (a : Kp d h h1) (b : Kp d h1 h2) : Kp d h h2 := ⟨Nat.le_trans a.len b.len, fun n c hn e => b.old n c hn (a.old n c hn e)⟩
theorem Kp.set {d : Nat} {h : MH} {c : Cell} : Kp d h (h.set d c) := ⟨by rw [List.length_set]; exact Nat.le_refl _, fun n c' hn e => set_other (Ne.symm hn) e⟩
theorem Kp.app {d : Nat} {h g : MH} : Kp d h (h ++ g) := ⟨by rw [List.length_append]; omega, fun n c _ e => app_old e⟩
end Mn
/-! ## MnQ -/
set_option Elab.async false
set_option linter.all false
set_option maxRecDepth 100000
/-! Mn, part Q: the helpers that stand in most laws (draws, take, at). -/
namespace Mn
open PySem PySem.Spec PyProof.Rows L2

theorem sz_small {n : Nat} (hn : n ≤ 16777216) : n ≤ sizeLine := by rw [sizeLine_eq]; exact hn
theorem sz_lt {n : Nat} (hn : n < 16777216) : n < sizeLine := by rw [sizeLine_eq]; exact hn

local macro_rules | `(tactic| walk_at "hp") => `(tactic| first
  | assumption
  | exact set_same (by assumption)
  | exact app_same
  | exact app_old (by assumption))
local macro_rules | `(tactic| walk_at "op") => `(tactic| with_reducible first
  | assumption
  | exact f_add | exact f_ii0 | exact f_ui | exact f_int | exact f_intB | exact f_max | exact f_min | exact f_ip
  | exact f_eqI | exact f_neI
  | exact f_lenT | exact f_lenF | exact f_lenS | exact f_tupT | exact f_tupF | exact f_tupS
  | exact f_lenR (by walk_at "hp") | exact f_tupR (by walk_at "hp")
  | (refine' f_mod ?_; omega)
  | (refine' f_div ?_ ?_ <;> omega)
  | exact f_pow (by decide)
  | exact f_isN1 | exact f_notN1
  | exact f_isN0 (by with_unfolding_all (intro q; cases q))
  | exact f_notN0 (by with_unfolding_all (intro q; cases q))
  | exact f_addT (by walk_at "sz")
  | exact f_slT | exact f_slF | exact f_slR (by walk_at "hp")
  | exact f_rev (by walk_at "hp"))
local macro_rules | `(tactic| walk_at "sz") => `(tactic| (refine sz_small ?_; simp only [List.length_cons, List.length_nil, List.length_append, List.length_map]; omega))
local macro_rules | `(tactic| walk_at "ev") => `(tactic| with_reducible first
  | assumption
  | exact ev_C
  | exact ev_V (by with_unfolding_all rfl)
  | exact ev_N
  | exact ev_oN
  | (refine' ev_2 ?a ?b ?c; (case a => walk_at "ev"); (case b => walk_at "ev"); (case c => walk_at "op"))
  | (refine' ev_1 ?a ?b; (case a => walk_at "ev"); (case b => walk_at "op"))
  | (refine' ev_F ?a ?b; (case a => walk_at "ev"); (case b => walk_at "op"))
  | (refine' ev_Cs ?a ?b; (case a => walk_at "ev"); (case b => walk_at "ev"))
  | (refine' ev_call ?a ?n ?b; (case a => walk_at "ev"); (case n => with_unfolding_all rfl); (case b => walk_at "op"))
  | (refine' ev_T ?a; (case a => walk_at "ev"))
  | (refine' ev_tnot ?a; (case a => walk_at "ev"))
  | (refine' ev_tup ?a ?b; (case a => walk_at "ev"); (case b => walk_at "sz"))
  | (refine' ev_lstF ?a ?b; (case a => walk_at "ev"); (case b => walk_at "sz"))
  | (refine' ev_lstT ?a ?b; (case a => walk_at "ev"); (case b => walk_at "sz"))
  | (refine' ev_oS ?a; (case a => walk_at "ev"))
  | (refine' ev_sl ?a ?b ?c ?d; (case a => walk_at "ev"); (case b => walk_at "ev"); (case c => walk_at "ev"); (case d => walk_at "op"))
  | (refine' ev_not ?a; (case a => walk_at "ev"))
  | (refine' ev_m0 ?a ?b ?c; (case a => walk_at "ev"); (case b => exact tyc_R (by walk_at "hp")); (case c => walk_at "op"))
  | (refine' ev_m ?a ?b ?c ?d; (case a => walk_at "ev"); (case b => exact tyc_R (by walk_at "hp")); (case c => walk_at "ev"); (case d => walk_at "op"))
  | (refine' it_range1 ?a ?b; (case a => walk_at "ev"); (case b => omega))
  | (refine' it_range2 ?a ?b; (case a => walk_at "ev"); (case b => omega))
  | (refine' it_T ?a; (case a => walk_at "ev"))
  | (refine' it_F ?a; (case a => walk_at "ev")))
local macro_rules | `(tactic| walk_at "nf") => `(tactic| (simp (config := { failIfUnchanged := false }) only [List.set_cons_succ, List.set_cons_zero, List.map_cons, List.map_nil, List.length_cons, List.length_nil, List.cons_append, List.nil_append, List.replicate]))
local macro_rules | `(tactic| walk_at "set") => `(tactic| (refine en_seq ?_; refine' en_set ?e ?_; (case e => walk_at "ev"); walk_at "nf"))
local macro_rules | `(tactic| walk_at "expr") => `(tactic| (refine en_seq ?_; refine' en_expr ?e ?_; (case e => walk_at "ev"); walk_at "nf"))
/-! ### take -/
def takeM : MF := runF 2 (sSeq (sIf (mT (m2 (fEq false) (mF fLen (maC (mV 0) (maN))) (mC (.int 0)))) (sRet (mC (.int 0))) (sNil)) (sRet (m2 fMod (mF fInt (maC (mM0 "list" fPop (mV 0)) (maN))) (mV 1))))
theorem takeM_eq {d : Nat} {k x : Int} {xs : List MV} {h : MH} (e : h[d]? = some (.lst (xs ++ [.int x]))) (hk : 0 < k) : takeM [.ref d, .int k] h = .ok (.int (x % k)) (h.set d (.lst xs)) := by
  unfold takeM
  refine runF_ends (P := fun o => o = _) ?_
  refine en_seq ?_
  refine' en_if ?e ?_ ?_
  case e => walk_at "ev"
  · intro q
    rw [decide_eq_true_eq, List.length_append] at q
    simp only [List.length_cons, List.length_nil] at q
    omega
  · intro q
    refine en_nil ?_
    have hp := f_pop e
    refine' en_ret ?e ?_
    case e => walk_at "ev"
    rfl

/-! ### draws -/
def drawsM : MF := runF 9 (sSeq (sSet 2 (mF (fList true) (maC (mV 0) (maN)))) (sSeq (sIf (mT (m2 (fEq false) (mF fLen (maC (mV 2) (maN))) (mC (.int 0)))) (sSet 2 (mLst true (maC (mC (.int 7)) (maN)))) (sNil)) (sSeq (sSet 3 (mLst true (maN))) (sSeq (sSet 4 (mC (.int 12345))) (sSeq (sFor (iRange1 (maC (mV 1) (maN))) (gNm 5) (sSeq (sSet 6 (m2 fMod (mV 5) (mF fLen (maC (mV 2) (maN))))) (sSeq (sSet 7 (m2 fIx (mV 2) (mV 6))) (sSeq (sSet 4 (m2 fMod (mF fInt (maC (m2 (fAdd false) (m2 (fAdd false) (m2 (fAdd false) (m2 (fMul false) (mV 4) (mC (.int 48271))) (m2 (fMul false) (m2 fMod (mF fInt (maC (mV 7) (maN))) (mC (.int 1000003))) (mC (.int 69621)))) (m2 (fMul false) (mV 5) (mC (.int 7919)))) (mC (.int 11))) (maN))) (mC (.int 2147483647)))) (sSeq (sSet 8 (m2 fMod (mF fInt (maC (m2 (fAdd false) (m2 (fAdd false) (m2 (fMul false) (mV 4) (mV 4)) (m2 (fMul false) (mC (.int 31)) (mV 4))) (mV 5)) (maN))) (mC (.int 1000003)))) (sIf (mT (m2 fGe (mV 7) (m2 fPow (mC (.int 10)) (mC (.int 18))))) (sSeq (sExpr (mM "list" fAppend (mV 3) (maC (m2 fMod (mF fInt (maC (mV 7) (maN))) (mC (.int 1000))) (maN)))) (sAsg (m2 fDiv (mV 7) (mC (.int 1000))) (gSb (mV 2) (mV 6) fSetL))) (sExpr (mM "list" fAppend (mV 3) (maC (m2 fMod (mF fInt (maC (mV 8) (maN))) (mC (.int 1000))) (maN)))))))))) (sSeq (sExpr (mM0 "list" fReverse (mV 3))) (sRet (mV 3))))))))
theorem cmul_of {i j : Int} (hj : -(2 ^ 64) < j ∧ j < 2 ^ 64) : cMul i j = true := by
  unfold cMul
  simp only [hj.1, hj.2, decide_true, Bool.and_self, Bool.or_true]
theorem ev_gSb {o i : ME} {f : MV → MV → MV → MH → Out MV} {env : MEnv} {h h1 h2 h3 : MH} {x y d z : MV} (ho : o env h = .ok x h1) (hi : i env h1 = .ok y h2) (hf : f x y d h2 = .ok z h3) : gSb o i f d env h = .ok env h3 := by
  unfold gSb; rw [ho]; simp only [Out.bind]; rw [hi]; simp only; rw [hf]
/-- what the draws leave -/
structure Drawn (h : MH) (d : Nat) (h' : MH) (n : Nat) : Prop where
  new : h.length ≤ d
  old : ∀ (n : Nat) c, h[n]? = some c → h'[n]? = some c
  at_ : ∃ xs : List Int, h'[d]? = some (.lst (nums xs)) ∧ xs.length = n ∧ ∀ x ∈ xs, 0 ≤ x ∧ x < 1000
theorem nums_set {xs : List Int} {k : Nat} {v : Int} : (nums xs).set k (.int v) = nums (xs.set k v) := by unfold nums; rw [List.map_set]
theorem nums_get {xs : List Int} {k : Nat} {v : Int} (e : xs[k]? = some v) : (nums xs)[k]? = some (.int v) := by unfold nums; rw [List.getElem?_map, e]; rfl
/-- one turn's state -/
def DrI (h : MH) (cs0 : Nat) (f : Nat) (sc : MV) (N : MV) (j : Nat) (env : MEnv) (hh : MH) : Prop :=
  ∃ (c : Nat) (cs fs : List Int) (m : Int) (o5 o6 o7 o8 : Option MV), env = [some sc, some N, some (.ref c), some (.ref f), some (.int m), o5, o6, o7, o8] ∧ hh[c]? = some (.lst (nums cs)) ∧ hh[f]? = some (.lst (nums fs)) ∧ c ≠ f ∧ cs ≠ [] ∧ cs.length ≤ 1000 ∧ fs.length = j ∧
    (∀ x ∈ fs, 0 ≤ x ∧ x < 1000) ∧ 0 ≤ m ∧ m < 2147483647 ∧ h.length ≤ c ∧ h.length ≤ f ∧ ∀ (n : Nat) x, h[n]? = some x → hh[n]? = some x
theorem lt_of_get {h : MH} {n : Nat} {c : Cell} (e : h[n]? = some c) : n < h.length := (List.getElem?_eq_some_iff.mp e).1
theorem drawsM_ok (ns : List Int) (hl : ns.length ≤ 1000) (N : Int) (hN0 : 0 ≤ N) (hN : N ≤ 1000) (h : MH) : Does (fun v h' => ∃ d, v = .ref d ∧ Drawn h d h' N.toNat) (drawsM [.sl (nums ns), .int N] h) := by
  unfold drawsM
  refine runF_does ?_
  walk_at "nf"
  have e1 : fList true [.sl (nums ns)] h = .ok (.ref h.length) (h ++ [.lst (nums ns)]) := f_listF rfl
  walk_at "set"
  -- the cells
  have key : ∀ (c : Nat) (cs : List Int) (hh : MH), hh[c]? = some (.lst (nums cs)) → cs ≠ [] → cs.length ≤ 1000 → h.length ≤ c → (∀ (n : Nat) x, h[n]? = some x → hh[n]? = some x) →
      Ends (fun o => Does (fun v h' => ∃ d, v = .ref d ∧ Drawn h d h' N.toNat) o.out) (sSeq (sSet 3 (mLst true (maN))) (sSeq (sSet 4 (mC (.int 12345))) (sSeq (sFor (iRange1 (maC (mV 1) (maN))) (gNm 5) (sSeq (sSet 6 (m2 fMod (mV 5) (mF fLen (maC (mV 2) (maN))))) (sSeq (sSet 7 (m2 fIx (mV 2) (mV 6))) (sSeq (sSet 4 (m2 fMod (mF fInt (maC (m2 (fAdd false) (m2 (fAdd false) (m2 (fAdd false) (m2 (fMul false) (mV 4) (mC (.int 48271))) (m2 (fMul false) (m2 fMod (mF fInt (maC (mV 7) (maN))) (mC (.int 1000003))) (mC (.int 69621)))) (m2 (fMul false) (mV 5) (mC (.int 7919)))) (mC (.int 11))) (maN))) (mC (.int 2147483647)))) (sSeq (sSet 8 (m2 fMod (mF fInt (maC (m2 (fAdd false) (m2 (fAdd false) (m2 (fMul false) (mV 4) (mV 4)) (m2 (fMul false) (mC (.int 31)) (mV 4))) (mV 5)) (maN))) (mC (.int 1000003)))) (sIf (mT (m2 fGe (mV 7) (m2 fPow (mC (.int 10)) (mC (.int 18))))) (sSeq (sExpr (mM "list" fAppend (mV 3) (maC (m2 fMod (mF fInt (maC (mV 7) (maN))) (mC (.int 1000))) (maN)))) (sAsg (m2 fDiv (mV 7) (mC (.int 1000))) (gSb (mV 2) (mV 6) fSetL))) (sExpr (mM "list" fAppend (mV 3) (maC (m2 fMod (mF fInt (maC (mV 8) (maN))) (mC (.int 1000))) (maN)))))))))) (sSeq (sExpr (mM0 "list" fReverse (mV 3))) (sRet (mV 3)))))
        [some (.sl (nums ns)), some (.int N), some (.ref c), none, none, none, none, none, none] hh) := by
    intro c cs hh hc hne hcl hnc hold
    walk_at "set"
    walk_at "set"
    refine en_seq ?_
    refine' en_for ?e ?_
    case e => refine' it_range1 ?a ?b; (case a => walk_at "ev"); (case b => omega)
    refine en_forL (DrI h 0 hh.length (.sl (nums ns)) (.int N)) ?_ ?_ ?_
    · refine ⟨c, cs, [], 12345, none, none, none, none, rfl, app_old hc, app_same, Nat.ne_of_lt (lt_of_get hc), hne, hcl, rfl, (fun x hx => nomatch hx), by decide, by decide, hnc, ?_, fun n x e => app_old (hold n x e)⟩
      by_cases hz : h.length = 0
      · omega
      · have := lt_of_get (hold (h.length - 1) (h[h.length - 1]'(by omega)) (List.getElem?_eq_getElem _))
        omega
    · intro j x env hh2 hx hI
      obtain ⟨c, cs, fs, m, o5, o6, o7, o8, rfl, q1, q2, q3, q4, q5, q6, q7, q8, q9, q10, q11, q12⟩ := hI
      obtain ⟨rfl, hj⟩ := rangeM_get hx
      show Ends _ (sSeq _ _ [some (.sl (nums ns)), some (.int N), some (.ref c), some (.ref hh.length), some (.int m), some (.int (0 + j)), o6, o7, o8] hh2)
      have hcl2 : 0 < cs.length := List.length_pos_iff.mpr q4
      have hlen : ((nums cs).length : Int) = cs.length := by simp
      have hm0 : (0 : Int) < ((nums cs).length : Int) := by omega
      have hj1 : 0 ≤ (0 + (j : Int)) % ((nums cs).length : Int) := Int.emod_nonneg _ (by omega)
      have hj2 : (0 + (j : Int)) % ((nums cs).length : Int) < ((nums cs).length : Int) := Int.emod_lt_of_pos _ hm0
      have f1 := f_mod (m := 0 + (j : Int)) (h := hh2) hm0
      walk_at "set"
      generalize (0 + (j : Int)) % ((nums cs).length : Int) = jj at *
      obtain ⟨v, hv⟩ : ∃ v, cs[jj.toNat]? = some v := ⟨_, List.getElem?_eq_getElem (by omega)⟩
      have f2 : fIx (.ref c) (.int jj) hh2 = .ok (.int v) hh2 := f_ix (seq_R q1) (atI_z hj1 (nums_get hv))
      walk_at "set"
      have f3 := f_mod (m := v) (n := 1000003) (h := hh2) (by decide)
      have hr1 : 0 ≤ v % 1000003 := Int.emod_nonneg _ (by decide)
      have hr2 : v % 1000003 < 1000003 := Int.emod_lt_of_pos _ (by decide)
      have f4 := f_mul (v := false) (m := m) (n := 48271) (h := hh2) (cmul_of (by decide))
      have f5 := f_mul (v := false) (m := v % 1000003) (n := 69621) (h := hh2) (cmul_of (by decide))
      have f6 := f_mul (v := false) (m := 0 + (j : Int)) (n := 7919) (h := hh2) (cmul_of (by decide))
      walk_at "set"
      have hm1 : 0 ≤ (m * 48271 + v % 1000003 * 69621 + (0 + (j : Int)) * 7919 + 11) % 2147483647 := Int.emod_nonneg _ (by decide)
      have hm2 : (m * 48271 + v % 1000003 * 69621 + (0 + (j : Int)) * 7919 + 11) % 2147483647 < 2147483647 := Int.emod_lt_of_pos _ (by decide)
      generalize (m * 48271 + v % 1000003 * 69621 + (0 + (j : Int)) * 7919 + 11) % 2147483647 = m' at *
      have f7 := f_mul (v := false) (m := m') (n := m') (h := hh2) (cmul_of (by omega))
      have f8 := f_mul (v := false) (m := 31) (n := m') (h := hh2) (cmul_of (by omega))
      walk_at "set"
      generalize (m' * m' + 31 * m' + (0 + (j : Int))) % 1000003 = ag at *
      have hfl : (nums fs).length < sizeLine := sz_lt (by simp only [List.length_map]; omega)
      refine' en_if ?e ?_ ?_
      case e => walk_at "ev"
      · intro _
        have f9 := f_app (y := .int (v % 1000)) q2 hfl
        walk_at "expr"
        have q1' : (hh2.set hh.length (.lst (nums fs ++ [.int (v % 1000)])))[c]? = some (.lst (nums cs)) := set_other (Ne.symm q3) q1
        have f10 := f_setL (d := .int (v / 1000)) q1' hj1 hj2
        refine' en_asg ?e ?g ?_
        case e => walk_at "ev"
        case g => refine' ev_gSb ?a ?b f10; (case a => walk_at "ev"); (case b => walk_at "ev")
        show DrI _ _ _ _ _ _ _ _
        refine ⟨c, cs.set jj.toNat (v / 1000), fs ++ [v % 1000], m', _, _, _, _, rfl, ?_, ?_, q3, ?_, ?_, ?_, ?_, hm1, hm2, q10, q11, ?_⟩
        · rw [← nums_set]; exact set_same q1'
        · refine set_other q3 ?_
          have : nums fs ++ [MV.int (v % 1000)] = nums (fs ++ [v % 1000]) := by simp
          rw [← this]
          exact set_same q2
        · intro z; apply q4; rw [← List.length_eq_zero_iff] at z ⊢; simpa using z
        · simpa using q5
        · simp [q6]
        · intro x hx
          rcases List.mem_append.mp hx with hx | hx
          · exact q7 x hx
          · have : x = v % 1000 := by simpa using hx
            subst this
            exact ⟨Int.emod_nonneg _ (by decide), Int.emod_lt_of_pos _ (by decide)⟩
        · intro n x e
          have hn := lt_of_get e
          exact set_other (by omega) (set_other (by omega) (q12 n x e))
      · intro _
        have f9 := f_app (y := .int (ag % 1000)) q2 hfl
        refine' en_expr ?e ?_
        case e => walk_at "ev"
        show DrI _ _ _ _ _ _ _ _
        refine ⟨c, cs, fs ++ [ag % 1000], m', _, _, _, _, rfl, set_other (Ne.symm q3) q1, ?_, q3, q4, q5, ?_, ?_, hm1, hm2, q10, q11, ?_⟩
        · have : nums fs ++ [MV.int (ag % 1000)] = nums (fs ++ [ag % 1000]) := by simp
          rw [← this]
          exact set_same q2
        · simp [q6]
        · intro x hx
          rcases List.mem_append.mp hx with hx | hx
          · exact q7 x hx
          · have : x = ag % 1000 := by simpa using hx
            subst this
            exact ⟨Int.emod_nonneg _ (by decide), Int.emod_lt_of_pos _ (by decide)⟩
        · intro n x e
          have hn := lt_of_get e
          exact set_other (by omega) (q12 n x e)
    · intro env hh2 hI
      obtain ⟨c, cs, fs, m, o5, o6, o7, o8, rfl, q1, q2, q3, q4, q5, q6, q7, q8, q9, q10, q11, q12⟩ := hI
      walk_at "expr"
      refine' en_ret ?e ?_
      case e => walk_at "ev"
      refine Does.of ⟨_, rfl, q11, fun n x e => set_other (by have := lt_of_get e; omega) (q12 n x e), fs.reverse, ?_, ?_, ?_⟩
      · rw [set_same q2]; simp
      · rw [rangeM_len] at q6; simp [q6]
      · intro x hx; exact q7 x (by simpa using hx)
  refine en_seq ?_
  refine' en_if ?e ?_ ?_
  case e => walk_at "ev"
  · intro q
    refine' en_set ?e ?_
    case e => walk_at "ev"
    walk_at "nf"
    refine key _ [7] _ app_same (by simp) (by simp) (by simp) fun n x e => app_old (app_old e)
  · intro q
    refine en_nil ?_
    refine key _ ns _ app_same ?_ hl (Nat.le_refl _) fun n x e => app_old e
    intro z
    subst z
    exact absurd q (by decide)
end Mn
/-! ## MnR -/
set_option Elab.async false
set_option linter.all false
set_option maxRecDepth 100000
/-! Mn, part R: takes from the draws, comprehensions, lassos. -/
namespace Mn
open PySem PySem.Spec PyProof.Rows L2
local macro_rules | `(tactic| walk_at "hp") => `(tactic| first
  | assumption
  | exact set_same (by assumption)
  | exact app_same
  | exact app_old (by assumption))
local macro_rules | `(tactic| walk_at "op") => `(tactic| with_reducible first
  | assumption
  | exact f_add | exact f_ii0 | exact f_ui | exact f_int | exact f_intB | exact f_max | exact f_min | exact f_ip
  | exact f_eqI | exact f_neI
  | exact f_lenT | exact f_lenF | exact f_lenS | exact f_tupT | exact f_tupF | exact f_tupS
  | exact f_lenR (by walk_at "hp") | exact f_tupR (by walk_at "hp")
  | (refine' f_mod ?_; omega)
  | (refine' f_div ?_ ?_ <;> omega)
  | exact f_pow (by decide)
  | exact f_isN1 | exact f_notN1
  | exact f_isN0 (by with_unfolding_all (intro q; cases q))
  | exact f_notN0 (by with_unfolding_all (intro q; cases q))
  | exact f_addT (by walk_at "sz")
  | exact f_slT | exact f_slF | exact f_slR (by walk_at "hp")
  | exact f_rev (by walk_at "hp"))
local macro_rules | `(tactic| walk_at "sz") => `(tactic| (refine sz_small ?_; simp only [List.length_cons, List.length_nil, List.length_append, List.length_map]; omega))
local macro_rules | `(tactic| walk_at "ev") => `(tactic| with_reducible first
  | assumption
  | exact ev_C
  | exact ev_V (by with_unfolding_all rfl)
  | exact ev_N
  | exact ev_oN
  | (refine' ev_2 ?a ?b ?c; (case a => walk_at "ev"); (case b => walk_at "ev"); (case c => walk_at "op"))
  | (refine' ev_1 ?a ?b; (case a => walk_at "ev"); (case b => walk_at "op"))
  | (refine' ev_F ?a ?b; (case a => walk_at "ev"); (case b => walk_at "op"))
  | (refine' ev_Cs ?a ?b; (case a => walk_at "ev"); (case b => walk_at "ev"))
  | (refine' ev_call ?a ?n ?b; (case a => walk_at "ev"); (case n => with_unfolding_all rfl); (case b => walk_at "op"))
  | (refine' ev_T ?a; (case a => walk_at "ev"))
  | (refine' ev_tnot ?a; (case a => walk_at "ev"))
  | (refine' ev_tup ?a ?b; (case a => walk_at "ev"); (case b => walk_at "sz"))
  | (refine' ev_lstF ?a ?b; (case a => walk_at "ev"); (case b => walk_at "sz"))
  | (refine' ev_lstT ?a ?b; (case a => walk_at "ev"); (case b => walk_at "sz"))
  | (refine' ev_oS ?a; (case a => walk_at "ev"))
  | (refine' ev_sl ?a ?b ?c ?d; (case a => walk_at "ev"); (case b => walk_at "ev"); (case c => walk_at "ev"); (case d => walk_at "op"))
  | (refine' ev_not ?a; (case a => walk_at "ev"))
  | (refine' ev_m0 ?a ?b ?c; (case a => walk_at "ev"); (case b => exact tyc_R (by walk_at "hp")); (case c => walk_at "op"))
  | (refine' ev_m ?a ?b ?c ?d; (case a => walk_at "ev"); (case b => exact tyc_R (by walk_at "hp")); (case c => walk_at "ev"); (case d => walk_at "op"))
  | (refine' it_range1 ?a ?b; (case a => walk_at "ev"); (case b => omega))
  | (refine' it_range2 ?a ?b; (case a => walk_at "ev"); (case b => omega))
  | (refine' it_T ?a; (case a => walk_at "ev"))
  | (refine' it_F ?a; (case a => walk_at "ev")))
local macro_rules | `(tactic| walk_at "nf") => `(tactic| (simp (config := { failIfUnchanged := false }) only [List.set_cons_succ, List.set_cons_zero, List.map_cons, List.map_nil, List.length_cons, List.length_nil, List.cons_append, List.nil_append, List.replicate]))
local macro_rules | `(tactic| walk_at "set") => `(tactic| (refine en_seq ?_; refine' en_set ?e ?_; (case e => walk_at "ev"); walk_at "nf"))
local macro_rules | `(tactic| walk_at "expr") => `(tactic| (refine en_seq ?_; refine' en_expr ?e ?_; (case e => walk_at "ev"); walk_at "nf"))
/-- the draws' list at d -/
def Dr (h : MH) (d : Nat) : Prop := ∃ xs : List Int, h[d]? = some (.lst (nums xs)) ∧ ∀ x ∈ xs, 0 ≤ x
theorem Drawn.dr {h h' : MH} {d n : Nat} (q : Drawn h d h' n) : Dr h' d := by
  obtain ⟨xs, e, _, hx⟩ := q.at_
  exact ⟨xs, e, fun x m => (hx x m).1⟩
theorem Dr.kp {h h' : MH} {d e : Nat} (D : Dr h d) (k : Kp e h h') (hn : d ≠ e) : Dr h' d := by
  obtain ⟨xs, q, hx⟩ := D
  exact ⟨xs, k.old _ _ hn q, hx⟩
theorem takeM_nil {d : Nat} {k : Int} {h : MH} (e : h[d]? = some (.lst [])) : takeM [.ref d, .int k] h = .ok (.int 0) h := by
  unfold takeM
  refine runF_ends (P := fun o => o = _) ?_
  refine en_seq ?_
  refine' en_if ?e ?_ ?_
  case e => walk_at "ev"
  · intro q
    refine' en_ret ?e ?_
    case e => walk_at "ev"
    rfl
  · intro q
    exact absurd q (by decide)
/-- what one take leaves -/
theorem takeM_ok {d : Nat} {k : Int} {h : MH} (D : Dr h d) (hk : 0 < k) : ∃ v h', takeM [.ref d, .int k] h = .ok (.int v) h' ∧ 0 ≤ v ∧ v < k ∧ Dr h' d ∧ Kp d h h' := by
  obtain ⟨xs, e, hx⟩ := D
  rcases List.eq_nil_or_concat xs with rfl | ⟨ys, y, rfl⟩
  · exact ⟨0, h, takeM_nil e, Int.le_refl _, hk, ⟨[], e, hx⟩, Kp.refl⟩
  · have e' : h[d]? = some (.lst (nums ys ++ [.int y])) := by rw [e]; simp
    refine ⟨y % k, _, takeM_eq e' hk, Int.emod_nonneg _ (by omega), Int.emod_lt_of_pos _ hk, ⟨ys, set_same e', fun x hm => hx x (by simp [hm])⟩, Kp.set⟩
/-! ### comprehensions -/
section
variable {g : MG} {t : MT} {e : ME} {env env1 : MEnv} {h h1 h2 : MH} {x y : MV} {xs acc : List MV} {i : Nat}
theorem compT_yes (he : e (env.set i (some x)) h = .ok y h1) (hz : acc.length < 16777216) : compT (gNm i) tYesM e x acc env h = .ok (acc ++ [y]) h1 := by
  unfold compT gNm tYesM
  simp only [Out.bind, Out.nox, if_true]
  rw [he]
  simp only
  rw [if_pos (sz_lt hz)]
theorem compT_in (ht : t (env.set i (some x)) h = .ok true h1) (he : e (env.set i (some x)) h1 = .ok y h2) (hz : acc.length < 16777216) : compT (gNm i) t e x acc env h = .ok (acc ++ [y]) h2 := by
  unfold compT gNm
  simp only [Out.bind, Out.nox]
  rw [ht]
  simp only [if_true]
  rw [he]
  simp only
  rw [if_pos (sz_lt hz)]
theorem compT_out (ht : t (env.set i (some x)) h = .ok false h1) : compT (gNm i) t e x acc env h = .ok acc h1 := by
  unfold compT gNm
  simp only [Out.bind, Out.nox]
  rw [ht]
  simp only [Bool.false_eq_true, if_false]
theorem compL_ok (I : Nat → List MV → MH → Prop) (h0 : I 0 acc h) (step : ∀ (j : Nat) x acc h, xs[j]? = some x → I j acc h → ∃ acc' h', compT g t e x acc env h = .ok acc' h' ∧ I (j + 1) acc' h') : ∃ acc' h', compL g t e env xs acc h = .ok acc' h' ∧ I xs.length acc' h' := by
  have gen : ∀ (n k : Nat) acc h, xs.length - k = n → k ≤ xs.length → I k acc h → ∃ acc' h', compL g t e env (xs.drop k) acc h = .ok acc' h' ∧ I xs.length acc' h' := by
    intro n
    induction n with
    | zero =>
      intro k acc h e1 e2 hi
      have : k = xs.length := by omega
      subst this
      rw [List.drop_length]
      exact ⟨acc, h, rfl, hi⟩
    | succ n ih =>
      intro k acc h e1 e2 hi
      have hlt : k < xs.length := by omega
      rw [List.drop_eq_getElem_cons hlt]
      obtain ⟨a1, h1, q, hi1⟩ := step k xs[k] acc h (List.getElem?_eq_getElem hlt) hi
      unfold compL
      rw [q]
      exact ih (k + 1) a1 h1 (by omega) hlt hi1
  have := gen xs.length 0 acc h (by omega) (Nat.zero_le _) h0
  rwa [List.drop_zero] at this
theorem compL_map (f : MV → MV) (hs : acc.length + xs.length ≤ 16777216) (he : ∀ x ∈ xs, e (env.set i (some x)) h = .ok (f x) h) : compL (gNm i) tYesM e env xs acc h = .ok (acc ++ xs.map f) h := by
  induction xs generalizing acc with
  | nil => simp [compL]
  | cons x xs ih =>
    unfold compL
    rw [compT_yes (he x (List.mem_cons_self ..)) (by simp only [List.length_cons] at hs; omega)]
    show compL _ _ _ _ _ _ _ = _
    rw [ih (by simp only [List.length_cons, List.length_append, List.length_nil] at hs ⊢; omega) (fun z hz => he z (List.mem_cons_of_mem _ hz))]
    simp
theorem ev_compF {it : MIt} {vs : List Nat} {ys : List MV} (hi : it env h = .ok (.st xs) h1) (hc : compL g t e (wipeM env vs) xs [] h1 = .ok ys h2) : mComp false it g t e vs env h = .ok (.fl ys) h2 := by
  unfold mComp; rw [hi]; show (compL _ _ _ _ _ _ _).bind _ = _; rw [hc]; rfl
theorem ev_compT {it : MIt} {vs : List Nat} {ys : List MV} (hi : it env h = .ok (.st xs) h1) (hc : compL g t e (wipeM env vs) xs [] h1 = .ok ys h2) : mComp true it g t e vs env h = .ok (.ref h2.length) (h2 ++ [.lst ys]) := by
  unfold mComp; rw [hi]; show (compL _ _ _ _ _ _ _).bind _ = _; rw [hc]; rfl
/-- a comprehension whose body takes a number below kk from the draws -/
theorem comp_take {d : Nat} {kk : Int} {acc : List Int} (B : Int → Prop) (he : ∀ x h, x ∈ xs → Dr h d → ∃ v h', e (env.set i (some x)) h = .ok (.int v) h' ∧ B v ∧ Dr h' d ∧ Kp d h h') (D : Dr h d) (hs : xs.length ≤ 1000) :
    ∃ vs h', compL (gNm i) tYesM e env xs [] h = .ok (nums vs) h' ∧ vs.length = xs.length ∧ (∀ v ∈ vs, B v) ∧ Dr h' d ∧ Kp d h h' := by
  obtain ⟨acc', h', q, vs, rfl, h3, h4, h5, h6⟩ := compL_ok (g := gNm i) (t := tYesM) (e := e) (env := env) (xs := xs) (acc := []) (h := h) (fun j acc hh => ∃ vs : List Int, acc = nums vs ∧ vs.length = j ∧ (∀ v ∈ vs, B v) ∧ Dr hh d ∧ Kp d h hh)
    ⟨[], rfl, rfl, (fun v hv => nomatch hv), D, Kp.refl⟩ (by
      rintro j x acc hh hx ⟨vs, rfl, h3, h4, h5, h6⟩
      have hj : j < xs.length := (List.getElem?_eq_some_iff.mp hx).1
      obtain ⟨v, h', q, b, D', k⟩ := he x hh (List.mem_of_getElem? hx) h5
      refine ⟨_, h', compT_yes q (by simp; omega), vs ++ [v], by simp, by simp [h3], ?_, D', h6.trans k⟩
      intro w hw
      rcases List.mem_append.mp hw with hw | hw
      · exact h4 w hw
      · have : w = v := by simpa using hw
        subst this
        exact b)
  exact ⟨vs, h', q, h3, h4, h5, h6⟩
end
theorem rangeM_mem {n : Nat} {x : MV} (hx : x ∈ rangeM 0 n) : ∃ j : Nat, x = .int j ∧ j < n := by
  obtain ⟨j, hj⟩ := List.getElem?_of_mem hx
  obtain ⟨rfl, hl⟩ := rangeM_get hj
  exact ⟨j, by simp, hl⟩
/-! ### lassos -/
def lasso (hs ls : List Int) : MV := .tup [.tup (nums hs), .tup (nums ls)]
/-- the letter of a word at a turn -/
def lw (hs ls : List Int) (t : Nat) : Int := if t < hs.length then hs.getD t 0 else ls.getD ((t - hs.length) % ls.length) 0
def lassoM : MF := runF 6 (sSeq (sSet 3 (mComp false (iRange1 (maC (mCall 2 takeM (maC (mV 0) (maC (m2 (fAdd false) (mV 2) (mC (.int 1))) (maN)))) (maN))) (gNm 4) (tYesM) (mCall 2 takeM (maC (mV 0) (maC (mV 1) (maN)))) [4])) (sSeq (sSet 5 (mComp false (iRange1 (maC (m2 (fAdd false) (mC (.int 1)) (mCall 2 takeM (maC (mV 0) (maC (mV 2) (maN))))) (maN))) (gNm 4) (tYesM) (mCall 2 takeM (maC (mV 0) (maC (mV 1) (maN)))) [4])) (sRet (mTup (maC (mF fTuple (maC (mV 3) (maN))) (maC (mF fTuple (maC (mV 5) (maN))) (maN)))))))
theorem lassoM_ok {d : Nat} {K L : Int} {h : MH} (D : Dr h d) (hK : 0 < K) (hL : 0 < L) (hL2 : L ≤ 900) : ∃ hs ls h', lassoM [.ref d, .int K, .int L] h = .ok (lasso hs ls) h' ∧ hs.length ≤ L ∧ 1 ≤ ls.length ∧ ls.length ≤ L ∧ (∀ x ∈ hs, 0 ≤ x ∧ x < K) ∧ (∀ x ∈ ls, 0 ≤ x ∧ x < K) ∧ Dr h' d ∧ Kp d h h' := by
  have key : ∃ hs ls h', Ends (fun o => o.out = .ok (lasso hs ls) h') ((sSeq (sSet 3 (mComp false (iRange1 (maC (mCall 2 takeM (maC (mV 0) (maC (m2 (fAdd false) (mV 2) (mC (.int 1))) (maN)))) (maN))) (gNm 4) (tYesM) (mCall 2 takeM (maC (mV 0) (maC (mV 1) (maN)))) [4])) (sSeq (sSet 5 (mComp false (iRange1 (maC (m2 (fAdd false) (mC (.int 1)) (mCall 2 takeM (maC (mV 0) (maC (mV 2) (maN))))) (maN))) (gNm 4) (tYesM) (mCall 2 takeM (maC (mV 0) (maC (mV 1) (maN)))) [4])) (sRet (mTup (maC (mF fTuple (maC (mV 3) (maN))) (maC (mF fTuple (maC (mV 5) (maN))) (maN))))))) [some (.ref d), some (.int K), some (.int L), none, none, none] h) ∧ hs.length ≤ L ∧ 1 ≤ ls.length ∧ ls.length ≤ L ∧ (∀ x ∈ hs, 0 ≤ x ∧ x < K) ∧ (∀ x ∈ ls, 0 ≤ x ∧ x < K) ∧ Dr h' d ∧ Kp d h h' := by
    obtain ⟨v, h1, t1, v0, v1, D1, k1⟩ := takeM_ok D (k := L + 1) (by omega)
    obtain ⟨hs, h2, c1, l1, b1, D2, k2⟩ := comp_take (e := mCall 2 takeM (maC (mV 0) (maC (mV 1) (maN)))) (env := [some (.ref d), some (.int K), some (.int L), none, none, none]) (i := 4) (xs := rangeM 0 v.toNat) (kk := K) (acc := []) (fun v => 0 ≤ v ∧ v < K) (by
      intro x h hx Dx
      obtain ⟨v, h1, t1, v0, v1, D1, k1⟩ := takeM_ok Dx hK
      refine ⟨v, h1, ?_, ⟨v0, v1⟩, D1, k1⟩
      walk_at "nf"
      walk_at "ev") D1 (by rw [rangeM_len]; omega)
    obtain ⟨w, h3, t2, w0, w1, D3, k3⟩ := takeM_ok D2 hL
    obtain ⟨ls, h4, c2, l2, b2, D4, k4⟩ := comp_take (e := mCall 2 takeM (maC (mV 0) (maC (mV 1) (maN)))) (env := [some (.ref d), some (.int K), some (.int L), some (.fl (nums hs)), none, none]) (i := 4) (xs := rangeM 0 (1 + w).toNat) (kk := K) (acc := []) (fun v => 0 ≤ v ∧ v < K) (by
      intro x h hx Dx
      obtain ⟨v, h1, t1, v0, v1, D1, k1⟩ := takeM_ok Dx hK
      refine ⟨v, h1, ?_, ⟨v0, v1⟩, D1, k1⟩
      walk_at "nf"
      walk_at "ev") D3 (by rw [rangeM_len]; omega)
    rw [rangeM_len] at l1 l2
    refine ⟨hs, ls, h4, ?_, by omega, by omega, by omega, b1, b2, D4, ((k1.trans k2).trans k3).trans k4⟩
    refine en_seq ?_
    refine' en_set ?e ?_
    case e =>
      refine' ev_compF ?a c1
      case a => refine' it_range1 ?a ?b; (case a => walk_at "ev"); (case b => omega)
    walk_at "nf"
    refine en_seq ?_
    refine' en_set ?e ?_
    case e =>
      refine' ev_compF ?a c2
      case a => refine' it_range1 ?a ?b; (case a => walk_at "ev"); (case b => omega)
    walk_at "nf"
    refine' en_ret ?e ?_
    case e => walk_at "ev"
    rfl
  obtain ⟨hs, ls, h', k, r⟩ := key
  exact ⟨hs, ls, h', k.out, r⟩
theorem getD_of {xs : List Int} {k : Nat} (hk : k < xs.length) : xs[k]? = some (xs.getD k 0) := by simp [List.getD, List.getElem?_eq_getElem hk]
theorem lw_mod {t a b : Nat} (hb : 0 < b) (ha : a ≤ t) : (((t : Int) - (a : Int)) % (b : Int)) = (((t - a) % b : Nat) : Int) := by
  rw [← Int.ofNat_sub ha, ← Int.natCast_emod]
def atM : MF := runF 2 (sSeq (sIf (mT (m2 fLt (mV 1) (mF fLen (maC (m2 fIx (mV 0) (mC (.int 0))) (maN))))) (sRet (m2 fIx (m2 fIx (mV 0) (mC (.int 0))) (mV 1))) (sNil)) (sRet (m2 fIx (m2 fIx (mV 0) (mC (.int 1))) (m2 fMod (mF fInt (maC (m2 fSub (mV 1) (mF fLen (maC (m2 fIx (mV 0) (mC (.int 0))) (maN)))) (maN))) (mF fLen (maC (m2 fIx (mV 0) (mC (.int 1))) (maN)))))))
theorem la_0 {hs ls : List Int} {h : MH} : fIx (lasso hs ls) (.int 0) h = .ok (.tup (nums hs)) h := rfl
theorem la_1 {hs ls : List Int} {h : MH} : fIx (lasso hs ls) (.int 1) h = .ok (.tup (nums ls)) h := rfl
theorem atM_ok {hs ls : List Int} {t : Int} {h : MH} (h0 : 0 ≤ t) (hl : ls ≠ []) : atM [lasso hs ls, .int t] h = .ok (.int (lw hs ls t.toNat)) h := by
  obtain ⟨t, rfl⟩ := Int.eq_ofNat_of_zero_le h0
  have hl2 : 0 < ls.length := List.length_pos_iff.mpr hl
  have e0 := @la_0 hs ls h
  have e1 := @la_1 hs ls h
  have n0 : ((nums hs).length : Int) = hs.length := by simp
  have n1 : ((nums ls).length : Int) = ls.length := by simp
  unfold atM
  refine runF_ends (P := fun o => o = _) ?_
  walk_at "nf"
  refine en_seq ?_
  refine' en_if ?e ?_ ?_
  case e => walk_at "ev"
  · intro q
    rw [decide_eq_true_eq] at q
    have ht : t < hs.length := by omega
    have e2 : fIx (.tup (nums hs)) (.int t) h = .ok (.int (hs.getD t 0)) h := f_ix seq_T (atI_of (nums_get (getD_of ht)))
    refine' en_ret ?e ?_
    case e => walk_at "ev"
    show Out.ok _ _ = _
    unfold lw
    rw [Int.toNat_natCast, if_pos ht]
  · intro q
    rw [decide_eq_false_iff_not] at q
    have ht : hs.length ≤ t := by omega
    refine en_nil ?_
    have hm : (t - hs.length) % ls.length < ls.length := Nat.mod_lt _ hl2
    have e2 : fIx (.tup (nums ls)) (.int ((((t - hs.length) % ls.length : Nat)) : Int)) h = .ok (.int (ls.getD ((t - hs.length) % ls.length) 0)) h := f_ix seq_T (atI_of (nums_get (getD_of hm)))
    have e3 : fMod (.int ((t : Int) - ((nums hs).length : Int))) (.int ((nums ls).length : Int)) h = .ok (.int ((((t - hs.length) % ls.length : Nat)) : Int)) h := by
      rw [n0, n1, f_mod (by omega), lw_mod hl2 ht]
    refine' en_ret ?e ?_
    case e => walk_at "ev"
    show Out.ok _ _ = _
    unfold lw
    rw [Int.toNat_natCast, if_neg (by omega)]
/-- a lasso as the program's own words read it -/
def letterM : MF := runF 4 (sSeq (sAsg (mV 0) (gTup [gNm 2, gNm 3])) (sSeq (sIf (mT (m2 fLt (mV 1) (mF fLen (maC (mV 2) (maN))))) (sRet (m2 fIx (mV 2) (mV 1))) (sNil)) (sRet (m2 fIx (mV 3) (m2 fMod (m2 fSub (mV 1) (mF fLen (maC (mV 2) (maN)))) (mF fLen (maC (mV 3) (maN))))))))
theorem letterM_ok {hs ls : List Int} {t : Int} {h : MH} (h0 : 0 ≤ t) (hl : ls ≠ []) : letterM [lasso hs ls, .int t] h = .ok (.int (lw hs ls t.toNat)) h := by
  obtain ⟨t, rfl⟩ := Int.eq_ofNat_of_zero_le h0
  have hl2 : 0 < ls.length := List.length_pos_iff.mpr hl
  have n0 : ((nums hs).length : Int) = hs.length := by simp
  have n1 : ((nums ls).length : Int) = ls.length := by simp
  unfold letterM
  refine runF_ends (P := fun o => o = _) ?_
  walk_at "nf"
  refine en_seq ?_
  refine' en_asg ?e ?g ?_
  case e => walk_at "ev"
  case g => rfl
  refine en_seq ?_
  walk_at "nf"
  refine' en_if ?e ?_ ?_
  case e => walk_at "ev"
  · intro q
    rw [decide_eq_true_eq] at q
    have ht : t < hs.length := by omega
    have e2 : fIx (.tup (nums hs)) (.int t) h = .ok (.int (hs.getD t 0)) h := f_ix seq_T (atI_of (nums_get (getD_of ht)))
    refine' en_ret ?e ?_
    case e => walk_at "ev"
    show Out.ok _ _ = _
    unfold lw
    rw [Int.toNat_natCast, if_pos ht]
  · intro q
    rw [decide_eq_false_iff_not] at q
    have ht : hs.length ≤ t := by omega
    refine en_nil ?_
    have hm : (t - hs.length) % ls.length < ls.length := Nat.mod_lt _ hl2
    have e2 : fIx (.tup (nums ls)) (.int ((((t - hs.length) % ls.length : Nat)) : Int)) h = .ok (.int (ls.getD ((t - hs.length) % ls.length) 0)) h := f_ix seq_T (atI_of (nums_get (getD_of hm)))
    have e3 : fMod (.int ((t : Int) - ((nums hs).length : Int))) (.int ((nums ls).length : Int)) h = .ok (.int ((((t - hs.length) % ls.length : Nat)) : Int)) h := by
      rw [n0, n1, f_mod (by omega), lw_mod hl2 ht]
    refine' en_ret ?e ?_
    case e => walk_at "ev"
    show Out.ok _ _ = _
    unfold lw
    rw [Int.toNat_natCast, if_neg (by omega)]
end Mn
/-! ## MnS -/
set_option Elab.async false
set_option linter.all false
set_option maxRecDepth 100000
/-! Mn, part S: words. -/
namespace Mn
open PySem PySem.Spec PyProof.Rows L2
local macro_rules | `(tactic| walk_at "hp") => `(tactic| first
  | assumption
  | exact set_same (by assumption)
  | exact app_same
  | exact app_old (by assumption))
local macro_rules | `(tactic| walk_at "op") => `(tactic| with_reducible first
  | assumption
  | exact f_add | exact f_ii0 | exact f_ui | exact f_int | exact f_intB | exact f_max | exact f_min | exact f_ip
  | exact f_eqI | exact f_neI
  | exact f_lenT | exact f_lenF | exact f_lenS | exact f_tupT | exact f_tupF | exact f_tupS
  | exact f_lenR (by walk_at "hp") | exact f_tupR (by walk_at "hp")
  | (refine' f_mod ?_; omega)
  | (refine' f_div ?_ ?_ <;> omega)
  | exact f_pow (by decide)
  | exact f_isN1 | exact f_notN1
  | exact f_isN0 (by with_unfolding_all (intro q; cases q))
  | exact f_notN0 (by with_unfolding_all (intro q; cases q))
  | exact f_addT (by walk_at "sz")
  | exact f_slT | exact f_slF | exact f_slR (by walk_at "hp")
  | exact f_rev (by walk_at "hp"))
local macro_rules | `(tactic| walk_at "sz") => `(tactic| (refine sz_small ?_; simp only [List.length_cons, List.length_nil, List.length_append, List.length_map]; omega))
local macro_rules | `(tactic| walk_at "ev") => `(tactic| with_reducible first
  | assumption
  | exact ev_C
  | exact ev_V (by with_unfolding_all rfl)
  | exact ev_N
  | exact ev_oN
  | (refine' ev_2 ?a ?b ?c; (case a => walk_at "ev"); (case b => walk_at "ev"); (case c => walk_at "op"))
  | (refine' ev_1 ?a ?b; (case a => walk_at "ev"); (case b => walk_at "op"))
  | (refine' ev_F ?a ?b; (case a => walk_at "ev"); (case b => walk_at "op"))
  | (refine' ev_Cs ?a ?b; (case a => walk_at "ev"); (case b => walk_at "ev"))
  | (refine' ev_call ?a ?n ?b; (case a => walk_at "ev"); (case n => with_unfolding_all rfl); (case b => walk_at "op"))
  | (refine' ev_T ?a; (case a => walk_at "ev"))
  | (refine' ev_tnot ?a; (case a => walk_at "ev"))
  | (refine' ev_tup ?a ?b; (case a => walk_at "ev"); (case b => walk_at "sz"))
  | (refine' ev_lstF ?a ?b; (case a => walk_at "ev"); (case b => walk_at "sz"))
  | (refine' ev_lstT ?a ?b; (case a => walk_at "ev"); (case b => walk_at "sz"))
  | (refine' ev_oS ?a; (case a => walk_at "ev"))
  | (refine' ev_sl ?a ?b ?c ?d; (case a => walk_at "ev"); (case b => walk_at "ev"); (case c => walk_at "ev"); (case d => walk_at "op"))
  | (refine' ev_not ?a; (case a => walk_at "ev"))
  | (refine' ev_m0 ?a ?b ?c; (case a => walk_at "ev"); (case b => exact tyc_R (by walk_at "hp")); (case c => walk_at "op"))
  | (refine' ev_m ?a ?b ?c ?d; (case a => walk_at "ev"); (case b => exact tyc_R (by walk_at "hp")); (case c => walk_at "ev"); (case d => walk_at "op"))
  | (refine' it_range1 ?a ?b; (case a => walk_at "ev"); (case b => omega))
  | (refine' it_range2 ?a ?b; (case a => walk_at "ev"); (case b => omega))
  | (refine' it_T ?a; (case a => walk_at "ev"))
  | (refine' it_F ?a; (case a => walk_at "ev")))
local macro_rules | `(tactic| walk_at "nf") => `(tactic| (simp (config := { failIfUnchanged := false }) only [List.set_cons_succ, List.set_cons_zero, List.map_cons, List.map_nil, List.length_cons, List.length_nil, List.cons_append, List.nil_append, List.replicate]))
local macro_rules | `(tactic| walk_at "set") => `(tactic| (refine en_seq ?_; refine' en_set ?e ?_; (case e => walk_at "ev"); walk_at "nf"))
local macro_rules | `(tactic| walk_at "expr") => `(tactic| (refine en_seq ?_; refine' en_expr ?e ?_; (case e => walk_at "ev"); walk_at "nf"))
/-- the first of n turns at which f and g part -/
def FirstAt (n : Nat) (f g : Nat → Int) (v : MV) : Prop := (v = .non ∧ ∀ t, t < n → f t = g t) ∨ ∃ j : Nat, j < n ∧ v = .int j ∧ (∀ t, t < j → f t = g t) ∧ f j ≠ g j
theorem FirstAt.one {n : Nat} {f g : Nat → Int} {v w : MV} (a : FirstAt n f g v) (b : FirstAt n f g w) : v = w := by
  rcases a with ⟨rfl, a⟩ | ⟨j, j0, rfl, j1, j2⟩ <;> rcases b with ⟨rfl, b⟩ | ⟨k, k0, rfl, k1, k2⟩
  · rfl
  · exact absurd (a k k0) k2
  · exact absurd (b j j0) j2
  · have : j = k := by
      rcases Nat.lt_trichotomy j k with h | h | h
      · exact absurd (k1 j h) j2
      · exact h
      · exact absurd (j1 k h) k2
    rw [this]
theorem FirstAt.swap {n : Nat} {f g : Nat → Int} {v : MV} (a : FirstAt n f g v) : FirstAt n g f v := by
  rcases a with ⟨rfl, a⟩ | ⟨j, j0, rfl, j1, j2⟩
  · exact .inl ⟨rfl, fun t ht => (a t ht).symm⟩
  · exact .inr ⟨j, j0, rfl, fun t ht => (j1 t ht).symm, fun e => j2 e.symm⟩
def diffM : MF := runF 4 (sSeq (sSet 2 (m2 (fAdd false) (m2 (fAdd false) (mF fMax2 (maC (mF fLen (maC (m2 fIx (mV 0) (mC (.int 0))) (maN))) (maC (mF fLen (maC (m2 fIx (mV 1) (mC (.int 0))) (maN))) (maN)))) (mF fLen (maC (m2 fIx (mV 0) (mC (.int 1))) (maN)))) (mF fLen (maC (m2 fIx (mV 1) (mC (.int 1))) (maN))))) (sSeq (sFor (iRange1 (maC (mV 2) (maN))) (gNm 3) (sIf (mT (m2 (fEq true) (mCall 2 letterM (maC (mV 0) (maC (mV 3) (maN)))) (mCall 2 letterM (maC (mV 1) (maC (mV 3) (maN)))))) (sRet (mV 3)) (sNil))) (sRet (mC .non))))
def dlim (a b c d : List Int) : Nat := max a.length c.length + b.length + d.length
theorem dlim_eq {a b c d : List Int} : (if ((nums c).length : Int) > ((nums a).length : Int) then ((nums c).length : Int) else ((nums a).length : Int)) + ((nums b).length : Int) + ((nums d).length : Int) = (dlim a b c d : Nat) := by
  unfold dlim
  simp only [List.length_map]
  split <;> omega
theorem diffM_ok {a b c d : List Int} {h : MH} (hb : b ≠ []) (hd : d ≠ []) (hz : dlim a b c d < 1000) : ∃ v, FirstAt (dlim a b c d) (lw a b) (lw c d) v ∧ diffM [lasso a b, lasso c d] h = .ok v h := by
  suffices g : Does (fun v h' => h' = h ∧ FirstAt (dlim a b c d) (lw a b) (lw c d) v) (diffM [lasso a b, lasso c d] h) by
    obtain ⟨v, h', e, rfl, q⟩ := g
    exact ⟨v, q, e⟩
  unfold diffM
  refine runF_does ?_
  walk_at "nf"
  have e0 := @la_0 a b h
  have e1 := @la_1 a b h
  have e2 := @la_0 c d h
  have e3 := @la_1 c d h
  walk_at "set"
  rw [dlim_eq]
  refine en_seq ?_
  refine' en_for ?e ?_
  case e => refine' it_range1 ?a ?b; (case a => walk_at "ev"); (case b => omega)
  refine en_forL (fun j env hh => hh = h ∧ (∃ o, env = [some (lasso a b), some (lasso c d), some (.int (dlim a b c d : Nat)), o]) ∧ ∀ t, t < j → lw a b t = lw c d t) ?_ ?_ ?_
  · exact ⟨rfl, ⟨_, rfl⟩, fun t ht => absurd ht (Nat.not_lt_zero _)⟩
  · rintro j x env hh hx ⟨rfl, ⟨o, rfl⟩, ht⟩
    obtain ⟨rfl, hj⟩ := rangeM_get hx
    rw [Int.toNat_natCast] at hj
    show Ends _ (sIf _ _ _ [some (lasso a b), some (lasso c d), some (.int (dlim a b c d : Nat)), some (.int (0 + j))] hh)
    have l1 := letterM_ok (hs := a) (ls := b) (t := 0 + (j : Int)) (h := hh) (by omega) hb
    have l2 := letterM_ok (hs := c) (ls := d) (t := 0 + (j : Int)) (h := hh) (by omega) hd
    have z : (0 + (j : Int)).toNat = j := by omega
    rw [z] at l1 l2
    refine' en_if ?e ?_ ?_
    case e => walk_at "ev"
    · intro q
      refine' en_ret ?e ?_
      case e => walk_at "ev"
      refine ⟨_, _, rfl, rfl, .inr ⟨j, hj, by simp, ht, ?_⟩⟩
      simpa using q
    · intro q
      refine en_nil ?_
      refine ⟨rfl, ⟨_, rfl⟩, fun t h2 => ?_⟩
      rcases Nat.lt_succ_iff_lt_or_eq.mp h2 with h2 | rfl
      · exact ht t h2
      · simpa using q
  · rintro env hh ⟨rfl, ⟨o, rfl⟩, ht⟩
    rw [rangeM_len, Int.toNat_natCast] at ht
    refine' en_ret ?e ?_
    case e => walk_at "ev"
    exact ⟨_, _, rfl, rfl, .inl ⟨rfl, ht⟩⟩
def isintM : MF := runF 1 (sRet (mAnd (m1 (fIsi "int") (mV 0)) (mNot (m1 (fIsi "bool") (mV 0)))))
theorem isintM_ok {v : Int} {h : MH} : isintM [.int v] h = .ok (.bl true) h := by
  unfold isintM
  refine runF_ends (P := fun o => o = _) ?_
  walk_at "nf"
  refine' en_ret ?e ?_
  case e =>
    refine ev_and (v := true) (w := true) (h1 := h) (h2 := h) ?_ (fun _ => ?_) (fun z => by cases z)
    · exact ev_1 (ev_V rfl) (f_isi (A := "int") rfl rfl)
    · exact ev_not (v := false) (ev_1 (ev_V rfl) (f_isi (A := "int") rfl rfl))
  rfl
end Mn
/-! ## MnW -/
set_option Elab.async false
set_option linter.all false
set_option maxRecDepth 100000
/-! Mn, part W: words that repeat a loop for ever; their normal form. -/
namespace Mn
open PySem PySem.Spec PyProof.Rows L2
/-- w repeats with p from n on -/
def PerW (w : Nat → Int) (n p : Nat) : Prop := ∀ t, n ≤ t → w (t + p) = w t
theorem PerW.mul {w : Nat → Int} {n p : Nat} (P : PerW w n p) (k : Nat) : ∀ t, n ≤ t → w (t + p * k) = w t := by
  induction k with
  | zero => intro t _; rfl
  | succ k ih =>
    intro t ht
    rw [Nat.mul_succ, ← Nat.add_assoc, P _ (by omega), ih t ht]
theorem PerW.mono {w : Nat → Int} {n m p : Nat} (P : PerW w n p) (h : n ≤ m) : PerW w m p := fun t ht => P t (by omega)
theorem PerW.mod {w : Nat → Int} {n p q : Nat} (P : PerW w n p) (Q : PerW w n q) : PerW w n (p % q) := by
  intro t ht
  have := Q.mul (p / q) (t + p % q) (by omega)
  rw [Nat.add_assoc, Nat.mod_add_div] at this
  rw [← this]
  exact P t ht
theorem per_least {w : Nat → Int} {n : Nat} (q : Nat) (hq : 1 ≤ q) (P : PerW w n q) : ∃ q0, 1 ≤ q0 ∧ q0 ≤ q ∧ PerW w n q0 ∧ ∀ m, PerW w n m → m % q0 = 0 := by
  induction q using Nat.strongRecOn with
  | _ q ih =>
    by_cases c : ∀ m, PerW w n m → m % q = 0
    · exact ⟨q, hq, Nat.le_refl _, P, c⟩
    · obtain ⟨m, c⟩ := Classical.not_forall.mp c
      obtain ⟨M, c⟩ := Classical.not_imp.mp c
      have hl : m % q < q := Nat.mod_lt _ hq
      obtain ⟨q0, a, b, d, e⟩ := ih (m % q) hl (by omega) (M.mod P)
      exact ⟨q0, a, by omega, d, e⟩
/-- n letters, then p for ever, is the normal form of w -/
structure NfOf (w : Nat → Int) (n p : Nat) : Prop where
  pos : 1 ≤ p
  per : PerW w n p
  hd : n = 0 ∨ w (n - 1) ≠ w (n - 1 + p)
  least : ∀ q, 1 ≤ q → q < p → ¬ PerW w n q
theorem NfOf.no_lt {w : Nat → Int} {n p n' p' : Nat} (a : NfOf w n p) (b : NfOf w n' p') : ¬ n < n' := by
  intro h
  rcases b.hd with z | z
  · omega
  · apply z
    have h1 := a.per.mul p' (n' - 1) (by omega)
    have h2 := b.per.mul (p - 1) (n' - 1 + p') (by have := b.pos; omega)
    have e : n' - 1 + p' + p' * (p - 1) = n' - 1 + p * p' := by
      have := a.pos
      obtain ⟨k, rfl⟩ : ∃ k, p = k + 1 := ⟨p - 1, by omega⟩
      rw [Nat.add_sub_cancel, Nat.add_assoc, Nat.add_mul, Nat.one_mul, Nat.mul_comm p' k]
      omega
    rw [← h1, ← e, h2]
theorem NfOf.one {w : Nat → Int} {n p n' p' : Nat} (a : NfOf w n p) (b : NfOf w n' p') : n = n' ∧ p = p' := by
  have hn : n = n' := by have := a.no_lt b; have := b.no_lt a; omega
  subst hn
  refine ⟨rfl, ?_⟩
  rcases Nat.lt_trichotomy p p' with h | h | h
  · exact absurd a.per (b.least p a.pos h)
  · exact h
  · exact absurd b.per (a.least p' b.pos h)
theorem NfOf.congr {w v : Nat → Int} {n p : Nat} (a : NfOf w n p) (e : ∀ t, w t = v t) : NfOf v n p := by
  have : w = v := funext e
  rw [← this]; exact a
/-- n letters of w from a on -/
def wtake (w : Nat → Int) (a n : Nat) : List Int := (List.range n).map fun i => w (a + i)
theorem wtake_len {w : Nat → Int} {a n : Nat} : (wtake w a n).length = n := by unfold wtake; simp
theorem wtake_get {w : Nat → Int} {a n i : Nat} (h : i < n) : (wtake w a n).getD i 0 = w (a + i) := by
  unfold wtake
  simp [List.getD, h]
theorem wtake_mem {w : Nat → Int} {a n : Nat} {x : Int} (h : x ∈ wtake w a n) : ∃ i, i < n ∧ x = w (a + i) := by
  unfold wtake at h
  obtain ⟨i, hi, rfl⟩ := List.mem_map.mp h
  exact ⟨i, List.mem_range.mp hi, rfl⟩
theorem eq_wtake {w : Nat → Int} {a n : Nat} {xs : List Int} (hl : xs.length = n) (h : ∀ i, i < n → xs.getD i 0 = w (a + i)) : xs = wtake w a n := by
  apply List.ext_getElem
  · rw [wtake_len, hl]
  · intro i h1 h2
    have e1 := h i (by omega)
    rw [List.getD, List.getElem?_eq_getElem h1] at e1
    have e2 := wtake_get (w := w) (a := a) (n := n) (i := i) (by omega)
    rw [List.getD, List.getElem?_eq_getElem h2] at e2
    simp only [Option.getD_some] at e1 e2
    rw [e1, e2]
theorem lw_wtake {w : Nat → Int} {n p : Nat} (P : PerW w n p) (hp : 1 ≤ p) (t : Nat) : lw (wtake w 0 n) (wtake w n p) t = w t := by
  unfold lw
  rw [wtake_len, wtake_len]
  split
  · rename_i h
    rw [wtake_get h, Nat.zero_add]
  · rw [wtake_get (Nat.mod_lt _ hp)]
    have := P.mul ((t - n) / p) (n + (t - n) % p) (by omega)
    rw [Nat.add_assoc, Nat.mod_add_div] at this
    rw [← this]
    congr 1
    omega
theorem lw_ge {hs ls : List Int} {t : Nat} (h : hs.length ≤ t) : lw hs ls t = ls.getD ((t - hs.length) % ls.length) 0 := by unfold lw; rw [if_neg (by omega)]
theorem lw_lt {hs ls : List Int} {t : Nat} (h : t < hs.length) : lw hs ls t = hs.getD t 0 := by unfold lw; rw [if_pos h]
theorem lw_per {hs ls : List Int} : PerW (lw hs ls) hs.length ls.length := by
  intro t ht
  rw [lw_ge (by omega), lw_ge ht]
  congr 1
  rw [show t + ls.length - hs.length = t - hs.length + ls.length by omega, Nat.add_mod_right]
/-- the loop is made of copies of its first p letters -/
def rep (ls : List Int) (p : Nat) : Prop := ls.length % p = 0 ∧ ∀ k, p ≤ k → k < ls.length → ls.getD k 0 = ls.getD (k - p) 0
theorem rep_of_per {hs ls : List Int} {p : Nat} (h0 : ls.length % p = 0) (P : PerW (lw hs ls) hs.length p) : rep ls p := by
  refine ⟨h0, fun k h1 h2 => ?_⟩
  have := P (hs.length + (k - p)) (by omega)
  rw [lw_ge (by omega), lw_ge (by omega)] at this
  rwa [show hs.length + (k - p) + p - hs.length = k by omega, show hs.length + (k - p) - hs.length = k - p by omega, Nat.mod_eq_of_lt h2, Nat.mod_eq_of_lt (by omega)] at this
theorem rep_mul {ls : List Int} {p : Nat} (R : rep ls p) (j : Nat) : ∀ k, k + p * j < ls.length → ls.getD (k + p * j) 0 = ls.getD k 0 := by
  induction j with
  | zero => intro k _; rfl
  | succ j ih =>
    intro k h
    rw [Nat.mul_succ, ← Nat.add_assoc] at h ⊢
    rw [R.2 _ (by omega) h, show k + p * j + p - p = k + p * j by omega, ih k (by omega)]
theorem rep_mod {ls : List Int} {p k : Nat} (R : rep ls p) (h : k < ls.length) : ls.getD (k % p) 0 = ls.getD k 0 := by
  have := rep_mul R (k / p) (k % p) (by rw [Nat.mod_add_div]; exact h)
  rw [Nat.mod_add_div] at this
  exact this.symm
theorem mod_mod_of {a b c : Nat} (h : b % c = 0) : a % b % c = a % c := Nat.mod_mod_of_dvd a (Nat.dvd_of_mod_eq_zero h)
/-- the letter behind the head, by the short loop -/
theorem lw_rep {hs ls : List Int} {p t : Nat} (R : rep ls p) (hl : ls ≠ []) (h : hs.length ≤ t) : lw hs ls t = ls.getD ((t - hs.length) % p) 0 := by
  have hl2 : 0 < ls.length := List.length_pos_iff.mpr hl
  rw [lw_ge h, ← rep_mod R (Nat.mod_lt _ hl2), mod_mod_of R.1]
theorem per_of_rep {hs ls : List Int} {p : Nat} (R : rep ls p) (hl : ls ≠ []) : PerW (lw hs ls) hs.length p := by
  intro t h
  rw [lw_rep R hl (by omega), lw_rep R hl h]
  congr 1
  rw [show t + p - hs.length = t - hs.length + p by omega, Nat.add_mod_right]
theorem rep_self {ls : List Int} : rep ls ls.length := ⟨Nat.mod_self _, fun k h1 h2 => by omega⟩
theorem least_of {hs ls : List Int} {p n : Nat} (hl : ls ≠ []) (hn : n ≤ hs.length) (h : ∀ q, 1 ≤ q → q < p → ¬ rep ls q) : ∀ q, 1 ≤ q → q < p → ¬ PerW (lw hs ls) n q := by
  intro q h1 h2 P
  obtain ⟨q0, a, b, c, d⟩ := per_least q h1 (P.mono hn)
  exact h q0 a (by omega) (rep_of_per (d _ lw_per) c)
end Mn
/-! ## MnX -/
set_option Elab.async false
set_option linter.all false
set_option maxRecDepth 100000
/-! Mn, part X: what the program's words compute. -/
namespace Mn
open PySem PySem.Spec PyProof.Rows L2
local macro_rules | `(tactic| walk_at "hp") => `(tactic| first
  | assumption
  | exact set_same (by assumption)
  | exact app_same
  | exact app_old (by assumption))
local macro_rules | `(tactic| walk_at "op") => `(tactic| with_reducible first
  | assumption
  | exact f_add | exact f_ii0 | exact f_ui | exact f_int | exact f_intB | exact f_max | exact f_min | exact f_ip
  | exact f_eqI | exact f_neI
  | exact f_lenT | exact f_lenF | exact f_lenS | exact f_tupT | exact f_tupF | exact f_tupS
  | exact f_lenR (by walk_at "hp") | exact f_tupR (by walk_at "hp")
  | (refine' f_mod ?_; omega)
  | (refine' f_div ?_ ?_ <;> omega)
  | exact f_pow (by decide)
  | exact f_isN1 | exact f_notN1
  | exact f_isN0 (by with_unfolding_all (intro q; cases q))
  | exact f_notN0 (by with_unfolding_all (intro q; cases q))
  | exact f_addT (by walk_at "sz")
  | exact f_slT | exact f_slF | exact f_slR (by walk_at "hp")
  | exact f_rev (by walk_at "hp"))
local macro_rules | `(tactic| walk_at "sz") => `(tactic| (refine sz_small ?_; simp only [List.length_cons, List.length_nil, List.length_append, List.length_map]; omega))
local macro_rules | `(tactic| walk_at "ev") => `(tactic| with_reducible first
  | assumption
  | exact ev_C
  | exact ev_V (by with_unfolding_all rfl)
  | exact ev_N
  | exact ev_oN
  | (refine' ev_2 ?a ?b ?c; (case a => walk_at "ev"); (case b => walk_at "ev"); (case c => walk_at "op"))
  | (refine' ev_1 ?a ?b; (case a => walk_at "ev"); (case b => walk_at "op"))
  | (refine' ev_F ?a ?b; (case a => walk_at "ev"); (case b => walk_at "op"))
  | (refine' ev_Cs ?a ?b; (case a => walk_at "ev"); (case b => walk_at "ev"))
  | (refine' ev_call ?a ?n ?b; (case a => walk_at "ev"); (case n => with_unfolding_all rfl); (case b => walk_at "op"))
  | (refine' ev_T ?a; (case a => walk_at "ev"))
  | (refine' ev_tnot ?a; (case a => walk_at "ev"))
  | (refine' ev_tup ?a ?b; (case a => walk_at "ev"); (case b => walk_at "sz"))
  | (refine' ev_lstF ?a ?b; (case a => walk_at "ev"); (case b => walk_at "sz"))
  | (refine' ev_lstT ?a ?b; (case a => walk_at "ev"); (case b => walk_at "sz"))
  | (refine' ev_oS ?a; (case a => walk_at "ev"))
  | (refine' ev_sl ?a ?b ?c ?d; (case a => walk_at "ev"); (case b => walk_at "ev"); (case c => walk_at "ev"); (case d => walk_at "op"))
  | (refine' ev_not ?a; (case a => walk_at "ev"))
  | (refine' ev_m0 ?a ?b ?c; (case a => walk_at "ev"); (case b => exact tyc_R (by walk_at "hp")); (case c => walk_at "op"))
  | (refine' ev_m ?a ?b ?c ?d; (case a => walk_at "ev"); (case b => exact tyc_R (by walk_at "hp")); (case c => walk_at "ev"); (case d => walk_at "op"))
  | (refine' it_range1 ?a ?b; (case a => walk_at "ev"); (case b => omega))
  | (refine' it_range2 ?a ?b; (case a => walk_at "ev"); (case b => omega))
  | (refine' it_T ?a; (case a => walk_at "ev"))
  | (refine' it_F ?a; (case a => walk_at "ev")))
local macro_rules | `(tactic| walk_at "nf") => `(tactic| (simp (config := { failIfUnchanged := false }) only [List.set_cons_succ, List.set_cons_zero, List.map_cons, List.map_nil, List.length_cons, List.length_nil, List.cons_append, List.nil_append, List.replicate]))
local macro_rules | `(tactic| walk_at "set") => `(tactic| (refine en_seq ?_; refine' en_set ?e ?_; (case e => walk_at "ev"); walk_at "nf"))
local macro_rules | `(tactic| walk_at "expr") => `(tactic| (refine en_seq ?_; refine' en_expr ?e ?_; (case e => walk_at "ev"); walk_at "nf"))
/-- a tuple or a frozen list of numbers -/
def SeqV (x : MV) (ns : List Int) : Prop := x = .tup (nums ns) ∨ x = .fl (nums ns)
section
variable {x y : MV} {ns ms : List Int} {h : MH}
theorem SeqV.seq (s : SeqV x ns) : seqAt h x = some (nums ns) := by rcases s with rfl | rfl <;> rfl
theorem SeqV.len (s : SeqV x ns) : fLen [x] h = .ok (.int ns.length) h := by
  have e : ((nums ns).length : Int) = ns.length := by simp
  rcases s with rfl | rfl <;> · rw [← e]; rfl
theorem SeqV.ix {k : Int} (s : SeqV x ns) (h0 : 0 ≤ k) (hk : k < ns.length) : fIx x (.int k) h = .ok (.int (ns.getD k.toNat 0)) h := f_ix s.seq (atI_z h0 (nums_get (getD_of (by omega))))
theorem SeqV.ixN {k : Nat} (s : SeqV x ns) (hk : k < ns.length) : fIx x (.int k) h = .ok (.int (ns.getD k 0)) h := by
  have := s.ix (h := h) (k := (k : Int)) (by omega) (by omega)
  rwa [Int.toNat_natCast] at this
theorem cut_hi {k : Int} (h0 : 0 ≤ k) : cutM (nums ns) none (some k) = nums (ns.take k.toNat) := by
  obtain ⟨k, rfl⟩ := Int.eq_ofNat_of_zero_le h0
  unfold cutM
  rw [HT.sIx_none, HT.sIx_nat]
  simp only [List.drop_zero, Nat.sub_zero, Int.toNat_natCast, List.length_map]
  unfold nums
  rw [← List.map_take]
  congr 1
  rcases Nat.le_total k ns.length with z | z
  · rw [Nat.min_eq_left z]
  · rw [Nat.min_eq_right z, List.take_of_length_le z, List.take_of_length_le (Nat.le_refl _)]
theorem cut_lo {k : Int} (h0 : 0 ≤ k) : cutM (nums ns) (some k) none = nums (ns.drop k.toNat) := by
  obtain ⟨k, rfl⟩ := Int.eq_ofNat_of_zero_le h0
  unfold cutM
  rw [HT.sIx_none, HT.sIx_nat]
  simp only [Int.toNat_natCast, List.length_map]
  unfold nums
  rw [← List.map_drop, ← List.map_take]
  congr 1
  rcases Nat.le_total k ns.length with z | z
  · rw [Nat.min_eq_left z, List.take_of_length_le (by simp)]
  · rw [Nat.min_eq_right z, List.drop_of_length_le z, List.drop_of_length_le (Nat.le_refl _)]
    simp
theorem SeqV.hi {k : Int} (s : SeqV x ns) (h0 : 0 ≤ k) : ∃ y, SeqV y (ns.take k.toNat) ∧ fSl false x none (some k) h = .ok y h := by
  rcases s with rfl | rfl
  · exact ⟨_, .inl rfl, by rw [f_slT, cut_hi h0]⟩
  · exact ⟨_, .inr rfl, by rw [f_slF, cut_hi h0]; rfl⟩
theorem SeqV.lo {k : Int} (s : SeqV x ns) (h0 : 0 ≤ k) : ∃ y, SeqV y (ns.drop k.toNat) ∧ fSl false x (some k) none h = .ok y h := by
  rcases s with rfl | rfl
  · exact ⟨_, .inl rfl, by rw [f_slT, cut_lo h0]⟩
  · exact ⟨_, .inr rfl, by rw [f_slF, cut_lo h0]; rfl⟩
theorem SeqV.tup (s : SeqV x ns) : fTuple [x] h = .ok (.tup (nums ns)) h := by rcases s with rfl | rfl <;> rfl
theorem SeqV.T : SeqV (.tup (nums ns)) ns := .inl rfl
theorem SeqV.F : SeqV (.fl (nums ns)) ns := .inr rfl
end
section
variable {Q : OutS → Prop} {env env1 : MEnv} {h h1 h2 : MH} {b : MS} {t : MT}
theorem en_whileN {n m : Nat} (I : Nat → MEnv → MH → Prop) (h0 : I m env h) (hn : m < n)
    (step : ∀ m env h, I m env h → ∃ v h1, t env h = .ok v h1 ∧ (v = false → Q (.ok .nx env h1)) ∧ (v = true → Ends (fun o => match o with | .ok .nx env' h' => ∃ k, k < m ∧ I k env' h' | .ok .ct env' h' => ∃ k, k < m ∧ I k env' h' | .ok .bk env' h' => Q (.ok .nx env' h') | o => Q o) (b env h1))) : Ends Q (sWhile t b n env h) := by
  induction n generalizing env h m with
  | zero => omega
  | succ n ih =>
    obtain ⟨v, h1, e1, e2, e3⟩ := step m env h h0
    unfold sWhile Ends
    rw [e1]
    cases v with
    | false => exact e2 rfl
    | true =>
      have st := e3 rfl
      unfold Ends at st
      simp only [Out.andS, if_true]
      cases y : b env h1 with
      | ok f env2 h2 =>
        rw [y] at st
        cases f with
        | nx => obtain ⟨k, k1, k2⟩ := st; exact (ih k2 (by omega)).out
        | ct => obtain ⟨k, k1, k2⟩ := st; exact (ih k2 (by omega)).out
        | bk => exact st
        | rt d => exact st
      | exc _ _ _ _ => rw [y] at st; exact st
      | stuck => rw [y] at st; exact st
end
def repM : MF := runF 3 (sSeq (sIf (mT (m2 (fEq true) (m2 fMod (mF fLen (maC (mV 0) (maN))) (mV 1)) (mC (.int 0)))) (sRet (mC (.bl false))) (sNil)) (sSeq (sFor (iRange2 (maC (mV 1) (maC (mF fLen (maC (mV 0) (maN))) (maN)))) (gNm 2) (sIf (mT (m2 (fEq true) (m2 fIx (mV 0) (mV 2)) (m2 fIx (mV 0) (m2 fSub (mV 2) (mV 1))))) (sRet (mC (.bl false))) (sNil))) (sRet (mC (.bl true)))))
theorem repM_ok {x : MV} {ls : List Int} {p : Nat} {h : MH} (s : SeqV x ls) (hp : 1 ≤ p) (hp2 : p < 1000000) (hl : ls.length < 1000000) : ∃ b, repM [x, .int p] h = .ok (.bl b) h ∧ (b = true ↔ rep ls p) := by
  suffices g : Does (fun v h' => h' = h ∧ ∃ b, v = .bl b ∧ (b = true ↔ rep ls p)) (repM [x, .int p] h) by
    obtain ⟨v, h', e, rfl, b, rfl, q⟩ := g
    exact ⟨b, e, q⟩
  unfold repM
  refine runF_does ?_
  walk_at "nf"
  have e0 := s.len (h := h)
  have e1 : fMod (.int (ls.length : Int)) (.int (p : Int)) h = .ok (.int ((ls.length % p : Nat) : Int)) h := by rw [f_mod (by omega), Int.natCast_emod]
  refine en_seq ?_
  refine' en_if ?e ?_ ?_
  case e => walk_at "ev"
  · intro q
    refine' en_ret ?e ?_
    case e => walk_at "ev"
    refine ⟨_, _, rfl, rfl, false, rfl, ?_⟩
    constructor
    · intro z; cases z
    · intro z
      have := z.1
      rw [this] at q
      simp at q
  · intro q
    refine en_nil ?_
    have q : ls.length % p = 0 := by
      have : ((ls.length % p : Nat) : Int) = 0 := by simpa using q
      omega
    refine en_seq ?_
    refine' en_for ?e ?_
    case e => refine' it_range2 ?i1 ?i2; (case i1 => walk_at "ev"); (case i2 => omega)
    refine en_forL (fun j env hh => hh = h ∧ (∃ o, env = [some x, some (.int p), o]) ∧ ∀ k, p ≤ k → k < p + j → k < ls.length → ls.getD k 0 = ls.getD (k - p) 0) ?_ ?_ ?_
    · exact ⟨rfl, ⟨_, rfl⟩, fun k h1 h2 => by omega⟩
    · rintro j z env hh hx ⟨rfl, ⟨o, rfl⟩, hk⟩
      obtain ⟨rfl, hj⟩ := rangeM_get hx
      show Ends _ (sIf _ _ _ [some x, some (.int p), some (.int ((p : Int) + j))] hh)
      have i1 := s.ix (h := hh) (k := (p : Int) + j) (by omega) (by omega)
      have i2 := s.ix (h := hh) (k := (p : Int) + j - p) (by omega) (by omega)
      have t1 : ((p : Int) + j).toNat = p + j := by omega
      have t2 : ((p : Int) + j - p).toNat = p + j - p := by omega
      rw [t1] at i1
      rw [t2] at i2
      refine' en_if ?e ?_ ?_
      case e => walk_at "ev"
      · intro q2
        refine' en_ret ?e ?_
        case e => walk_at "ev"
        refine ⟨_, _, rfl, rfl, false, rfl, ?_⟩
        constructor
        · intro z; cases z
        · intro z
          have := z.2 (p + j) (by omega) (by omega)
          rw [this, decide_eq_true rfl] at q2
          cases q2
      · intro q2
        refine en_nil ?_
        refine ⟨rfl, ⟨_, rfl⟩, fun k h1 h2 h3 => ?_⟩
        by_cases hz : k < p + j
        · exact hk k h1 hz h3
        · have : k = p + j := by omega
          subst this
          simpa using q2
    · rintro env hh ⟨rfl, ⟨o, rfl⟩, hk⟩
      rw [rangeM_len] at hk
      refine' en_ret ?e ?_
      case e => walk_at "ev"
      refine ⟨_, _, rfl, rfl, true, rfl, ?_⟩
      refine ⟨fun _ => ⟨q, fun k h1 h2 => hk k h1 (by omega) h2⟩, fun _ => rfl⟩
theorem rep_dec (ls : List Int) : ls ≠ [] → ∃ p, 1 ≤ p ∧ p ≤ ls.length ∧ rep ls p := fun h => ⟨ls.length, List.length_pos_iff.mpr h, Nat.le_refl _, rep_self⟩
theorem mod_back {k p s c n r : Nat} (hs : s < p) (hn : n = r + p * c + s) : (r + k + p * (c + 1) - n) % p = (k + (p - s)) % p := by
  subst hn
  rw [Nat.mul_succ]
  congr 1
  omega
/-- the letter behind rest, by the short loop -/
theorem lw_back {hs ls : List Int} {p r s c k : Nat} (hl : ls ≠ []) (R : rep ls p) (P : PerW (lw hs ls) r p) (hs2 : s < p) (hn : hs.length = r + p * c + s) : lw hs ls (r + k) = ls.getD ((k + (p - s)) % p) 0 := by
  rw [← P.mul (c + 1) (r + k) (by omega), lw_rep R hl (by rw [hn, Nat.mul_succ]; omega), mod_back hs2 hn]
def shortM : MF := runF 6 (sSeq (sSet 2 (mC (.int 1))) (sSeq (sWhile (tNotM (mT (mCall 2 repM (maC (mV 1) (maC (mV 2) (maN)))))) (sAug 2 fIpAdd (mC (.int 1))) big) (sSeq (sSet 3 (mF fLen (maC (mV 0) (maN)))) (sSeq (sSet 4 (mC (.int 0))) (sSeq (sWhile (tAndM (mT (m2 fGt (mV 3) (mC (.int 0)))) (mT (m2 (fEq false) (m2 fIx (mV 0) (m2 fSub (mV 3) (mC (.int 1)))) (m2 fIx (mV 1) (m2 fMod (m2 fSub (m2 fSub (mV 2) (mC (.int 1))) (mV 4)) (mV 2)))))) (sSeq (sAug 3 fSub (mC (.int 1))) (sSet 4 (m2 fMod (m2 (fAdd false) (mV 4) (mC (.int 1))) (mV 2)))) big) (sSeq (sSet 1 (mF fTuple (maC (mSl (fSl false) (mV 1) (moN) (moS (mV 2))) (maN)))) (sSeq (sSet 5 (m2 fMod (m2 fSub (mV 2) (mV 4)) (mV 2))) (sRet (mTup (maC (mF fTuple (maC (mSl (fSl false) (mV 0) (moN) (moS (mV 3))) (maN))) (maC (m2 (fAdd false) (mSl (fSl false) (mV 1) (moS (mV 5)) (moN)) (mSl (fSl false) (mV 1) (moN) (moS (mV 5)))) (maN))))))))))))
theorem rot_get {L : List Int} {b i : Nat} (hb : b < L.length) (hi : i < L.length) : (L.drop b ++ L.take b).getD i 0 = L.getD ((b + i) % L.length) 0 := by
  simp only [List.getD]
  by_cases h : i < L.length - b
  · rw [List.getElem?_append_left (by simpa using h), List.getElem?_drop, Nat.mod_eq_of_lt (by omega)]
  · rw [List.getElem?_append_right (by simp; omega), List.length_drop, List.getElem?_take, if_pos (by omega)]
    congr 2
    have : b + i = (i - (L.length - b)) + L.length := by omega
    rw [this, Nat.add_mod_right, Nat.mod_eq_of_lt (by omega)]
/-- what shortest returns -/
structure Short (w : Nat → Int) (v : MV) (N P : Nat) : Prop where
  mk ::
  ex : ∃ n p, NfOf w n p ∧ n ≤ N ∧ p ≤ P ∧ v = lasso (wtake w 0 n) (wtake w n p)
theorem Short.one {w u : Nat → Int} {v v' : MV} {N P N' P' : Nat} (a : Short w v N P) (b : Short u v' N' P') (e : ∀ t, w t = u t) : v = v' := by
  have e' : w = u := funext e
  subst e'
  obtain ⟨n, p, h1, _, _, rfl⟩ := a.ex
  obtain ⟨n', p', h2, _, _, rfl⟩ := b.ex
  obtain ⟨rfl, rfl⟩ := h1.one h2
  rfl
theorem shortM_ok {x y : MV} {hs ls : List Int} {h : MH} (sx : SeqV x hs) (sy : SeqV y ls) (hl : ls ≠ []) (b1 : hs.length < 100000) (b2 : ls.length < 100000) : ∃ v, Short (lw hs ls) v hs.length ls.length ∧ shortM [x, y] h = .ok v h := by
  suffices g : Does (fun v h' => h' = h ∧ Short (lw hs ls) v hs.length ls.length) (shortM [x, y] h) by
    obtain ⟨v, h', e, rfl, q⟩ := g
    exact ⟨v, q, e⟩
  have hl2 : 0 < ls.length := List.length_pos_iff.mpr hl
  unfold shortM
  refine runF_does ?_
  walk_at "nf"
  walk_at "set"
  refine en_seq ?_
  refine en_whileN (m := ls.length - 1) (fun m env hh => hh = h ∧ ∃ p : Nat, env = [some x, some y, some (.int p), none, none, none] ∧ 1 ≤ p ∧ p ≤ ls.length ∧ m = ls.length - p ∧ ∀ q, 1 ≤ q → q < p → ¬ rep ls q) ?_ ?_ ?_
  · exact ⟨rfl, 1, rfl, Nat.le_refl _, hl2, rfl, fun q h1 h2 => by omega⟩
  · show _ < 2 ^ 62
    omega
  · rintro m env hh ⟨rfl, p, rfl, p1, p2, rfl, hq⟩
    obtain ⟨b, rb, hb⟩ := repM_ok (p := p) (h := hh) sy p1 (by omega) (by omega)
    refine ⟨!b, hh, ?_, ?_, ?_⟩
    · walk_at "ev"
    · intro z
      have R : rep ls p := hb.mp (by simpa using z)
      -- the second loop
      clear z hb rb
      have e0 := sx.len (h := hh)
      walk_at "set"
      walk_at "set"
      refine en_seq ?_
      refine en_whileN (m := hs.length) (fun m env h' => h' = hh ∧ ∃ r s c : Nat, env = [some x, some y, some (.int p), some (.int r), some (.int s), none] ∧ m = r ∧ s < p ∧ hs.length = r + p * c + s ∧ PerW (lw hs ls) r p) ?_ ?_ ?_
      · exact ⟨rfl, hs.length, 0, 0, rfl, rfl, p1, by omega, per_of_rep R hl⟩
      · show _ < 2 ^ 62
        omega
      · rintro r env h' ⟨rfl, r2, s, c, rfl, rfl, s1, hn, P⟩
        have hr : r ≤ hs.length := by omega
        -- the end
        have fin : (r = 0 ∨ lw hs ls (r - 1) ≠ lw hs ls (r - 1 + p)) → Ends (fun o => Does (fun v h'' => h'' = h' ∧ Short (lw hs ls) v hs.length ls.length) o.out)
            ((sSeq (sSet 1 (mF fTuple (maC (mSl (fSl false) (mV 1) (moN) (moS (mV 2))) (maN)))) (sSeq (sSet 5 (m2 fMod (m2 fSub (mV 2) (mV 4)) (mV 2))) (sRet (mTup (maC (mF fTuple (maC (mSl (fSl false) (mV 0) (moN) (moS (mV 3))) (maN))) (maC (m2 (fAdd false) (mSl (fSl false) (mV 1) (moS (mV 5)) (moN)) (mSl (fSl false) (mV 1) (moN) (moS (mV 5)))) (maN)))))))
            [some x, some y, some (.int p), some (.int r), some (.int s), none] h') := by
          intro hd
          obtain ⟨y1, t1, f1⟩ := sy.hi (h := h') (k := (p : Int)) (by omega)
          rw [Int.toNat_natCast] at t1
          have f2 := t1.tup (h := h')
          walk_at "set"
          generalize hL : ls.take p = L at *
          have hLl : L.length = p := by rw [← hL, List.length_take]; omega
          have em : ((p : Int) - s) % p = (((p - s) % p : Nat) : Int) := by rw [Int.natCast_emod, Int.ofNat_sub (by omega)]
          have f3 : fMod (.int ((p : Int) - s)) (.int p) h' = .ok (.int (((p - s) % p : Nat) : Int)) h' := by rw [f_mod (by omega), em]
          walk_at "set"
          have hb : (p - s) % p < p := Nat.mod_lt _ p1
          obtain ⟨y2, t2, f4⟩ := sx.hi (h := h') (k := (r : Int)) (by omega)
          rw [Int.toNat_natCast] at t2
          have f5 := t2.tup (h := h')
          have f6 : fSl false (.tup (nums L)) (some (((p - s) % p : Nat) : Int)) none h' = .ok (.tup (nums (L.drop ((p - s) % p)))) h' := by rw [f_slT, cut_lo (by omega), Int.toNat_natCast]
          have f7 : fSl false (.tup (nums L)) none (some (((p - s) % p : Nat) : Int)) h' = .ok (.tup (nums (L.take ((p - s) % p)))) h' := by rw [f_slT, cut_hi (by omega), Int.toNat_natCast]
          have f8 : fAdd false (.tup (nums (L.drop ((p - s) % p)))) (.tup (nums (L.take ((p - s) % p)))) h' = .ok (.tup (nums (L.drop ((p - s) % p) ++ L.take ((p - s) % p)))) h' := by
            rw [f_addT (sz_small (by simp only [List.length_map, List.length_drop, List.length_take]; omega))]
            simp
          refine' en_ret ?e ?_
          case e => walk_at "ev"
          refine ⟨_, _, rfl, rfl, r, p, ⟨p1, P, hd, least_of hl hr hq⟩, hr, p2, ?_⟩
          unfold lasso
          have g1 : hs.take r = wtake (lw hs ls) 0 r := eq_wtake (by rw [List.length_take]; omega) fun i hi => by
            rw [Nat.zero_add, lw_lt (by omega)]
            simp only [List.getD, List.getElem?_take, if_pos hi]
          have g2 : L.drop ((p - s) % p) ++ L.take ((p - s) % p) = wtake (lw hs ls) r p := eq_wtake (by simp; omega) fun i hi => by
            rw [rot_get (by omega) (by omega), lw_back hl R P s1 hn, hLl, ← hL]
            have : ((p - s) % p + i) % p = (i + (p - s)) % p := by rw [Nat.add_comm i, Nat.mod_add_mod]
            rw [this]
            have : (i + (p - s)) % p < p := Nat.mod_lt _ p1
            simp only [List.getD, List.getElem?_take, if_pos this]
          rw [g1, g2]
        by_cases r0 : r = 0
        · subst r0
          refine ⟨false, h', ?_, fun _ => fin (.inl rfl), fun z => by cases z⟩
          have q2 : fGt (.int ((0 : Nat) : Int)) (.int 0) h' = .ok (.bl false) h' := f_ii0
          refine' ev_tandF ?t1
          case t1 => walk_at "ev"
        · have q2 : fGt (.int (r : Int)) (.int 0) h' = .ok (.bl true) h' := by
            have : fGt (.int (r : Int)) (.int 0) h' = .ok (.bl (decide ((r : Int) > 0))) h' := f_ii0
            rw [this]
            congr 2
            rw [decide_eq_true_eq]
            omega
          have i1 := sx.ix (h := h') (k := (r : Int) - 1) (by omega) (by omega)
          have z1 : ((r : Int) - 1).toNat = r - 1 := by omega
          rw [z1, ← lw_lt (ls := ls) (by omega)] at i1
          have em : ((p : Int) - 1 - s) % p = ((p - 1 - s : Nat) : Int) := by
            rw [show (p : Int) - 1 - s = ((p - 1 - s : Nat) : Int) by omega, ← Int.natCast_emod, Nat.mod_eq_of_lt (by omega)]
          have f3 : fMod (.int ((p : Int) - 1 - s)) (.int p) h' = .ok (.int ((p - 1 - s : Nat) : Int)) h' := by rw [f_mod (by omega), em]
          have i2 := sy.ixN (h := h') (k := p - 1 - s) (by omega)
          have z2 : lw hs ls (r - 1 + p) = ls.getD (p - 1 - s) 0 := by
            rw [show r - 1 + p = r + (p - 1) by omega, lw_back hl R P s1 hn]
            congr 1
            rw [show p - 1 + (p - s) = (p - 1 - s) + p by omega, Nat.add_mod_right, Nat.mod_eq_of_lt (by omega)]
          rw [← z2] at i2
          refine ⟨decide (lw hs ls (r - 1) = lw hs ls (r - 1 + p)), h', ?_, ?_, ?_⟩
          · refine' ev_tandT ?t1 ?t2
            case t1 => walk_at "ev"
            case t2 => walk_at "ev"
          · intro z
            exact fin (.inr (by simpa using z))
          · intro z
            have z : lw hs ls (r - 1) = lw hs ls (r - 1 + p) := by simpa using z
            refine en_seq ?_
            have f9 : fSub (.int (r : Int)) (.int 1) h' = .ok (.int ((r - 1 : Nat) : Int)) h' := by
              have : fSub (.int (r : Int)) (.int 1) h' = .ok (.int ((r : Int) - 1)) h' := f_ii0
              rw [this, show (r : Int) - 1 = ((r - 1 : Nat) : Int) by omega]
            refine' en_aug (i := 3) (x := .int r) (by rfl) ?e f9 ?_
            case e => walk_at "ev"
            walk_at "nf"
            have f10 : fMod (.int ((s : Int) + 1)) (.int p) h' = .ok (.int (((s + 1) % p : Nat) : Int)) h' := by rw [f_mod (by omega), Int.natCast_emod]; rfl
            refine' en_set ?e ?_
            case e => walk_at "ev"
            refine ⟨r - 1, by omega, rfl, r - 1, (s + 1) % p, if s + 1 < p then c else c + 1, rfl, rfl, Nat.mod_lt _ p1, ?_, ?_⟩
            · split
              · rename_i h3
                rw [Nat.mod_eq_of_lt h3]
                omega
              · rename_i h3
                have : s + 1 = p := by omega
                rw [this, Nat.mod_self, Nat.mul_succ]
                omega
            · intro t ht
              by_cases ht2 : r ≤ t
              · exact P t ht2
              · have : t = r - 1 := by omega
                rw [this]
                exact z.symm
    · intro z
      have R : ¬ rep ls p := fun r => by
        have := hb.mpr r
        rw [this] at z
        cases z
      have hlt : p < ls.length := by
        rcases Nat.lt_or_eq_of_le p2 with h | h
        · exact h
        · exact absurd (h ▸ rep_self) R
      have f1 : fIpAdd (.int (p : Int)) (.int 1) hh = .ok (.int ((p + 1 : Nat) : Int)) hh := f_ip
      refine' en_aug (i := 2) (x := .int p) (by rfl) ?e f1 ?_
      case e => walk_at "ev"
      refine ⟨ls.length - (p + 1), by omega, rfl, p + 1, rfl, by omega, hlt, rfl, fun q h1 h2 => ?_⟩
      rcases Nat.lt_succ_iff_lt_or_eq.mp h2 with h2 | rfl
      · exact hq q h1 h2
      · exact R
end Mn
/-! ## MnY -/
set_option Elab.async false
set_option linter.all false
set_option maxRecDepth 100000
/-! Mn, part Y: equality of numbers' rows, make_lasso, suffix, and the laws' own words for lassos. -/
namespace Mn
open PySem PySem.Spec PyProof.Rows L2
local macro_rules | `(tactic| walk_at "hp") => `(tactic| first
  | assumption
  | exact set_same (by assumption)
  | exact app_same
  | exact app_old (by assumption))
local macro_rules | `(tactic| walk_at "op") => `(tactic| with_reducible first
  | assumption
  | exact f_add | exact f_ii0 | exact f_ui | exact f_int | exact f_intB | exact f_max | exact f_min | exact f_ip
  | exact f_eqI | exact f_neI
  | exact f_lenT | exact f_lenF | exact f_lenS | exact f_tupT | exact f_tupF | exact f_tupS
  | exact f_lenR (by walk_at "hp") | exact f_tupR (by walk_at "hp")
  | (refine' f_mod ?_; omega)
  | (refine' f_div ?_ ?_ <;> omega)
  | exact f_pow (by decide)
  | exact f_isN1 | exact f_notN1
  | exact f_isN0 (by with_unfolding_all (intro q; cases q))
  | exact f_notN0 (by with_unfolding_all (intro q; cases q))
  | exact f_addT (by walk_at "sz")
  | exact f_slT | exact f_slF | exact f_slR (by walk_at "hp")
  | exact f_rev (by walk_at "hp"))
local macro_rules | `(tactic| walk_at "sz") => `(tactic| (refine sz_small ?_; simp only [List.length_cons, List.length_nil, List.length_append, List.length_map]; omega))
local macro_rules | `(tactic| walk_at "ev") => `(tactic| with_reducible first
  | assumption
  | exact ev_C
  | exact ev_V (by with_unfolding_all rfl)
  | exact ev_N
  | exact ev_oN
  | (refine' ev_2 ?a ?b ?c; (case a => walk_at "ev"); (case b => walk_at "ev"); (case c => walk_at "op"))
  | (refine' ev_1 ?a ?b; (case a => walk_at "ev"); (case b => walk_at "op"))
  | (refine' ev_F ?a ?b; (case a => walk_at "ev"); (case b => walk_at "op"))
  | (refine' ev_Cs ?a ?b; (case a => walk_at "ev"); (case b => walk_at "ev"))
  | (refine' ev_call ?a ?n ?b; (case a => walk_at "ev"); (case n => with_unfolding_all rfl); (case b => walk_at "op"))
  | (refine' ev_T ?a; (case a => walk_at "ev"))
  | (refine' ev_tnot ?a; (case a => walk_at "ev"))
  | (refine' ev_tup ?a ?b; (case a => walk_at "ev"); (case b => walk_at "sz"))
  | (refine' ev_lstF ?a ?b; (case a => walk_at "ev"); (case b => walk_at "sz"))
  | (refine' ev_lstT ?a ?b; (case a => walk_at "ev"); (case b => walk_at "sz"))
  | (refine' ev_oS ?a; (case a => walk_at "ev"))
  | (refine' ev_sl ?a ?b ?c ?d; (case a => walk_at "ev"); (case b => walk_at "ev"); (case c => walk_at "ev"); (case d => walk_at "op"))
  | (refine' ev_not ?a; (case a => walk_at "ev"))
  | (refine' ev_m0 ?a ?b ?c; (case a => walk_at "ev"); (case b => exact tyc_R (by walk_at "hp")); (case c => walk_at "op"))
  | (refine' ev_m ?a ?b ?c ?d; (case a => walk_at "ev"); (case b => exact tyc_R (by walk_at "hp")); (case c => walk_at "ev"); (case d => walk_at "op"))
  | (refine' it_range1 ?a ?b; (case a => walk_at "ev"); (case b => omega))
  | (refine' it_range2 ?a ?b; (case a => walk_at "ev"); (case b => omega))
  | (refine' it_T ?a; (case a => walk_at "ev"))
  | (refine' it_F ?a; (case a => walk_at "ev")))
local macro_rules | `(tactic| walk_at "nf") => `(tactic| (simp (config := { failIfUnchanged := false }) only [List.set_cons_succ, List.set_cons_zero, List.map_cons, List.map_nil, List.length_cons, List.length_nil, List.cons_append, List.nil_append, List.replicate]))
local macro_rules | `(tactic| walk_at "set") => `(tactic| (refine en_seq ?_; refine' en_set ?e ?_; (case e => walk_at "ev"); walk_at "nf"))
local macro_rules | `(tactic| walk_at "expr") => `(tactic| (refine en_seq ?_; refine' en_expr ?e ?_; (case e => walk_at "ev"); walk_at "nf"))
/-! ### data -/
def nd (ns : List Int) : List PyData := ns.map PyData.int
theorem toDL_nums {r : Nat → Option PyData} {ns : List Int} : toDL r (nums ns) = some (nd ns) := by
  induction ns with
  | nil => rfl
  | cons x xs ih =>
    show toDL r (MV.int x :: nums xs) = _
    unfold toDL
    rw [ih]
    rfl
theorem data_T {ns : List Int} {h : MH} : dataOf h (.tup (nums ns)) = some (.tuple (nd ns)) := by unfold dataOf toD; rw [toDL_nums]; rfl
theorem data_F {ns : List Int} {h : MH} : dataOf h (.fl (nums ns)) = some (.list (nd ns)) := by unfold dataOf toD; rw [toDL_nums]; rfl
theorem data_R {ns : List Int} {h : MH} {n : Nat} (e : h[n]? = some (.lst (nums ns))) : dataOf h (.ref n) = some (.list (nd ns)) := by
  unfold dataOf toD rD
  rw [e]
  show (toDL (rD h 3) (nums ns)).map _ = _
  rw [toDL_nums]; rfl
theorem data_lasso {a b : List Int} {h : MH} : dataOf h (lasso a b) = some (.tuple [.tuple (nd a), .tuple (nd b)]) := by
  unfold lasso dataOf toD
  simp only [toDL, toD, toDL_nums, Option.map_some]
theorem eqvAll_nd {a b : List Int} : PyData.eqvAll (nd a) (nd b) = decide (a = b) := by
  induction a generalizing b with
  | nil => cases b <;> simp [nd, PyData.eqvAll]
  | cons x xs ih =>
    cases b with
    | nil => simp [nd, PyData.eqvAll]
    | cons y ys =>
      show PyData.eqvAll (.int x :: nd xs) (.int y :: nd ys) = _
      unfold PyData.eqvAll
      rw [ih]
      unfold PyData.eqv
      by_cases h : x = y
      · subst h; simp
      · simp [h]
theorem shaped_nd {ns : List Int} : (PyData.list (nd ns)).canLay0 = true ∧ (PyData.list (nd ns)).depth ≤ 1 ∧ (PyData.tuple (nd ns)).canLay0 = true ∧ (PyData.tuple (nd ns)).depth ≤ 1 := by
  have h1 : ∀ ns : List Int, PyData.canLayAll0 (nd ns) = true := by
    intro ns
    induction ns with
    | nil => rfl
    | cons x xs ih => show PyData.canLayAll0 (.int x :: nd xs) = true; unfold PyData.canLayAll0; rw [ih]; rfl
  have h2 : ∀ ns : List Int, PyData.depthAll (nd ns) = 0 := by
    intro ns
    induction ns with
    | nil => rfl
    | cons x xs ih => show PyData.depthAll (.int x :: nd xs) = 0; unfold PyData.depthAll; rw [ih]; rfl
  refine ⟨?_, ?_, ?_, ?_⟩
  · unfold PyData.canLay0; exact h1 ns
  · unfold PyData.depth; rw [h2]; exact Nat.le_refl _
  · unfold PyData.canLay0; exact h1 ns
  · unfold PyData.depth; rw [h2]; exact Nat.le_refl _

theorem sh_T {ns : List Int} : SeqAt.shaped (.tuple (nd ns)) = true := by
  obtain ⟨_, _, h1, h2⟩ := @shaped_nd ns
  unfold SeqAt.shaped; rw [h1]; simp; omega
theorem sh_L {ns : List Int} : SeqAt.shaped (.list (nd ns)) = true := by
  obtain ⟨h1, h2, _, _⟩ := @shaped_nd ns
  unfold SeqAt.shaped; rw [h1]; simp; omega
theorem sh_lasso {a b : List Int} : SeqAt.shaped (.tuple [.tuple (nd a), .tuple (nd b)]) = true := by
  obtain ⟨_, _, h1, h2⟩ := @shaped_nd a
  obtain ⟨_, _, h3, h4⟩ := @shaped_nd b
  unfold SeqAt.shaped PyData.canLay0 PyData.depth
  unfold PyData.canLayAll0 PyData.canLayAll0 PyData.canLayAll0 PyData.depthAll PyData.depthAll PyData.depthAll
  rw [h1, h3]
  simp
  omega
section
variable {a b c d : List Int} {h : MH} {x y : MV}
/-- x is a list of these numbers -/
def LsV (h : MH) (x : MV) (ns : List Int) : Prop := x = .fl (nums ns) ∨ ∃ n, x = .ref n ∧ h[n]? = some (.lst (nums ns))
theorem LsV.data (s : LsV h x a) : dataOf h x = some (.list (nd a)) := by
  rcases s with rfl | ⟨n, rfl, e⟩
  · exact data_F
  · exact data_R e
theorem f_eqT : fEq false (.tup (nums a)) (.tup (nums b)) h = .ok (.bl (decide (a = b))) h := by
  rw [f_eqD data_T data_T sh_T sh_T]
  unfold PyData.eqv
  rw [eqvAll_nd]
theorem f_eqL (sx : LsV h x a) (sy : LsV h y b) : fEq false x y h = .ok (.bl (decide (a = b))) h := by
  rw [f_eqD sx.data sy.data sh_L sh_L]
  unfold PyData.eqv
  rw [eqvAll_nd]
theorem f_neL (sx : LsV h x a) (sy : LsV h y b) : fEq true x y h = .ok (.bl (!decide (a = b))) h := by
  rw [f_neD sx.data sy.data sh_L sh_L]
  unfold PyData.eqv
  rw [eqvAll_nd]
theorem eqv_lasso : PyData.eqv (.tuple [.tuple (nd a), .tuple (nd b)]) (.tuple [.tuple (nd c), .tuple (nd d)]) = decide (a = c ∧ b = d) := by
  simp only [PyData.eqv, PyData.eqvAll, eqvAll_nd, Bool.and_true]
  simp
theorem f_eqLa : fEq false (lasso a b) (lasso c d) h = .ok (.bl (decide (a = c ∧ b = d))) h := by rw [f_eqD data_lasso data_lasso sh_lasso sh_lasso, eqv_lasso]
theorem f_neLa : fEq true (lasso a b) (lasso c d) h = .ok (.bl (!decide (a = c ∧ b = d))) h := by rw [f_neD data_lasso data_lasso sh_lasso sh_lasso, eqv_lasso]
/-- any row of these numbers -/
def Sq (h : MH) (x : MV) (ns : List Int) : Prop := seqAt h x = some (nums ns)
theorem SeqV.sq (s : SeqV x a) : Sq h x a := s.seq
theorem LsV.sq (s : LsV h x a) : Sq h x a := by
  rcases s with rfl | ⟨n, rfl, e⟩
  · rfl
  · exact seq_R e
theorem Sq.len (s : Sq h x a) : fLen [x] h = .ok (.int a.length) h := by
  have e : ((nums a).length : Int) = a.length := by simp
  unfold Sq at s
  rw [← e]
  cases x with
  | tup xs => cases s; rfl
  | fl xs => cases s; rfl
  | sl xs => cases s; rfl
  | ref n =>
    unfold seqAt lstAt at s
    simp only at s
    split at s
    · rename_i xs e; cases s; exact f_lenR e
    · cases s
  | _ => cases s
theorem Sq.ix {k : Int} (s : Sq h x a) (h0 : 0 ≤ k) (hk : k < a.length) : fIx x (.int k) h = .ok (.int (a.getD k.toNat 0)) h := f_ix s (atI_z h0 (nums_get (getD_of (by omega))))
theorem Sq.ixN {k : Nat} (s : Sq h x a) (hk : k < a.length) : fIx x (.int k) h = .ok (.int (a.getD k 0)) h := by
  have := s.ix (k := (k : Int)) (by omega) (by omega)
  rwa [Int.toNat_natCast] at this
end
section
variable {hs ls : List Int} {h : MH} {x y : MV}
theorem pr_0 {x y : MV} : fIx (.tup [x, y]) (.int 0) h = .ok x h := rfl
theorem pr_1 {x y : MV} : fIx (.tup [x, y]) (.int 1) h = .ok y h := rfl
theorem pl_0 {x y : MV} : fIx (.fl [x, y]) (.int 0) h = .ok x h := rfl
theorem pl_1 {x y : MV} : fIx (.fl [x, y]) (.int 1) h = .ok y h := rfl
/-- the law's own reading of a pair of rows -/
theorem atM_gen {t : Int} (sx : Sq h x hs) (sy : Sq h y ls) (h0 : 0 ≤ t) (hl : ls ≠ []) : atM [.tup [x, y], .int t] h = .ok (.int (lw hs ls t.toNat)) h := by
  obtain ⟨t, rfl⟩ := Int.eq_ofNat_of_zero_le h0
  have hl2 : 0 < ls.length := List.length_pos_iff.mpr hl
  have e0 := @pr_0 h x y
  have e1 := @pr_1 h x y
  have n0 := sx.len
  have n1 := sy.len
  unfold atM
  refine runF_ends (P := fun o => o = _) ?_
  walk_at "nf"
  refine en_seq ?_
  refine' en_if ?e ?_ ?_
  case e => walk_at "ev"
  · intro q
    rw [decide_eq_true_eq] at q
    have ht : t < hs.length := by omega
    have e2 := sx.ixN ht
    refine' en_ret ?e ?_
    case e => walk_at "ev"
    show Out.ok _ _ = _
    unfold lw
    rw [Int.toNat_natCast, if_pos ht]
  · intro q
    rw [decide_eq_false_iff_not] at q
    have ht : hs.length ≤ t := by omega
    refine en_nil ?_
    have hm : (t - hs.length) % ls.length < ls.length := Nat.mod_lt _ hl2
    have e2 := sy.ixN hm
    have e3 : fMod (.int ((t : Int) - (hs.length : Int))) (.int (ls.length : Int)) h = .ok (.int ((((t - hs.length) % ls.length : Nat)) : Int)) h := by
      rw [f_mod (by omega), lw_mod hl2 ht]
    refine' en_ret ?e ?_
    case e => walk_at "ev"
    show Out.ok _ _ = _
    unfold lw
    rw [Int.toNat_natCast, if_neg (by omega)]
end
def sameM : MF := runF 4 (sSeq (sSet 2 (m2 (fAdd false) (m2 (fAdd false) (mF fMax2 (maC (mF fLen (maC (m2 fIx (mV 0) (mC (.int 0))) (maN))) (maC (mF fLen (maC (m2 fIx (mV 1) (mC (.int 0))) (maN))) (maN)))) (mF fLen (maC (m2 fIx (mV 0) (mC (.int 1))) (maN)))) (mF fLen (maC (m2 fIx (mV 1) (mC (.int 1))) (maN))))) (sSeq (sFor (iRange1 (maC (mV 2) (maN))) (gNm 3) (sIf (mT (m2 (fEq true) (mCall 2 atM (maC (mV 0) (maC (mV 3) (maN)))) (mCall 2 atM (maC (mV 1) (maC (mV 3) (maN)))))) (sRet (mC (.bl false))) (sNil))) (sRet (mC (.bl true)))))
theorem sameM_ok {a b c d : List Int} {x y z w : MV} {h : MH} (sx : Sq h x a) (sy : Sq h y b) (sz : Sq h z c) (sw : Sq h w d) (hb : b ≠ []) (hd : d ≠ []) (hz : dlim a b c d < 100000) (he : ∀ t, lw a b t = lw c d t) : sameM [.tup [x, y], .tup [z, w]] h = .ok (.bl true) h := by
  unfold sameM
  refine runF_ends (P := fun o => o = _) ?_
  walk_at "nf"
  have e0 := @pr_0 h x y
  have e1 := @pr_1 h x y
  have e2 := @pr_0 h z w
  have e3 := @pr_1 h z w
  have n0 := sx.len
  have n1 := sy.len
  have n2 := sz.len
  have n3 := sw.len
  walk_at "set"
  have hN : (if (c.length : Int) > (a.length : Int) then (c.length : Int) else (a.length : Int)) + (b.length : Int) + (d.length : Int) = (dlim a b c d : Nat) := by
    unfold dlim
    split <;> omega
  rw [hN]
  refine en_seq ?_
  refine' en_for ?e ?_
  case e => refine' it_range1 ?a ?b; (case a => walk_at "ev"); (case b => omega)
  refine en_forL (fun j env hh => hh = h ∧ ∃ o, env = [some (.tup [x, y]), some (.tup [z, w]), some (.int (dlim a b c d : Nat)), o]) ?_ ?_ ?_
  · exact ⟨rfl, _, rfl⟩
  · rintro j v env hh hx ⟨rfl, o, rfl⟩
    obtain ⟨rfl, hj⟩ := rangeM_get hx
    show Ends _ (sIf _ _ _ [some (.tup [x, y]), some (.tup [z, w]), some (.int (dlim a b c d : Nat)), some (.int (0 + j))] hh)
    have l1 := atM_gen (t := 0 + (j : Int)) sx sy (by omega) hb
    have l2 := atM_gen (t := 0 + (j : Int)) sz sw (by omega) hd
    rw [he] at l1
    refine' en_if ?e ?_ ?_
    case e => walk_at "ev"
    · intro q
      rw [decide_eq_true rfl] at q
      cases q
    · intro q
      exact en_nil ⟨rfl, _, rfl⟩
  · rintro env hh ⟨rfl, o, rfl⟩
    refine' en_ret ?e ?_
    case e => walk_at "ev"
    rfl
/-! ### integers, normal, is_lasso -/
def intsM : MF := runF 4 (sSeq (sIf (tNotM (mT (m1 (fIsi "tuple") (mV 0)))) (sRet (mC (.bl false))) (sNil)) (sSeq (sFor (iSeq (mV 0)) (gNm 3) (sIf (tOrM (tNotM (mT (mCall 1 isintM (maC (mV 3) (maN))))) (tOrM (mT (m2 fLt (mV 3) (mV 1))) (mT (m2 fGe (mV 3) (mV 2))))) (sRet (mC (.bl false))) (sNil))) (sRet (mC (.bl true)))))
theorem intsM_ok {ns : List Int} {lo hi : Int} {h : MH} (hz : ∀ x ∈ ns, lo ≤ x ∧ x < hi) : intsM [.tup (nums ns), .int lo, .int hi] h = .ok (.bl true) h := by
  unfold intsM
  refine runF_ends (P := fun o => o = _) ?_
  walk_at "nf"
  have e0 : fIsi "tuple" (.tup (nums ns)) h = .ok (.bl true) h := f_isi (A := "tuple") rfl rfl
  refine en_seq ?_
  refine' en_if ?e ?_ ?_
  case e => walk_at "ev"
  · intro q; cases q
  intro _
  refine en_nil ?_
  refine en_seq ?_
  refine' en_for ?e ?_
  case e => walk_at "ev"
  refine en_forL (fun j env hh => hh = h ∧ ∃ o, env = [some (.tup (nums ns)), some (.int lo), some (.int hi), o]) ⟨rfl, _, rfl⟩ ?_ ?_
  · rintro j v env hh hx ⟨rfl, o, rfl⟩
    obtain ⟨x, hx2, rfl⟩ := List.mem_map.mp (List.mem_of_getElem? hx)
    obtain ⟨h1, h2⟩ := hz x hx2
    show Ends _ (sIf _ _ _ [some (.tup (nums ns)), some (.int lo), some (.int hi), some (.int x)] hh)
    have i1 := @isintM_ok x hh
    have i2 : fLt (.int x) (.int lo) hh = .ok (.bl false) hh := by
      have : fLt (.int x) (.int lo) hh = .ok (.bl (decide (x < lo))) hh := f_ii0
      rw [this, decide_eq_false (by omega)]
    have i3 : fGe (.int x) (.int hi) hh = .ok (.bl false) hh := by
      have : fGe (.int x) (.int hi) hh = .ok (.bl (decide (x ≥ hi))) hh := f_ii0
      rw [this, decide_eq_false (by omega)]
    refine' en_if ?e ?_ ?_
    case e =>
      refine' ev_torF ?t1 ?t2
      case t1 => exact ev_tnot (v := true) (by walk_at "ev")
      case t2 =>
        refine' ev_torF ?t3 ?t4
        case t3 => walk_at "ev"
        case t4 => walk_at "ev"
    · intro q; cases q
    · intro q
      exact en_nil ⟨rfl, _, rfl⟩
  · rintro env hh ⟨rfl, o, rfl⟩
    refine' en_ret ?e ?_
    case e => walk_at "ev"
    rfl
def normM : MF := runF 4 (sSeq (sSet 1 (m2 fIx (mV 0) (mC (.int 0)))) (sSeq (sSet 2 (m2 fIx (mV 0) (mC (.int 1)))) (sSeq (sIf (tAndM (mT (m2 fGt (mF fLen (maC (mV 1) (maN))) (mC (.int 0)))) (mT (m2 (fEq false) (m2 fIx (mV 1) (m1 fNeg (mC (.int 1)))) (m2 fIx (mV 2) (m1 fNeg (mC (.int 1))))))) (sRet (mC (.bl false))) (sNil)) (sSeq (sFor (iRange2 (maC (mC (.int 1)) (maC (mF fLen (maC (mV 2) (maN))) (maN)))) (gNm 3) (sIf (tAndM (mT (m2 (fEq false) (m2 fMod (mF fLen (maC (mV 2) (maN))) (mV 3)) (mC (.int 0)))) (mT (m2 (fEq false) (mV 2) (m2 (fMul false) (mSl (fSl false) (mV 2) (moN) (moS (mV 3))) (m2 fDiv (mF fLen (maC (mV 2) (maN))) (mV 3)))))) (sRet (mC (.bl false))) (sNil))) (sRet (mC (.bl true)))))))
theorem ix_last {ns : List Int} {h : MH} (hl : 0 < ns.length) : fIx (.tup (nums ns)) (.int (-1)) h = .ok (.int (ns.getD (ns.length - 1) 0)) h := by
  refine f_ix seq_T ?_
  unfold atI ixN
  rw [if_neg (by omega)]
  have e : ((nums ns).length : Int) = ns.length := by simp
  rw [if_pos (by omega)]
  have : (-1 + ((nums ns).length : Int)).toNat = ns.length - 1 := by omega
  simp only [this]
  exact nums_get (getD_of (by omega))
theorem fgt0 {n : Nat} {h : MH} : fGt (.int (n : Int)) (.int 0) h = .ok (.bl (decide (0 < n))) h := by
  have : fGt (.int (n : Int)) (.int 0) h = .ok (.bl (decide ((n : Int) > 0))) h := f_ii0
  rw [this]
  congr 2
  exact decide_eq_decide.mpr ⟨fun h => by omega, fun h => by omega⟩
theorem flat_nums {k : Nat} {ns : List Int} : (List.replicate k (nums ns)).flatten = nums (List.replicate k ns).flatten := by
  induction k with
  | zero => rfl
  | succ k ih => rw [List.replicate_succ, List.replicate_succ, List.flatten_cons, List.flatten_cons, ih]; simp
theorem rep_get {k : Nat} {ns : List Int} : ∀ i, i < k * ns.length → (List.replicate k ns).flatten.getD i 0 = ns.getD (i % ns.length) 0 := by
  induction k with
  | zero => intro i h; omega
  | succ k ih =>
    intro i h
    rw [List.replicate_succ, List.flatten_cons]
    simp only [List.getD]
    rw [Nat.succ_mul] at h
    by_cases c : i < ns.length
    · rw [List.getElem?_append_left c, Nat.mod_eq_of_lt c]
    · rw [List.getElem?_append_right (by omega)]
      have := ih (i - ns.length) (by omega)
      simp only [List.getD] at this
      rw [this]
      congr 2
      conv => rhs; rw [show i = (i - ns.length) + ns.length by omega, Nat.add_mod_right]
theorem normM_ok {w : Nat → Int} {n p : Nat} {h : MH} (N : NfOf w n p) (hp : p ≤ 1000) : normM [lasso (wtake w 0 n) (wtake w n p)] h = .ok (.bl true) h := by
  have hp1 := N.pos
  unfold normM
  refine runF_ends (P := fun o => o = _) ?_
  walk_at "nf"
  have e0 := @la_0 (wtake w 0 n) (wtake w n p) h
  have e1 := @la_1 (wtake w 0 n) (wtake w n p) h
  walk_at "set"
  walk_at "set"
  have n0 := SeqV.len (h := h) (SeqV.T (ns := wtake w 0 n))
  have n1 := SeqV.len (h := h) (SeqV.T (ns := wtake w n p))
  rw [wtake_len] at n0 n1
  have g0 := fgt0 (n := n) (h := h)
  have neg : fNeg (.int 1) h = .ok (.int (-1)) h := rfl
  have rest : Ends (fun o => o.out = .ok (.bl true) h) ((sSeq (sFor (iRange2 (maC (mC (.int 1)) (maC (mF fLen (maC (mV 2) (maN))) (maN)))) (gNm 3) (sIf (tAndM (mT (m2 (fEq false) (m2 fMod (mF fLen (maC (mV 2) (maN))) (mV 3)) (mC (.int 0)))) (mT (m2 (fEq false) (mV 2) (m2 (fMul false) (mSl (fSl false) (mV 2) (moN) (moS (mV 3))) (m2 fDiv (mF fLen (maC (mV 2) (maN))) (mV 3)))))) (sRet (mC (.bl false))) (sNil))) (sRet (mC (.bl true))))
      [some (lasso (wtake w 0 n) (wtake w n p)), some (.tup (nums (wtake w 0 n))), some (.tup (nums (wtake w n p))), none] h) := by
    refine en_seq ?_
    refine' en_for ?e ?_
    case e => walk_at "ev"
    refine en_forL (fun j env hh => hh = h ∧ ∃ o, env = [some (lasso (wtake w 0 n) (wtake w n p)), some (.tup (nums (wtake w 0 n))), some (.tup (nums (wtake w n p))), o]) ⟨rfl, _, rfl⟩ ?_ ?_
    · rintro j v env hh hx ⟨rfl, o, rfl⟩
      obtain ⟨rfl, hj⟩ := rangeM_get hx
      show Ends _ (sIf _ _ _ [some (lasso (wtake w 0 n) (wtake w n p)), some (.tup (nums (wtake w 0 n))), some (.tup (nums (wtake w n p))), some (.int (1 + j))] hh)
      have hq : ((1 : Int) + j) = ((1 + j : Nat) : Int) := by omega
      rw [hq]
      have hjp : 1 + j < p := by omega
      generalize 1 + j = q at hjp hq
      have hq1 : 1 ≤ q := by omega
      have f1 : fMod (.int (p : Int)) (.int (q : Int)) hh = .ok (.int ((p % q : Nat) : Int)) hh := by rw [f_mod (by omega), Int.natCast_emod]
      have f2 : fEq false (.int ((p % q : Nat) : Int)) (.int 0) hh = .ok (.bl (decide (p % q = 0))) hh := by
        rw [f_eqI]
        congr 2
        exact decide_eq_decide.mpr ⟨fun h => by omega, fun h => by omega⟩
      by_cases hm : p % q = 0
      · rw [decide_eq_true hm] at f2
        have f3 : fDiv (.int (p : Int)) (.int (q : Int)) hh = .ok (.int ((p / q : Nat) : Int)) hh := by rw [f_div (by omega) (by omega), Int.natCast_ediv]
        have hD := Nat.div_add_mod p q
        have h3 : p / q ≤ p := Nat.div_le_self _ _
        generalize p / q = d at f3 hD h3
        rw [hm, Nat.add_zero] at hD
        have f4 : fSl false (.tup (nums (wtake w n p))) none (some (q : Int)) hh = .ok (.tup (nums ((wtake w n p).take q))) hh := by rw [f_slT, cut_hi (by omega), Int.toNat_natCast]
        have hd : p = q * d := hD.symm
        have h2 : 2 ≤ d := by
          rcases Nat.lt_or_ge (d) 2 with c | c
          · have : d = 0 ∨ d = 1 := by omega
            rcases this with c | c <;> rw [c] at hd <;> omega
          · exact c
        have ht : ((wtake w n p).take q).length = q := by rw [List.length_take, wtake_len]; omega
        have f5 : fMul false (.tup (nums ((wtake w n p).take q))) (.int ((d : Nat) : Int)) hh = .ok (.tup (nums (List.replicate (d) ((wtake w n p).take q)).flatten)) hh := by
          have hl : (nums ((wtake w n p).take q)).length = q := by rw [List.length_map, ht]
          have hc : nums ((wtake w n p).take q) ≠ [] ∧ (2 : Int) ≤ ((d : Nat) : Int) ∧ ((d : Nat) : Int) ≤ 1000 ∧ (nums ((wtake w n p).take q)).length ≤ 1000 := by
            refine ⟨?_, by omega, by omega, by omega⟩
            intro z
            rw [z, List.length_nil] at hl
            omega
          have hm2 : fMul false (.tup (nums ((wtake w n p).take q))) (.int ((d : Nat) : Int)) hh = if nums ((wtake w n p).take q) ≠ [] ∧ (2 : Int) ≤ ((d : Nat) : Int) ∧ ((d : Nat) : Int) ≤ 1000 ∧ (nums ((wtake w n p).take q)).length ≤ 1000 then .ok (.tup (List.replicate (((d : Nat) : Int)).toNat (nums ((wtake w n p).take q))).flatten) hh else .stuck := rfl
          rw [hm2, if_pos hc, Int.toNat_natCast, flat_nums]
        have f6 : fEq false (.tup (nums (wtake w n p))) (.tup (nums (List.replicate (d) ((wtake w n p).take q)).flatten)) hh = .ok (.bl false) hh := by
          rw [f_eqT, decide_eq_false]
          intro z
          refine N.least q hq1 hjp ?_
          have hrep : rep (wtake w n p) q := by
            refine ⟨by rw [wtake_len]; exact hm, fun k k1 k2 => ?_⟩
            rw [wtake_len] at k2
            have hk : ∀ k, k < p → (wtake w n p).getD k 0 = ((wtake w n p).take q).getD (k % q) 0 := by
              intro k hk
              have e2 := rep_get (k := d) (ns := (wtake w n p).take q) k (by rw [ht, Nat.mul_comm, ← hd]; exact hk)
              rw [ht, ← z] at e2
              exact e2
            rw [hk k k2, hk (k - q) (by omega)]
            congr 1
            conv => lhs; rw [show k = (k - q) + q by omega, Nat.add_mod_right]
          have hne : wtake w n p ≠ [] := by
            intro z
            have := congrArg List.length z
            rw [wtake_len, List.length_nil] at this
            omega
          have pr := per_of_rep (hs := wtake w 0 n) hrep hne
          rw [wtake_len] at pr
          intro t ht
          have := pr t ht
          rwa [lw_wtake N.per hp1, lw_wtake N.per hp1] at this
        refine' en_if (v := false) ?e ?_ ?_
        case e =>
          refine' ev_tandT ?t1 ?t2
          case t1 => walk_at "ev"
          case t2 => walk_at "ev"
        · intro q; cases q
        · intro q
          exact en_nil ⟨rfl, _, rfl⟩
      · rw [decide_eq_false hm] at f2
        refine' en_if (v := false) ?e ?_ ?_
        case e =>
          refine' ev_tandF ?t1
          case t1 => walk_at "ev"
        · intro q; cases q
        · intro q
          exact en_nil ⟨rfl, _, rfl⟩
    · rintro env hh ⟨rfl, o, rfl⟩
      refine' en_ret ?e ?_
      case e => walk_at "ev"
      rfl
  refine en_seq ?_
  by_cases hn : n = 0
  · subst hn
    rw [decide_eq_false (by omega)] at g0
    refine' en_if (v := false) ?e ?_ ?_
    case e =>
      refine' ev_tandF ?t1
      case t1 => walk_at "ev"
    · intro q; cases q
    · intro q
      exact en_nil rest
  · rw [decide_eq_true (by omega)] at g0
    have l0 := ix_last (ns := wtake w 0 n) (h := h) (by rw [wtake_len]; omega)
    have l1 := ix_last (ns := wtake w n p) (h := h) (by rw [wtake_len]; omega)
    rw [wtake_len, wtake_get (by omega)] at l0 l1
    rw [Nat.zero_add] at l0
    have g1 : fEq false (.int (w (n - 1))) (.int (w (n + (p - 1)))) h = .ok (.bl false) h := by
      rw [f_eqI, decide_eq_false]
      rcases N.hd with z | z
      · omega
      · rwa [show n + (p - 1) = n - 1 + p by omega]
    refine' en_if (v := false) ?e ?_ ?_
    case e =>
      refine' ev_tandT ?t1 ?t2
      case t1 => walk_at "ev"
      case t2 => walk_at "ev"
    · intro q; cases q
    · intro q
      exact en_nil rest
def isLaM : MF := runF 2 (sSeq (sIf (tOrM (tNotM (mT (m1 (fIsi "tuple") (mV 0)))) (mT (m2 (fEq true) (mF fLen (maC (mV 0) (maN))) (mC (.int 2))))) (sRet (mC (.bl false))) (sNil)) (sSeq (sIf (tOrM (tNotM (mT (mCall 3 intsM (maC (m2 fIx (mV 0) (mC (.int 0))) (maC (mC (.int 0)) (maC (mV 1) (maN))))))) (tNotM (mT (mCall 3 intsM (maC (m2 fIx (mV 0) (mC (.int 1))) (maC (mC (.int 0)) (maC (mV 1) (maN)))))))) (sRet (mC (.bl false))) (sNil)) (sRet (mAnd (m2 fGt (mF fLen (maC (m2 fIx (mV 0) (mC (.int 1))) (maN))) (mC (.int 0))) (mCall 1 normM (maC (mV 0) (maN)))))))
theorem isLaM_ok {w : Nat → Int} {v : MV} {N P : Nat} {K : Int} {h : MH} (S : Short w v N P) (hP : P ≤ 1000) (hw : ∀ t, 0 ≤ w t ∧ w t < K) : isLaM [v, .int K] h = .ok (.bl true) h := by
  obtain ⟨n, p, nf, h1, h2, rfl⟩ := S.ex
  have hp1 := nf.pos
  unfold isLaM
  refine runF_ends (P := fun o => o = _) ?_
  walk_at "nf"
  have e0 := @la_0 (wtake w 0 n) (wtake w n p) h
  have e1 := @la_1 (wtake w 0 n) (wtake w n p) h
  have t0 : fIsi "tuple" (lasso (wtake w 0 n) (wtake w n p)) h = .ok (.bl true) h := f_isi (A := "tuple") rfl rfl
  have t1 : fLen [lasso (wtake w 0 n) (wtake w n p)] h = .ok (.int 2) h := rfl
  have t2 : fEq true (.int 2) (.int 2) h = .ok (.bl false) h := by rw [f_neI]; rfl
  refine en_seq ?_
  refine' en_if (v := false) ?e ?_ ?_
  case e =>
    refine' ev_torF ?t1 ?t2
    case t1 => exact ev_tnot (v := true) (by walk_at "ev")
    case t2 => walk_at "ev"
  · intro q; cases q
  intro _
  refine en_nil ?_
  have i0 := intsM_ok (ns := wtake w 0 n) (lo := 0) (hi := K) (h := h) (fun x hx => by obtain ⟨i, _, rfl⟩ := wtake_mem hx; exact hw _)
  have i1 := intsM_ok (ns := wtake w n p) (lo := 0) (hi := K) (h := h) (fun x hx => by obtain ⟨i, _, rfl⟩ := wtake_mem hx; exact hw _)
  refine en_seq ?_
  refine' en_if (v := false) ?e ?_ ?_
  case e =>
    refine' ev_torF ?t1 ?t2
    case t1 => exact ev_tnot (v := true) (by walk_at "ev")
    case t2 => exact ev_tnot (v := true) (by walk_at "ev")
  · intro q; cases q
  intro _
  refine en_nil ?_
  have n1 := SeqV.len (h := h) (SeqV.T (ns := wtake w n p))
  rw [wtake_len] at n1
  have g0 := fgt0 (n := p) (h := h)
  rw [decide_eq_true (by omega)] at g0
  have nn := normM_ok (h := h) nf (by omega)
  refine' en_ret ?e ?_
  case e => refine' ev_and (v := true) (w := true) ?t1 (fun _ => ?t2) (fun q => by cases q); (case t1 => walk_at "ev"); (case t2 => walk_at "ev")
  rfl
end Mn
/-! ## MnZ -/
set_option Elab.async false
set_option linter.all false
set_option maxRecDepth 100000
/-! Mn, part Z: make_lasso, letter_at, suffix. -/
namespace Mn
open PySem PySem.Spec PyProof.Rows L2
local macro_rules | `(tactic| walk_at "hp") => `(tactic| first
  | assumption
  | exact set_same (by assumption)
  | exact app_same
  | exact app_old (by assumption))
local macro_rules | `(tactic| walk_at "op") => `(tactic| with_reducible first
  | assumption
  | exact f_add | exact f_ii0 | exact f_ui | exact f_int | exact f_intB | exact f_max | exact f_min | exact f_ip
  | exact f_eqI | exact f_neI
  | exact f_lenT | exact f_lenF | exact f_lenS | exact f_tupT | exact f_tupF | exact f_tupS
  | exact f_lenR (by walk_at "hp") | exact f_tupR (by walk_at "hp")
  | (refine' f_mod ?_; omega)
  | (refine' f_div ?_ ?_ <;> omega)
  | exact f_pow (by decide)
  | exact f_isN1 | exact f_notN1
  | exact f_isN0 (by with_unfolding_all (intro q; cases q))
  | exact f_notN0 (by with_unfolding_all (intro q; cases q))
  | exact f_addT (by walk_at "sz")
  | exact f_slT | exact f_slF | exact f_slR (by walk_at "hp")
  | exact f_rev (by walk_at "hp"))
local macro_rules | `(tactic| walk_at "sz") => `(tactic| (refine sz_small ?_; simp only [List.length_cons, List.length_nil, List.length_append, List.length_map]; omega))
local macro_rules | `(tactic| walk_at "ev") => `(tactic| with_reducible first
  | assumption
  | exact ev_C
  | exact ev_V (by with_unfolding_all rfl)
  | exact ev_N
  | exact ev_oN
  | (refine' ev_2 ?a ?b ?c; (case a => walk_at "ev"); (case b => walk_at "ev"); (case c => walk_at "op"))
  | (refine' ev_1 ?a ?b; (case a => walk_at "ev"); (case b => walk_at "op"))
  | (refine' ev_F ?a ?b; (case a => walk_at "ev"); (case b => walk_at "op"))
  | (refine' ev_Cs ?a ?b; (case a => walk_at "ev"); (case b => walk_at "ev"))
  | (refine' ev_call ?a ?n ?b; (case a => walk_at "ev"); (case n => with_unfolding_all rfl); (case b => walk_at "op"))
  | (refine' ev_T ?a; (case a => walk_at "ev"))
  | (refine' ev_tnot ?a; (case a => walk_at "ev"))
  | (refine' ev_tup ?a ?b; (case a => walk_at "ev"); (case b => walk_at "sz"))
  | (refine' ev_lstF ?a ?b; (case a => walk_at "ev"); (case b => walk_at "sz"))
  | (refine' ev_lstT ?a ?b; (case a => walk_at "ev"); (case b => walk_at "sz"))
  | (refine' ev_oS ?a; (case a => walk_at "ev"))
  | (refine' ev_sl ?a ?b ?c ?d; (case a => walk_at "ev"); (case b => walk_at "ev"); (case c => walk_at "ev"); (case d => walk_at "op"))
  | (refine' ev_not ?a; (case a => walk_at "ev"))
  | (refine' ev_m0 ?a ?b ?c; (case a => walk_at "ev"); (case b => exact tyc_R (by walk_at "hp")); (case c => walk_at "op"))
  | (refine' ev_m ?a ?b ?c ?d; (case a => walk_at "ev"); (case b => exact tyc_R (by walk_at "hp")); (case c => walk_at "ev"); (case d => walk_at "op"))
  | (refine' it_range1 ?a ?b; (case a => walk_at "ev"); (case b => omega))
  | (refine' it_range2 ?a ?b; (case a => walk_at "ev"); (case b => omega))
  | (refine' it_T ?a; (case a => walk_at "ev"))
  | (refine' it_F ?a; (case a => walk_at "ev")))
local macro_rules | `(tactic| walk_at "nf") => `(tactic| (simp (config := { failIfUnchanged := false }) only [List.set_cons_succ, List.set_cons_zero, List.map_cons, List.map_nil, List.length_cons, List.length_nil, List.cons_append, List.nil_append, List.replicate]))
local macro_rules | `(tactic| walk_at "set") => `(tactic| (refine en_seq ?_; refine' en_set ?e ?_; (case e => walk_at "ev"); walk_at "nf"))
local macro_rules | `(tactic| walk_at "expr") => `(tactic| (refine en_seq ?_; refine' en_expr ?e ?_; (case e => walk_at "ev"); walk_at "nf"))
theorem f_addF {xs ys : List MV} {h : MH} (hz : xs.length + ys.length ≤ 16777216) : fAdd false (.fl xs) (.fl ys) h = .ok (.fl (xs ++ ys)) h := by
  unfold fAdd
  simp only [wlst]
  rw [if_pos (sz_small hz)]
  rfl
theorem Sq.list {x : MV} {ns : List Int} {h : MH} (s : Sq h x ns) : fList false [x] h = .ok (.fl (nums ns)) h := f_listF s
/-! what a call that raises leaves -/
section
variable {env : MEnv} {h h1 : MH} {ms : MA} {xs ys : List MV} {C : Str} {Q : OutS → Prop} {e : ME}
theorem ev_callX {f : MF} {n : Nat} (ha : ms env h = .ok xs h1) (hn : xs.length = n) (hf : f xs h1 = .exc C ys h1) : mCall n f ms env h = .exc C ys h1 := by unfold mCall; rw [ha]; show (if xs.length = n then _ else _) = _; rw [if_pos hn]; exact hf
end
def makeM : MF := runF 3 (sSeq (sIf (mT (m2 (fEq false) (mF fLen (maC (mV 1) (maN))) (mC (.int 0)))) (sRaise "EmptyLoop") (sNil)) (sSeq (sFor (iSeq (m2 (fAdd false) (mF (fList false) (maC (mV 0) (maN))) (mF (fList false) (maC (mV 1) (maN))))) (gNm 2) (sIf (mT (m2 fLt (mV 2) (mC (.int 0)))) (sRaise "InvalidLetter") (sNil))) (sRet (mCall 2 shortM (maC (mV 0) (maC (mV 1) (maN)))))))
theorem feq0 {n : Nat} {h : MH} : fEq false (.int (n : Int)) (.int 0) h = .ok (.bl (decide (n = 0))) h := by
  rw [f_eqI]
  congr 2
  exact decide_eq_decide.mpr ⟨fun h => by omega, fun h => by omega⟩
/-- what make_lasso answers -/
def MakeR (hs ls : List Int) (h : MH) (o : Out MV) : Prop :=
  (ls = [] ∧ o = .exc "EmptyLoop" [] h) ∨ (ls ≠ [] ∧ (∃ x, x ∈ hs ++ ls ∧ x < 0) ∧ o = .exc "InvalidLetter" [] h) ∨ (ls ≠ [] ∧ (∀ x ∈ hs ++ ls, 0 ≤ x) ∧ ∃ v, Short (lw hs ls) v hs.length ls.length ∧ o = .ok v h)
theorem makeM_ok {x y : MV} {hs ls : List Int} {h : MH} (sx : SeqV x hs) (sy : SeqV y ls) (b1 : hs.length < 100000) (b2 : ls.length < 100000) : MakeR hs ls h (makeM [x, y] h) := by
  unfold makeM
  refine runF_ends (P := MakeR hs ls h) ?_
  walk_at "nf"
  have n1 := sy.len (h := h)
  have q1 := feq0 (n := ls.length) (h := h)
  refine en_seq ?_
  refine' en_if ?e ?_ ?_
  case e => walk_at "ev"
  · intro q
    have hl : ls = [] := List.length_eq_zero_iff.mp (by simpa using q)
    exact en_raise (.inl ⟨hl, rfl⟩)
  · intro q
    refine en_nil ?_
    have hl : ls ≠ [] := by intro z; subst z; simp at q
    refine en_seq ?_
    have l1 := sx.sq.list (h := h)
    have l2 := sy.sq.list (h := h)
    have a1 : fAdd false (.fl (nums hs)) (.fl (nums ls)) h = .ok (.fl (nums (hs ++ ls))) h := by
      rw [f_addF (by simp only [List.length_map]; omega)]; simp
    refine' en_for ?e ?_
    case e => walk_at "ev"
    refine en_forL (fun j env hh => hh = h ∧ (∃ o, env = [some x, some y, o]) ∧ ∀ k v, k < j → (hs ++ ls)[k]? = some v → 0 ≤ v) ?_ ?_ ?_
    · exact ⟨rfl, ⟨_, rfl⟩, fun k v hk => by omega⟩
    · rintro j v env hh hx ⟨rfl, ⟨o, rfl⟩, hk⟩
      rw [List.getElem?_map] at hx
      obtain ⟨w, hw, rfl⟩ := Option.map_eq_some_iff.mp hx
      show Ends _ (sIf _ _ _ [some x, some y, some (.int w)] hh)
      refine' en_if ?e ?_ ?_
      case e => walk_at "ev"
      · intro q2
        exact en_raise (.inr (.inl ⟨hl, ⟨w, List.mem_of_getElem? hw, by simpa using q2⟩, rfl⟩))
      · intro q2
        refine en_nil ⟨rfl, ⟨_, rfl⟩, fun k v h1 h2 => ?_⟩
        rcases Nat.lt_succ_iff_lt_or_eq.mp h1 with h1 | rfl
        · exact hk k v h1 h2
        · rw [hw] at h2
          cases h2
          simpa using q2
    · rintro env hh ⟨rfl, ⟨o, rfl⟩, hk⟩
      obtain ⟨v, S, e⟩ := shortM_ok (h := hh) sx sy hl b1 b2
      refine' en_ret ?e ?_
      case e => walk_at "ev"
      refine .inr (.inr ⟨hl, fun z hz => ?_, v, S, rfl⟩)
      obtain ⟨k, e2⟩ := List.getElem?_of_mem hz
      refine hk k z ?_ e2
      have := (List.getElem?_eq_some_iff.mp e2).1
      simpa using this
theorem MakeR.ok {hs ls : List Int} {h : MH} {o : Out MV} (m : MakeR hs ls h o) (hl : ls ≠ []) (hp : ∀ x ∈ hs ++ ls, 0 ≤ x) : ∃ v, Short (lw hs ls) v hs.length ls.length ∧ o = .ok v h := by
  rcases m with ⟨e, _⟩ | ⟨_, ⟨x, h1, h2⟩, _⟩ | ⟨_, _, r⟩
  · exact absurd e hl
  · have := hp x h1; omega
  · exact r
def latM : MF := runF 2 (sSeq (sIf (mT (m2 fLt (mV 1) (mC (.int 0)))) (sRaise "InvalidTurn") (sNil)) (sRet (mCall 2 letterM (maC (mV 0) (maC (mV 1) (maN))))))
theorem latM_ok {hs ls : List Int} {t : Int} {h : MH} (h0 : 0 ≤ t) (hl : ls ≠ []) : latM [lasso hs ls, .int t] h = .ok (.int (lw hs ls t.toNat)) h := by
  unfold latM
  refine runF_ends (P := fun o => o = _) ?_
  walk_at "nf"
  have l1 := letterM_ok (hs := hs) (h := h) h0 hl
  refine en_seq ?_
  refine' en_if ?e ?_ ?_
  case e => walk_at "ev"
  · intro q
    have : t < 0 := by simpa using q
    omega
  · intro q
    refine en_nil ?_
    refine' en_ret ?e ?_
    case e => walk_at "ev"
    rfl
theorem latM_neg {x : MV} {t : Int} {h : MH} (h0 : t < 0) : latM [x, .int t] h = .exc "InvalidTurn" [] h := by
  unfold latM
  refine runF_ends (P := fun o => o = _) ?_
  walk_at "nf"
  refine en_seq ?_
  refine' en_if ?e ?_ ?_
  case e => walk_at "ev"
  · intro q
    exact en_raise rfl
  · intro q
    have : ¬ t < 0 := by simpa using q
    omega
def sufM : MF := runF 5 (sSeq (sIf (mT (m2 fLt (mV 1) (mC (.int 0)))) (sRaise "InvalidTurn") (sNil)) (sSeq (sAsg (mV 0) (gTup [gNm 2, gNm 3])) (sSeq (sIf (mT (m2 fLe (mV 1) (mF fLen (maC (mV 2) (maN))))) (sRet (mCall 2 shortM (maC (mSl (fSl false) (mV 2) (moS (mV 1)) (moN)) (maC (mV 3) (maN))))) (sNil)) (sSeq (sSet 4 (m2 fMod (m2 fSub (mV 1) (mF fLen (maC (mV 2) (maN)))) (mF fLen (maC (mV 3) (maN))))) (sRet (mCall 2 shortM (maC (mTup (maN)) (maC (m2 (fAdd false) (mSl (fSl false) (mV 3) (moS (mV 4)) (moN)) (mSl (fSl false) (mV 3) (moN) (moS (mV 4)))) (maN)))))))))
theorem sufM_neg {x : MV} {t : Int} {h : MH} (h0 : t < 0) : sufM [x, .int t] h = .exc "InvalidTurn" [] h := by
  unfold sufM
  refine runF_ends (P := fun o => o = _) ?_
  walk_at "nf"
  refine en_seq ?_
  refine' en_if ?e ?_ ?_
  case e => walk_at "ev"
  · intro q
    exact en_raise rfl
  · intro q
    have : ¬ t < 0 := by simpa using q
    omega
theorem lw_drop {hs ls : List Int} {t k : Nat} (h : t ≤ hs.length) : lw (hs.drop t) ls k = lw hs ls (k + t) := by
  unfold lw
  rw [List.length_drop]
  by_cases c : k < hs.length - t
  · rw [if_pos c, if_pos (by omega)]
    simp only [List.getD, List.getElem?_drop]
    rw [Nat.add_comm]
  · rw [if_neg c, if_neg (by omega)]
    congr 2
    omega
theorem lw_rot {hs ls : List Int} {t k : Nat} (hl : ls ≠ []) (h : hs.length ≤ t) : lw [] (ls.drop ((t - hs.length) % ls.length) ++ ls.take ((t - hs.length) % ls.length)) k = lw hs ls (k + t) := by
  have hl2 : 0 < ls.length := List.length_pos_iff.mpr hl
  have hb : (t - hs.length) % ls.length < ls.length := Nat.mod_lt _ hl2
  have hle : (ls.drop ((t - hs.length) % ls.length) ++ ls.take ((t - hs.length) % ls.length)).length = ls.length := by simp; omega
  rw [lw_ge (by simp), lw_ge (by omega), hle, rot_get hb (Nat.mod_lt _ hl2), List.length_nil, Nat.sub_zero]
  congr 1
  rw [← Nat.add_mod, show t - hs.length + k = k + t - hs.length by omega]
theorem sufM_ok {hs ls : List Int} {t : Int} {h : MH} (h0 : 0 ≤ t) (hl : ls ≠ []) (b1 : hs.length < 100000) (b2 : ls.length < 100000) : ∃ v, Short (fun k => lw hs ls (k + t.toNat)) v hs.length ls.length ∧ sufM [lasso hs ls, .int t] h = .ok v h := by
  suffices g : Does (fun v h' => h' = h ∧ Short (fun k => lw hs ls (k + t.toNat)) v hs.length ls.length) (sufM [lasso hs ls, .int t] h) by
    obtain ⟨v, h', e, rfl, q⟩ := g
    exact ⟨v, q, e⟩
  obtain ⟨t, rfl⟩ := Int.eq_ofNat_of_zero_le h0
  have hl2 : 0 < ls.length := List.length_pos_iff.mpr hl
  rw [Int.toNat_natCast]
  unfold sufM
  refine runF_does ?_
  walk_at "nf"
  refine en_seq ?_
  refine' en_if ?e ?_ ?_
  case e => walk_at "ev"
  · intro q
    have : (t : Int) < 0 := by simpa using q
    omega
  intro _
  refine en_nil ?_
  refine en_seq ?_
  refine' en_asg ?e ?g ?_
  case e => walk_at "ev"
  case g => rfl
  refine en_seq ?_
  walk_at "nf"
  have n0 := SeqV.len (h := h) (SeqV.T (ns := hs))
  have n1 := SeqV.len (h := h) (SeqV.T (ns := ls))
  refine' en_if ?e ?_ ?_
  case e => walk_at "ev"
  · intro q
    have q : t ≤ hs.length := by
      have : (t : Int) ≤ hs.length := by simpa using q
      omega
    have f1 : fSl false (.tup (nums hs)) (some (t : Int)) none h = .ok (.tup (nums (hs.drop t))) h := by rw [f_slT, cut_lo (by omega), Int.toNat_natCast]
    obtain ⟨v, S, e⟩ := shortM_ok (h := h) (SeqV.T (ns := hs.drop t)) (SeqV.T (ns := ls)) hl (by rw [List.length_drop]; omega) b2
    refine' en_ret ?e ?_
    case e => walk_at "ev"
    refine ⟨_, _, rfl, rfl, ?_⟩
    obtain ⟨n, p, nf, h1, h2, rfl⟩ := S.ex
    rw [List.length_drop] at h1
    have ew : lw (hs.drop t) ls = fun k => lw hs ls (k + t) := funext fun k => lw_drop q
    rw [ew] at nf ⊢
    exact ⟨n, p, nf, by omega, h2, rfl⟩
  · intro q
    have q : hs.length ≤ t := by
      have : ¬ (t : Int) ≤ hs.length := by simpa using q
      omega
    refine en_nil ?_
    have f1 : fMod (.int ((t : Int) - hs.length)) (.int (ls.length : Int)) h = .ok (.int (((t - hs.length) % ls.length : Nat) : Int)) h := by rw [f_mod (by omega), lw_mod hl2 q]
    walk_at "set"
    have hb : (t - hs.length) % ls.length < ls.length := Nat.mod_lt _ hl2
    have f6 : fSl false (.tup (nums ls)) (some (((t - hs.length) % ls.length : Nat) : Int)) none h = .ok (.tup (nums (ls.drop ((t - hs.length) % ls.length)))) h := by rw [f_slT, cut_lo (by omega), Int.toNat_natCast]
    have f7 : fSl false (.tup (nums ls)) none (some (((t - hs.length) % ls.length : Nat) : Int)) h = .ok (.tup (nums (ls.take ((t - hs.length) % ls.length)))) h := by rw [f_slT, cut_hi (by omega), Int.toNat_natCast]
    have f8 : fAdd false (.tup (nums (ls.drop ((t - hs.length) % ls.length)))) (.tup (nums (ls.take ((t - hs.length) % ls.length)))) h = .ok (.tup (nums (ls.drop ((t - hs.length) % ls.length) ++ ls.take ((t - hs.length) % ls.length)))) h := by
      rw [f_addT (sz_small (by simp only [List.length_map, List.length_drop, List.length_take]; omega))]
      simp
    have hle : (ls.drop ((t - hs.length) % ls.length) ++ ls.take ((t - hs.length) % ls.length)).length = ls.length := by simp; omega
    obtain ⟨v, S, e⟩ := shortM_ok (h := h) (SeqV.T (ns := [])) (SeqV.T (ns := ls.drop ((t - hs.length) % ls.length) ++ ls.take ((t - hs.length) % ls.length))) (by intro z; rw [z, List.length_nil] at hle; omega) (by simp) (by omega)
    have e : shortM [.tup [], .tup (nums (ls.drop ((t - hs.length) % ls.length) ++ ls.take ((t - hs.length) % ls.length)))] h = .ok v h := e
    refine' en_ret ?e ?_
    case e => walk_at "ev"
    refine ⟨_, _, rfl, rfl, ?_⟩
    obtain ⟨n, p, nf, h1, h2, rfl⟩ := S.ex
    rw [hle] at h2
    have ew : lw [] (ls.drop ((t - hs.length) % ls.length) ++ ls.take ((t - hs.length) % ls.length)) = fun k => lw hs ls (k + t) := funext fun k => lw_rot hl q
    rw [ew] at nf ⊢
    exact ⟨n, p, nf, Nat.le_trans h1 (Nat.zero_le _), h2, rfl⟩
/-- values of a word lie where the letters lie -/
theorem lw_all {hs ls : List Int} {P : Int → Prop} (hl : ls ≠ []) (h : ∀ x ∈ hs ++ ls, P x) (t : Nat) : P (lw hs ls t) := by
  have hl2 : 0 < ls.length := List.length_pos_iff.mpr hl
  unfold lw
  split
  · rename_i c
    apply h
    rw [List.getD, List.getElem?_eq_getElem c]
    exact List.mem_append_left _ (List.getElem_mem c)
  · have c := Nat.mod_lt (t - hs.length) hl2
    apply h
    rw [List.getD, List.getElem?_eq_getElem c]
    exact List.mem_append_right _ (List.getElem_mem c)

/-! ### try, and joins -/
section
variable {Q : OutS → Prop} {env env1 : MEnv} {h h1 h2 : MH} {b a : MS} {C : Str} {xs ys : List MV} {l r : List Hd} {e : ME} {ms : MA} {x : MV}
theorem en_try_exc (hb : b env h = .exc C xs env1 h1) (k : Ends Q (runHds C xs l env1 h1)) : Ends Q (sTry b l env h) := by unfold sTry Ends; rw [hb]; exact k.out
theorem en_try_ok {f : Fl} (hb : b env h = .ok f env1 h1) (k : Q (.ok f env1 h1)) : Ends Q (sTry b l env h) := by unfold sTry Ends; rw [hb]; exact k
theorem en_hdF {tab : List (Str × Bool)} {sl : Option Nat} {su : MV → MS} (hl : tab.lookup C = some false) (k : Ends Q (runHds C xs r env h)) : Ends Q (runHds C xs (⟨tab, sl, su⟩ :: r) env h) := by
  unfold runHds Ends
  simp only
  rw [hl]
  exact k.out
theorem en_hdT {tab : List (Str × Bool)} {i : Nat} {su : MV → MS} {o : OutS} (hl : tab.lookup C = some true) (hall : ∀ a d, wipeO i (su (.exo a d C xs) (env.set i (some (.exo a d C xs))) h) = o) (k : Q o) : Ends Q (runHds C xs (⟨tab, some i, su⟩ :: r) env h) := by
  unfold runHds Ends
  simp only
  rw [hl]
  simp only
  rw [if_pos (fun a d => by rw [hall, hall]), hall]
  exact k
theorem en_hdT0 {tab : List (Str × Bool)} {su : MV → MS} {o : OutS} (hl : tab.lookup C = some true) (hall : (su .non env h).noxS = o) (k : Q o) : Ends Q (runHds C xs (⟨tab, none, su⟩ :: r) env h) := by
  unfold runHds Ends
  simp only
  rw [hl]
  simp only
  rw [hall]
  exact k
theorem en_seqJ (J : MEnv → MH → Prop) (k1 : Ends (fun o => ∃ env' h', o = .ok .nx env' h' ∧ J env' h') (a env h)) (k2 : ∀ env' h', J env' h' → Ends Q (b env' h')) : Ends Q (sSeq a b env h) := by
  obtain ⟨env', h', e, j⟩ := k1.out
  refine en_seq (Ends.of ?_)
  rw [e]
  exact k2 env' h' j
theorem ex_expr (he : e env h = .exc C xs h1) : sExpr e env h = .exc C xs env h1 := by unfold sExpr; rw [he]
theorem ex_ret (he : e env h = .exc C xs h1) : sRet e env h = .exc C xs env h1 := by unfold sRet; rw [he]
theorem ex_tup (he : ms env h = .exc C xs h1) : mTup ms env h = .exc C xs h1 := by unfold mTup; rw [he]
theorem ex_C1 (he : e env h = .exc C xs h1) : maC e ms env h = .exc C xs h1 := by unfold maC; rw [he]
theorem ex_C2 (h0 : e env h = .ok x h1) (he : ms env h1 = .exc C xs h2) : maC e ms env h = .exc C xs h2 := by unfold maC; rw [h0]; show (ms env h1).bind _ = _; rw [he]
theorem ex_call {f : MF} {n : Nat} (ha : ms env h = .ok xs h1) (hn : xs.length = n) (hf : f xs h1 = .exc C ys h2) : mCall n f ms env h = .exc C ys h2 := by unfold mCall; rw [ha]; show (if xs.length = n then _ else _) = _; rw [if_pos hn]; exact hf
theorem rn_expr (he : e env h = .ok x h1) : sExpr e env h = .ok .nx env h1 := by unfold sExpr; rw [he]
theorem rn_ret (he : e env h = .ok x h1) : sRet e env h = .ok (.rt x) env h1 := by unfold sRet; rw [he]
theorem rn_set {i : Nat} (he : e env h = .ok x h1) : sSet i e env h = .ok .nx (env.set i (some x)) h1 := by unfold sSet; rw [he]
theorem ev_isE {i : Nat} {z : Nat} {d : Option Addr} {tab : List (Str × Bool)} {v : Bool} (he : env[i]? = some (some (.exo z d C []))) (hl : tab.lookup C = some v) : mIsE i (.exo z d C []) tab env h = .ok (.bl v) h := by
  unfold mIsE
  rw [if_pos he]
  simp only
  rw [hl]
end
/-! ### the script's cells -/
def cellM : MF := runF 2 (sSeq (sIf (mT (m2 fLt (mV 1) (mF fLen (maC (mV 0) (maN))))) (sRet (m2 fIx (mV 0) (mV 1))) (sNil)) (sRet (mC (.int 0))))
theorem cellM_ok {ns : List Int} {k : Int} {h : MH} (h0 : 0 ≤ k) : ∃ v, cellM [.sl (nums ns), .int k] h = .ok (.int v) h := by
  suffices g : Does (fun v h' => h' = h ∧ ∃ i, v = .int i) (cellM [.sl (nums ns), .int k] h) by
    obtain ⟨v, h', e, rfl, i, rfl⟩ := g
    exact ⟨i, e⟩
  unfold cellM
  refine runF_does ?_
  walk_at "nf"
  have n0 : ((nums ns).length : Int) = ns.length := by simp
  refine en_seq ?_
  refine' en_if ?e ?_ ?_
  case e => walk_at "ev"
  · intro q
    have q : k < ((nums ns).length : Int) := by simpa using q
    have e2 : fIx (.sl (nums ns)) (.int k) h = .ok (.int (ns.getD k.toNat 0)) h := f_ix seq_S (atI_z h0 (nums_get (getD_of (by omega))))
    refine' en_ret ?e ?_
    case e => walk_at "ev"
    exact ⟨_, _, rfl, rfl, _, rfl⟩
  · intro q
    refine en_nil ?_
    refine' en_ret ?e ?_
    case e => walk_at "ev"
    exact ⟨_, _, rfl, rfl, _, rfl⟩
end Mn
/-! ## MnJ -/
set_option Elab.async false
set_option linter.all false
set_option maxRecDepth 100000
/-! Mn, part J: classes of the program: making an object, its fields. -/
namespace Mn
open PySem PySem.Spec PyProof.Rows L2
section
variable {X : Cx} {CX : CXT} {k : Nat} {f C : Addr} {fd : FuncData} {ps : List Str} {sp : Sp} {E : L2.St → XK} {x : Str} {p pos : Pos} {e : Expr} {es : List Expr} {t : TA}
def tMkS (C : Addr) (sp : Sp) (E : L2.St → XK) (t : TA) : TE := fun σ H Q => t σ H fun vs H1 => ∀ x dx, H1 x = none → H1 dx = none → dx ≠ x → sp (.ref x :: vs) (upd (upd H1 dx (.own x)) x (.ins C dx [])) (fun v H2 => v = .non ∧ Q (.ref x) H2) (E σ)
theorem run_mkS {pins : List (Addr × Obj)} {σ : L2.St} {H : Hp} {s : Shared} {Q : VK} {us : List Value} {vs : List V} (M : Mk X.K C f) (F : FnOk X.prog X.w X.K X.mg X.base CX k f fd ps sp) (hr : Room (k + 1) X.A) (hb : Binds X.K fd ps []) (hx : PassesAt CX X σ (E σ)) (I : Inv X pins σ H s) (r : Vals vs us)
    (h : ∀ x dx, H x = none → H dx = none → dx ≠ x → sp (.ref x :: vs) (upd (upd H dx (.own x)) x (.ins C dx [])) (fun v H2 => v = .non ∧ Q (.ref x) H2) (E σ)) : wpAny (model X.prog X.w) X.A (call (.ref C) us) (EP X pins σ Q) X.xe s := by
  have q0 := h (s.heap.objs.size + 1) s.heap.objs.size (I.hok.fresh (Nat.le_succ _)) (I.hok.fresh (Nat.le_refl _)) (Nat.ne_of_lt (Nat.lt_succ_self _))
  have J := Inv.made (C := C) I
  have rr : Vals (V.ref (s.heap.objs.size + 1) :: vs) (Value.ref (s.heap.objs.size + 1) :: us) := .cons rfl r
  have hl : (Value.ref (s.heap.objs.size + 1) :: us ++ []).length = ps.length := by
    have e := rr.length
    rw [F.len _ _ _ _ q0] at e
    rw [List.append_nil]
    exact e.symm
  have bb := hb _ (Value.ref (s.heap.objs.size + 1) :: us) J.kIn hl
  rw [List.append_nil] at bb
  refine wpAny_call (make_map (f := f) I.kIn M.makes M.init (beq_iff_eq.mp M.fn) (codeAny_mono (F.run _ X.stack _ _ ⟨Value.ref (s.heap.objs.size + 1) :: us, []⟩ (Value.ref (s.heap.objs.size + 1) :: us) _ _ (E σ) (hr.make C us []) (J.env0.make C us []) bb rr q0) fun r s' z => ?_))
  cases r with
  | error e => exact hx pins _ _ e s' J z
  | ok fl =>
    cases fl with
    | ret u =>
      obtain ⟨v, H', J3, rv, ev, q3⟩ := J.after z
      subst ev
      exact ⟨rv, ⟨V.ref (s.heap.objs.size + 1), H', J3, rfl, q3⟩⟩
    | next => exact z.elim
    | brk => exact z.elim
    | cont => exact z.elim
theorem pe_mkS (M : Mk X.K C f) (F : FnOk X.prog X.w X.K X.mg X.base CX k f fd ps sp) (hr : Room (k + 1) X.A) (hg : Gl X x) (hm : X.mg x = some (.ref C)) (hb : Binds X.K fd ps []) (hx : ∀ σ, PassesAt CX X σ (E σ)) (ha : PA X (e :: es) t) (hdb : (x == ("__debug__" : Str)) = false := by decide)
    (he : starEach (e :: es) X.env = (false, eval e X.env) :: starEach es X.env := by rfl) (hpl : (backTo pos (starEach es X.env)).any (·.1) = false := by rfl) : PE X (.Call (.Name x p) (e :: es) [] pos) (tMkS C sp E t) := by
  refine ⟨fun pins s σ H Q I h => ?_⟩
  refine wpAny_Call_Name_kw (ld_glob I hg hm ?_ hdb)
  exact PySem.W.callWith_K (h₀ := X.base) I.ok.mod.kin M.kp (thn (ha.run pos pins s σ H _ I h) fun us s1 ⟨vs, H1, I1, r, q⟩ => ⟨I1.kIn, run_mkS M F hr hb (hx σ) I1 r q⟩) he hpl
end

/-! ### fields -/
structure ClsOk (Γ : Gm) (K : PySem.W.Frag) (C : Str) (fs : List Str) : Prop where
  cl : Cls K (Γ.cls C)
  na : ∀ f ∈ fs, NoAttr K (Γ.cls C) f
abbrev CTab := List (Str × List Str)
def TabOk (Γ : Gm) (K : PySem.W.Frag) (tab : CTab) : Prop := ∀ q ∈ tab, ClsOk Γ K q.1 q.2
def okF (tab : CTab) (C f : Str) : Bool := match tab.lookup C with
  | some fs => decide (f ∈ fs)
  | none => false
theorem TabOk.at {Γ : Gm} {K : PySem.W.Frag} {tab : CTab} {C f : Str} (T : TabOk Γ K tab) (h : okF tab C f = true) : Cls K (Γ.cls C) ∧ NoAttr K (Γ.cls C) f := by
  unfold okF at h
  split at h
  · rename_i fs e
    have q := T _ (PySem.mem_of_lookup e)
    exact ⟨q.cl, q.na f (of_decide_eq_true h)⟩
  · cases h
def fldOf : List Str → List MV → Str → Option MV
  | k :: ks, x :: xs, f => if f == k then some x else fldOf ks xs f
  | _, _, _ => none
def putKs (f : Str) : List Str → List Str
  | [] => [f]
  | k :: ks => if k = f then k :: ks else k :: putKs f ks
def putXs (f : Str) (y : MV) : List Str → List MV → List MV
  | k :: ks, x :: xs => if k = f then y :: xs else x :: putXs f y ks xs
  | _, xs => xs ++ [y]
def insAt (h : MH) : MV → Option (Str × List Str × List MV)
  | .ob C ks xs => some (C, ks, xs)
  | .ref n => match h[n]? with
    | some (.ins C ks xs) => some (C, ks, xs)
    | _ => none
  | _ => none
def fFld (tab : CTab) (f : Str) (x : MV) (h : MH) : Out MV := match insAt h x with
  | some (C, ks, xs) => if okF tab C f = true then (match fldOf ks xs f with
    | some d => .ok d h
    | none => .stuck) else .stuck
  | none => .stuck
def sFldM (tab : CTab) (f : Str) (mo mv : ME) : MS := fun env h => (mv env h).andS env fun y h => (mo env h).andS env fun x h => match x with
  | .ref n => match h[n]? with
    | some (.ins C ks xs) => if okF tab C f = true ∧ ks.length < 1000 then .ok .nx env (h.set n (.ins C (putKs f ks) (putXs f y ks xs))) else .stuck
    | _ => .stuck
  | _ => .stuck
def mMake (C : Str) (frz : Bool) (n : Nat) (g : MF) (a : MA) : ME := fun env h => (a env h).bind fun ds h => if ds.length + 1 = n then (match g (.ref h.length :: ds) (h ++ [.ins C [] []]) with
  | .ok .non h' => if frz = true then (match h'[h.length]? with
      | some (.ins C' ks xs) => .ok (.ob C' ks xs) (h'.set h.length .dead)
      | _ => .stuck) else .ok (.ref h.length) h'
  | .exc D xs h' => .exc D xs h'
  | _ => .stuck) else .stuck
section
variable {Γ : Gm} {K : PySem.W.Frag} {S : Sh} {H : Hp} {h : MH}
theorem fld_zip : ∀ {ks : List Str} {xs : List MV} {us : List V} {f : Str} {d : MV}, RepL Γ K S xs us → us.length = ks.length → fldOf ks xs f = some d → ∃ v, (ks.zip us).lookup f = some v ∧ Rep Γ K S d v
  | [], _, _, _, _, _, _, e => by unfold fldOf at e; cases e
  | _ :: _, [], _, _, _, _, _, e => by unfold fldOf at e; cases e
  | k :: ks, x :: xs, us, f, d, r, hl, e => by
    unfold RepL at r
    obtain ⟨u, us, rfl, r1, r2⟩ := r
    unfold fldOf at e
    show ∃ v, List.lookup f ((k, u) :: ks.zip us) = some v ∧ _
    unfold List.lookup
    split at e
    · rename_i c
      cases e
      rw [c]
      exact ⟨u, rfl, r1⟩
    · rename_i c
      have c : (f == k) = false := by simpa using c
      rw [c]
      exact fld_zip r2 (by simpa using hl) e
theorem put_zip : ∀ {ks : List Str} {xs : List MV} {us : List V} {f : Str} {y : MV} {v : V}, RepL Γ K S xs us → us.length = ks.length → Rep Γ K S y v → ∃ us', putF f v (ks.zip us) = (putKs f ks).zip us' ∧ us'.length = (putKs f ks).length ∧ RepL Γ K S (putXs f y ks xs) us'
  | [], xs, us, f, y, v, r, hl, ry => by
    have : us = [] := List.length_eq_zero_iff.mp hl
    subst this
    have hx : xs = [] := by
      cases xs with
      | nil => rfl
      | cons x xs => unfold RepL at r; obtain ⟨_, _, e, _⟩ := r; cases e
    subst hx
    exact ⟨[v], rfl, rfl, repL_cons ry repL_nil⟩
  | k :: ks, xs, us, f, y, v, r, hl, ry => by
    cases xs with
    | nil => unfold RepL at r; subst r; cases hl
    | cons x xs =>
      unfold RepL at r
      obtain ⟨u, us, rfl, r1, r2⟩ := r
      show ∃ us', putF f v ((k, u) :: ks.zip us) = _ ∧ _
      unfold putF putKs putXs
      by_cases c : k = f
      · rw [if_pos c, if_pos c, if_pos c]
        exact ⟨v :: us, rfl, by simpa using hl, repL_cons ry r2⟩
      · rw [if_neg c, if_neg c, if_neg c]
        obtain ⟨us', e1, e2, e3⟩ := put_zip (f := f) r2 (by simpa using hl) ry
        exact ⟨u :: us', by rw [e1]; rfl, by simpa using e2, repL_cons r1 e3⟩
theorem ins_rep {x : MV} {v : V} {C : Str} {ks : List Str} {xs : List MV} (R : Rel Γ K S h H) (r : Rep Γ K S x v) (e : insAt h x = some (C, ks, xs)) : ∃ a dx us, v = .ref a ∧ H a = some (.ins (Γ.cls C) dx (ks.zip us)) ∧ us.length = ks.length ∧ RepL Γ K S xs us := by
  unfold insAt at e
  split at e
  · cases e
    unfold Rep at r
    obtain ⟨a, dx, us, q1, q2, q3, q4⟩ := r
    exact ⟨a, dx, us, q1, R.sub _ _ q2, q3, q4⟩
  · split at e
    · rename_i hn
      cases e
      unfold Rep at r
      obtain ⟨a, q1, q2⟩ := r
      obtain ⟨_, dx, us, q3, q4, q5⟩ := R.cell _ _ a hn q1
      exact ⟨a, dx, us, q2, q3, q4, q5⟩
    · cases e
  · cases e
variable {X : Cx} {W : WX} {e o value : Expr} {es : List Expr} {ms : MA} {me mo mv : ME} {pos p pos' : Pos} {tab : CTab} {f : Str}
theorem se_fld (T : TabOk Γ X.K tab) (he : SE Γ X W e me) (hb : attributeBase e f X.env (eval e X.env) = eval e X.env := by rfl) : SE Γ X W (.Attribute e f pos) (m1 (fFld tab f) me) := by
  obtain ⟨t, pt, et⟩ := he.ex
  refine ⟨_, pe_fld pt hb, fun S H h σ env Q R G q => exE_bind (t := t) et R G q fun x h1 S1 H1 v e1 R1 G1 r1 p1 => ?_⟩
  unfold fFld at p1
  split at p1
  · rename_i C ks xs ei
    split at p1
    · rename_i ok
      obtain ⟨hc, hn⟩ := T.at ok
      obtain ⟨a, dx, us, rfl, q2, q3, q4⟩ := ins_rep R1 r1 ei
      split at p1
      · rename_i d ed
        obtain ⟨w, l, rw_⟩ := fld_zip q4 q3 ed
        exact ⟨a, _, dx, _, w, rfl, q2, hc, hn, l, p1 _ _ _ (Ext.refl _ _) R1 rw_⟩
      · exact p1.elim
    · exact p1.elim
  · exact p1.elim
theorem ss_fld (T : TabOk Γ X.K tab) (ho : SE Γ X W o mo) (hv : SE Γ X W value mv) (hs : swapsWith value (some (.Attribute o f pos')) pos.line X.env = pure false := by rfl) : SS Γ X W (.Assign [.Attribute o f pos'] value pos) (sFldM tab f mo mv) := by
  obtain ⟨to, po, eo⟩ := ho.ex
  obtain ⟨tv, pv, ev⟩ := hv.ex
  refine ⟨_, ps_fld po pv hs, fun S H h σ env D R G q => exES (t := tv) ev R G q fun y h1 S1 H1 w e1 R1 G1 r1 p1 => exES (t := to) eo R1 G1 p1 fun x h2 S2 H2 v e2 R2 G2 r2 p2 => ?_⟩
  split at p2
  · rename_i n
    split at p2
    · rename_i C ks xs hn
      split at p2
      · rename_i ok
        obtain ⟨hc, hna⟩ := T.at ok.1
        unfold Rep at r2
        obtain ⟨a, q1, rfl⟩ := r2
        obtain ⟨z, dx, us, q3, q4, q5⟩ := R2.cell _ _ a hn q1
        obtain ⟨us', f1, f2, f3⟩ := put_zip (f := f) q5 q4 (r1.ext e2)
        refine ⟨a, _, dx, _, rfl, q3, hc, hna, by rw [List.length_zip, q4, Nat.min_self]; exact ok.2, ?_⟩
        rw [f1]
        obtain ⟨R3, e3⟩ := R2.store (o := .ins (Γ.cls C) dx ((putKs f ks).zip us')) (c := .ins C (putKs f ks) (putXs f y ks xs)) q1 z ⟨z, dx, us', upd_same, f2, f3⟩
        exact p2 _ _ _ e3 R3 (G2.mono e3)
      · exact p2.elim
    · exact p2.elim
  · exact p2.elim
/-- a class whose maker is a def of the text -/
structure MakeOk (P : Program) (w : World) (K : PySem.W.Frag) (mg : Str → Option Value) (base : Heap) (Γ : Gm) (k : Nat) (C : Str) (n : Nat) (g : MF) : Prop where
  ex : ∃ (f : Addr) (fd : FuncData) (ps : List Str), Mk K (Γ.cls C) f ∧ FnOk P w K mg base (L2.CX P w) k f fd ps (spM Γ K n g) ∧ mg C = some (.ref (Γ.cls C)) ∧ Binds K fd ps []
theorem MakeOk.mono {P : Program} {w : World} {mg : Str → Option Value} {base : Heap} {j k n : Nat} {C : Str} {g : MF} (c : MakeOk P w K mg base Γ j C n g) (h : j ≤ k) : MakeOk P w K mg base Γ k C n g := by
  obtain ⟨f, fd, ps, h1, h2, h3, h4⟩ := c.ex
  exact ⟨f, fd, ps, h1, h2.mono h, h3, h4⟩
theorem sc_make {k n : Nat} {C : Str} {g : MF} (frz : Bool) (c : MakeOk X.prog X.w X.K X.mg X.base Γ k C n g) (hr : Room (k + 1) X.A) (tk : Takes X W) (ha : SA Γ X W (e :: es) ms) (hg : Gl X C := by rfl) (hdb : (C == ("__debug__" : Str)) = false := by decide) (he : starEach (e :: es) X.env = (false, eval e X.env) :: starEach es X.env := by rfl) (hpl : (backTo pos (starEach es X.env)).any (·.1) = false := by rfl) :
    SE Γ X W (.Call (.Name C p) (e :: es) [] pos) (mMake C frz n g ms) := by
  obtain ⟨f, fd, ps, M, F, hm, hb⟩ := c.ex
  obtain ⟨t, pt, et⟩ := ha.ex
  refine ⟨_, pe_mkS (E := WE W) M F hr hg hm hb (fun σ => passAt tk σ) pt hdb he hpl, fun S H h σ env Q R G q => exA_bind (t := t) et R G q fun ds h1 S1 H1 vs e1 R1 G1 r1 p1 => ?_⟩
  intro x dx hx hdx hne
  split at p1
  · rename_i hn
    have hx2 : upd H1 dx (.own x) x = none := by rw [upd_ne (Ne.symm hne)]; exact hx
    obtain ⟨R2, e2⟩ := R1.froz (o := .own x) hdx
    have hz : upd S1.Hs dx (.own x) x = none := by
      cases z : upd S1.Hs dx (.own x) x with
      | none => rfl
      | some o =>
        rw [R2.sub x o z] at hx2
        cases hx2
    obtain ⟨R3, e3⟩ := R2.alloc (o := .ins (Γ.cls C) dx []) (c := .ins C [] []) hx2 (fun S' s1 s2 => ⟨by rw [s1]; exact hz, dx, [], upd_same, rfl, repL_nil⟩)
    have e23 := e2.trans e3
    have rx : Rep Γ X.K ⟨upd S1.Hs dx (.own x), S1.ι ++ [x]⟩ (.ref h1.length) (.ref x) := by
      unfold Rep
      refine ⟨x, ?_, rfl⟩
      show (S1.ι ++ [x])[h1.length]? = some x
      rw [← R1.len]
      simp
    refine sp_of R3 (repL_cons rx (r1.ext e23)) (by simpa using hn) ?_
    cases z : g (.ref h1.length :: ds) (h1 ++ [.ins C [] []]) with
    | stuck => rw [z] at p1; exact p1.elim
    | exc D xs h2 =>
      rw [z] at p1
      exact fun S' H' dd e' R' r' => p1 S' H' dd (e23.trans e') R' r'
    | ok d h2 =>
      rw [z] at p1
      intro S' H' b e' R' rb
      cases d with
      | non =>
        refine ⟨rep_non rb, ?_⟩
        simp only at p1
        have ix : S'.ι[h1.length]? = some x := by
          have := e'.ix h1.length x (by show (S1.ι ++ [x])[h1.length]? = some x; rw [← R1.len]; simp)
          exact this
        split at p1
        · split at p1
          · rename_i C' ks xs ec
            obtain ⟨zz, dx', us, q3, q4, q5⟩ := R'.cell _ _ x ec ix
            obtain ⟨R4, e4⟩ := R'.freeze ix zz q3
            refine p1 _ _ _ ((e23.trans e').trans e4) R4 ?_
            unfold Rep
            exact ⟨x, dx', us, rfl, upd_same, q4, q5.ext e4⟩
          · exact p1.elim
        · refine p1 _ _ _ (e23.trans e') R' ?_
          unfold Rep
          exact ⟨x, ix, rfl⟩
      | _ => exact p1.elim
  · exact p1.elim
end

/-! ### chains -/
def mChain (f g : MV → MV → MH → Out MV) (a b c : ME) : ME := fun env h => (a env h).bind fun x h => (b env h).bind fun y h => (f x y h).bind fun z h => match z with
  | .bl true => (c env h).bind fun w h => g y w h
  | .bl false => .ok (.bl false) h
  | _ => .stuck
section
variable {Γ : Gm} {X : Cx} {W : WX} {a b c : Expr} {ma mb mc : ME} {pos : Pos} {op op' : CmpOp} {r r' : R2} {f g : MV → MV → MH → Out MV}
theorem ex_chain {ta tb tc : TE} (hl : Lift2 Γ X.K r f) (hl' : Lift2 Γ X.K r' g) (ea : ExE Γ X.K W ta ma) (eb : ExE Γ X.K W tb mb) (ec : ExE Γ X.K W tc mc) : ExE Γ X.K W (tChain r r' ta tb tc) (mChain f g ma mb mc) :=
  fun S H h σ env Q R G p => exE_bind (t := ta) ea R G p fun x h1 S1 H1 u e1 R1 G1 r1 p1 => exE_bind (t := tb) eb R1 G1 p1 fun y h2 S2 H2 v e2 R2 G2 r2 p2 => hl S2 H2 h2 x y u v _ _ R2 (r1.ext e2) r2 (Post.bind p2 fun z h3 S3 H3 zz _ e3 R3 r3 p3 => by
    split at p3
    · exact ⟨true, rep_bl r3, by rw [if_pos rfl]; exact exE_bind (t := tc) ec R3 (G2.mono e3) p3 fun w h4 S4 H4 ww e4 R4 G4 r4 p4 => hl' S4 H4 h4 y w v ww Q _ R4 ((r2.ext e3).ext e4) r4 p4⟩
    · exact ⟨false, rep_bl r3, by rw [if_neg Bool.false_ne_true]; exact p3 _ _ _ (Ext.refl _ _) R3 is_bl⟩
    · exact p3.elim)
theorem se_chain (ho : OpR X (compareOp op) r) (hl : Lift2 Γ X.K r f) (ho' : OpR X (compareOp op') r') (hl' : Lift2 Γ X.K r' g) (ha : SE Γ X W a ma) (hb : SE Γ X W b mb) (hc : SE Γ X W c mc) (hm : lastMarks [op, op'] [b, c] = false := by with_unfolding_all rfl) : SE Γ X W (.Compare a [op, op'] [b, c] pos) (mChain f g ma mb mc) := by
  obtain ⟨ta, pa, ea⟩ := ha.ex
  obtain ⟨tb, pb, eb⟩ := hb.ex
  obtain ⟨tc, pc, ec⟩ := hc.ex
  exact ⟨_, pe_chain ho ho' pa pb pc hm, ex_chain hl hl' ea eb ec⟩
theorem st_chain (ho : OpR X (compareOp op) r) (hl : Lift2 Γ X.K r f) (ho' : OpR X (compareOp op') r') (hl' : Lift2 Γ X.K r' g) (ha : SE Γ X W a ma) (hb : SE Γ X W b mb) (hc : SE Γ X W c mc) (hm : lastMarks [op, op'] [b, c] = false := by with_unfolding_all rfl) : ST Γ X W (.Compare a [op, op'] [b, c] pos) (mT (mChain f g ma mb mc)) := by
  obtain ⟨ta, pa, ea⟩ := ha.ex
  obtain ⟨tb, pb, eb⟩ := hb.ex
  obtain ⟨tc, pc, ec⟩ := hc.ex
  exact ⟨_, pt_chain ho ho' pa pb pc hm, fun S H h σ env Q R G p => exE_bind (t := tChain r r' ta tb tc) (ex_chain hl hl' ea eb ec) R G p fun x h1 S1 H1 u e1 R1 G1 r1 p1 => bool_ofT R1 r1 p1⟩
abbrev envS (sc : Scope) : Env := ⟨sc, 0, 0, [], Str.empty, none, .none, none, 0⟩
theorem blkOk_in {so sc scope : Scope} {own : List (Str × Nat)} {s : Shared} {H : Hp} {C : Addr} {cl : List (Str × Addr)} {fp : List Addr} (hs : X.env.scope = sc) (b : BlkOk X.N (relabel so (envS sc)) scope own) : BlkOk (X.blk s H so (compEnvC so cl C X.env) fp).N (X.blk s H so (compEnvC so cl C X.env) fp).env.scope scope own := by
  subst hs
  exact b
end
/-! ### makers -/
structure MkDef (K : PySem.W.Frag) (mg : Str → Option Value) (Γ : Gm) (C qual : Str) (st : Stmt) (ps : List Str) : Prop where
  ex : ∃ (f : Addr) (fd : FuncData), Fun K "__init__" qual st f fd ∧ (∀ us : List Value, us.length = ps.length → bindArgs fd ⟨us, []⟩ = pure (ps.zip us)) ∧ Mk K (Γ.cls C) f ∧ mg C = some (.ref (Γ.cls C))
section
variable {P : Program} {w : World} {K : PySem.W.Frag} {mg : Str → Option Value} {base : Heap} {Γ : Gm} {k : Nat} {C qual : Str} {ps : List Str}
theorem mk_ok {st : Stmt} {N : List Str} {m : MS} (D : MkDef K mg Γ C qual st ps) (S : FnScope N ps (defScope st))
    (hb : ∀ (f : Addr) (cdv : Value) (A : Around) (outer : List Env) (s : Shared) (H : Hp) (E : XK), Room k (A.deeper (envOfC qual (defScope st) s.heap.objs.size f cdv)) →
      SSs Γ (cxOf (L2.CX P w) P w K mg base N qual (defScope st) f cdv A outer s H E) (fun c d _ H => E c d H) (defBody st) m) : MakeOk P w K mg base Γ (k + 1) C ps.length (runF N.length m) := by
  obtain ⟨f, fd, F, b, M, hm⟩ := D.ex
  exact ⟨f, fd, ps, M, fn_ok F S (hb f), hm, .all b⟩
theorem mkd_mk {st : Stmt} {f : Addr} {oc : Value} {od an : Option Addr} {osl : Array (Option Value)} {kV doc pm cdv ct : Value} (l : K.lookup f = some ⟨oc, od, .func (PySem.W.fnOf "__init__" qual (defArgs st) (defBody st) (defScope st) .none kV doc pm an cdv ct), osl⟩)
    (c : PySem.W.codeIn K cdv qual = true) (kp : PySem.W.keepIn K (.ref f) = true) (M : Mk K (Γ.cls C) f) (g : mg C = some (.ref (Γ.cls C)))
    (h : ∀ us : List Value, us.length = ps.length → bindArgs (PySem.W.fnOf "__init__" qual (defArgs st) (defBody st) (defScope st) .none kV doc pm an cdv ct) ⟨us, []⟩ = pure (ps.zip us)) : MkDef K mg Γ C qual st ps := ⟨f, _, fun_mk l c kp, h, M, g⟩
theorem al_nil {p : Str → Prop} : ∀ f ∈ ([] : List Str), p f := fun f h => nomatch h
theorem al_cons {p : Str → Prop} {a : Str} {l : List Str} (h : p a) (r : ∀ f ∈ l, p f) : ∀ f ∈ a :: l, p f := fun f hf => by
  rcases List.mem_cons.mp hf with rfl | hf
  · exact h
  · exact r f hf
theorem tab_nil : TabOk Γ K [] := fun f h => nomatch h
theorem tab_cons {C : Str} {fs : List Str} {l : CTab} (h : ClsOk Γ K C fs) (r : TabOk Γ K l) : TabOk Γ K ((C, fs) :: l) := fun f hf => by
  rcases List.mem_cons.mp hf with rfl | hf
  · exact h
  · exact r f hf
end
end Mn
/-! ## MnK -/
set_option Elab.async false
set_option linter.all false
set_option maxRecDepth 100000
/-! Mn, part K: dicts with int and text keys; augmented subscripts. -/
namespace Mn
open PySem PySem.Spec PyProof.Rows L2
def dgetM : List (MV × MV) → Key → Option MV
  | [], _ => none
  | x :: r, k => if keyV x.1 = some k then some x.2 else dgetM r k
def dputM (kvs : List (MV × MV)) (y d : MV) (k : Key) : List (MV × MV) := if (dgetM kvs k).isSome = true then kvs.map (fun x => if keyV x.1 = some k then (x.1, d) else x) else kvs ++ [(y, d)]
def fDGet : MV → MV → MH → Out MV
  | .ref n, y, h => match h[n]?, keyV y with
    | some (.dct kvs), some k => match dgetM kvs k with
      | some d => .ok d h
      | none => .stuck
    | _, _ => .stuck
  | _, _, _ => .stuck
def fDIn (neg : Bool) : MV → MV → MH → Out MV
  | y, .ref n, h => match h[n]?, keyV y with
    | some (.dct kvs), some k => .ok (.bl (if neg = true then !(dgetM kvs k).isSome else (dgetM kvs k).isSome)) h
    | _, _ => .stuck
  | _, _, _ => .stuck
def mDict0 : ME := fun _ h => .ok (.ref h.length) (h ++ [.dct []])
def sDPutM (mo mi mv : ME) : MS := fun env h => (mv env h).andS env fun d h => (mo env h).andS env fun x h => (mi env h).andS env fun y h => match x with
  | .ref n => match h[n]?, keyV y with
    | some (.dct kvs), some k => if kvs.length < sizeLine then .ok .nx env (h.set n (.dct (dputM kvs y d k))) else .stuck
    | _, _ => .stuck
  | _ => .stuck
section
variable {Γ : Gm} {K : PySem.W.Frag} {S : Sh} {H : Hp} {h : MH}
theorem rd_get : ∀ {kvs : List (MV × MV)} {us : List (Key × V)} {k : Key}, RepD Γ K S kvs us → (∀ d, dgetM kvs k = some d → ∃ v, valV us k = some v ∧ Rep Γ K S d v) ∧ (dgetM kvs k = none → valV us k = none)
  | [], us, k, r => by
    unfold RepD at r
    subst r
    exact ⟨(fun d e => by cases e), (fun _ => rfl)⟩
  | x :: kvs, us, k, ⟨k', u, r, e1, e2, e3, e4⟩ => by
    subst e1
    obtain ⟨i1, i2⟩ := rd_get (k := k) e4
    unfold dgetM
    rw [e2]
    by_cases c : k' = k
    · subst c
      rw [if_pos rfl]
      exact ⟨(fun d e => by cases e; exact ⟨u, valV_pos (p := (k', u)) rfl, e3⟩), (fun e => by cases e)⟩
    · rw [if_neg (fun z => c (Option.some.inj z)), valV_neg (p := (k', u)) c]
      exact ⟨i1, i2⟩
theorem rd_map {k : Key} {d : MV} {v : V} (rv : Rep Γ K S d v) : ∀ {kvs : List (MV × MV)} {us : List (Key × V)}, RepD Γ K S kvs us → RepD Γ K S (kvs.map fun x => if keyV x.1 = some k then (x.1, d) else x) (us.map fun kv => if kv.1 = k then (kv.1, v) else kv)
  | [], us, r => by unfold RepD at r; subst r; exact rfl
  | x :: kvs, us, ⟨k', u, r, e1, e2, e3, e4⟩ => by
    subst e1
    have ih := rd_map (k := k) (d := d) (v := v) rv e4
    rw [List.map_cons, List.map_cons]
    by_cases c : k' = k
    · subst c
      rw [if_pos e2]
      exact ⟨k', v, _, by rw [if_pos rfl], e2, rv, ih⟩
    · have c' : ¬ keyV x.1 = some k := fun z => c (by rw [e2] at z; exact Option.some.inj z)
      rw [if_neg c']
      exact ⟨k', u, _, by rw [if_neg c], e2, e3, ih⟩
theorem rd_app {y d : MV} {k : Key} {v : V} (ky : keyV y = some k) (rv : Rep Γ K S d v) : ∀ {kvs : List (MV × MV)} {us : List (Key × V)}, RepD Γ K S kvs us → RepD Γ K S (kvs ++ [(y, d)]) (us ++ [(k, v)])
  | [], us, r => by unfold RepD at r; subst r; exact ⟨k, v, [], rfl, ky, rv, rfl⟩
  | x :: kvs, us, ⟨k', u, r, e1, e2, e3, e4⟩ => by
    subst e1
    exact ⟨k', u, _, rfl, e2, e3, rd_app ky rv e4⟩
theorem rd_put {kvs : List (MV × MV)} {us : List (Key × V)} {y d : MV} {k : Key} {v : V} (r : RepD Γ K S kvs us) (ky : keyV y = some k) (rv : Rep Γ K S d v) : RepD Γ K S (dputM kvs y d k) (putK us k v) := by
  obtain ⟨i1, i2⟩ := rd_get (k := k) r
  unfold dputM putK
  rw [valV_any]
  cases c : dgetM kvs k with
  | some d' =>
    obtain ⟨w, e, _⟩ := i1 d' c
    rw [e]
    simp only [Option.isSome_some, if_true]
    exact rd_map rv r
  | none =>
    rw [i2 c]
    simp only [Option.isSome_none, Bool.false_eq_true, if_false]
    exact rd_app ky rv r
theorem key_rep {y : MV} {u : V} {k : Key} (e : keyV y = some k) (r : Rep Γ K S y u) : u = kV k := by
  cases y with
  | int i => cases e; exact rep_int r
  | str x => cases e; exact rep_str r
  | _ => cases e
theorem dct_at {n : Nat} {kvs : List (MV × MV)} {v : V} (R : Rel Γ K S h H) (r : Rep Γ K S (.ref n) v) (e : h[n]? = some (.dct kvs)) : ∃ a us, v = .ref a ∧ S.ι[n]? = some a ∧ S.Hs a = none ∧ H a = some (.dK us) ∧ RepD Γ K S kvs us := by
  unfold Rep at r
  obtain ⟨a, q1, rfl⟩ := r
  obtain ⟨z, us, q3, q4⟩ := R.cell _ _ a e q1
  exact ⟨a, us, rfl, q1, z, q3, q4⟩
variable {X : Cx} {W : WX} {o i value : Expr} {mo mi mv : ME} {pos pos' : Pos}
theorem se_dict0 : SE Γ X W (.Dict [] [] pos) mDict0 := ⟨_, pe_dnewK, fun S H h σ env Q R G q p hp => by
  have hz : S.Hs p = none := by
    cases z : S.Hs p with
    | none => rfl
    | some o =>
      rw [R.sub p o z] at hp
      cases hp
  obtain ⟨R1, e1⟩ := R.alloc (o := .dK []) (c := .dct []) hp (fun S' s1 s2 => ⟨by rw [s1]; exact hz, [], upd_same, rfl⟩)
  refine q _ _ _ e1 R1 ?_
  unfold Rep
  exact ⟨p, by show (S.ι ++ [p])[h.length]? = some p; rw [← R.len]; simp, rfl⟩⟩
theorem se_dget (hu : X.A.units + 64 < cLine) (ho : SE Γ X W o mo) (hi : SE Γ X W i mi) (hs : NoSl i := by exact fun _ _ => rfl) : SE Γ X W (.Subscript o i pos) (m2 fDGet mo mi) := by
  obtain ⟨to, po, eo⟩ := ho.ex
  obtain ⟨ti, pi, ei⟩ := hi.ex
  refine ⟨_, pe_dget (by omega) po pi hs, fun S H h σ env Q R G p => exE_bind (t := to) eo R G p fun x h1 S1 H1 u e1 R1 G1 r1 p1 => exE_bind (t := ti) ei R1 G1 p1 fun y h2 S2 H2 v e2 R2 G2 r2 p2 => ?_⟩
  unfold fDGet at p2
  split at p2
  · rename_i n _ _
    split at p2
    · rename_i kvs k hn hk
      obtain ⟨a, us, rfl, _, _, q3, q4⟩ := dct_at R2 (r1.ext e2) hn
      split at p2
      · rename_i d hd
        obtain ⟨w, l, rw_⟩ := (rd_get (k := k) q4).1 d hd
        refine ⟨a, w, rfl, ?_, p2 _ _ _ (Ext.refl _ _) R2 rw_⟩
        rw [key_rep hk r2, ← l]
        exact .k q3
      · exact p2.elim
    · exact p2.elim
  · exact p2.elim
theorem ex_din {neg : Bool} {ti td : TE} (ei : ExE Γ X.K W ti mi) (eo : ExE Γ X.K W td mo) : ExE Γ X.K W (fun σ H Q => ti σ H fun y H1 => td σ H1 fun x H2 => ∃ a o, x = .ref a ∧ DGet H2 a y o ∧ Q (.bl (if neg = true then !o.isSome else o.isSome)) H2) (m2 (fDIn neg) mi mo) :=
  fun S H h σ env Q R G p => exE_bind (t := ti) ei R G p fun y h1 S1 H1 v e1 R1 G1 r1 p1 => exE_bind (t := td) eo R1 G1 p1 fun x h2 S2 H2 u e2 R2 G2 r2 p2 => by
    unfold fDIn at p2
    split at p2
    · rename_i n _
      split at p2
      · rename_i kvs k hn hk
        obtain ⟨a, us, rfl, _, _, q3, q4⟩ := dct_at R2 r2 hn
        obtain ⟨i1, i2⟩ := rd_get (k := k) q4
        have ev : (valV us k).isSome = (dgetM kvs k).isSome := by
          cases c : dgetM kvs k with
          | none => rw [i2 c]; rfl
          | some d => obtain ⟨w, l, _⟩ := i1 d c; rw [l]; rfl
        refine ⟨a, valV us k, rfl, ?_, ?_⟩
        · rw [key_rep hk (r1.ext e2)]; exact .k q3
        · rw [ev]; exact p2 _ _ _ (Ext.refl _ _) R2 is_bl
      · exact p2.elim
    · exact p2.elim
theorem se_din (hu : X.A.units + 64 < cLine) (hi : SE Γ X W i mi) (ho : SE Γ X W o mo) (h1 : behindInMarks .In o = false := by first | exact nobehind _ (by decide) (by decide) | rfl) : SE Γ X W (.Compare i [.In] [o] pos) (m2 (fDIn false) mi mo) := by
  obtain ⟨ti, pi, ei⟩ := hi.ex
  obtain ⟨to, po, eo⟩ := ho.ex
  exact ⟨_, pe_cmp (pc_din (by omega) pi po) h1, ex_din (neg := false) ei eo⟩
theorem se_dnotin (hu : X.A.units + 64 < cLine) (hi : SE Γ X W i mi) (ho : SE Γ X W o mo) (h1 : behindInMarks .NotIn o = false := by first | exact nobehind _ (by decide) (by decide) | rfl) : SE Γ X W (.Compare i [.NotIn] [o] pos) (m2 (fDIn true) mi mo) := by
  obtain ⟨ti, pi, ei⟩ := hi.ex
  obtain ⟨to, po, eo⟩ := ho.ex
  exact ⟨_, pe_cmp (pc_dnotin (by omega) pi po) h1, ex_din (neg := true) ei eo⟩
theorem st_din (hu : X.A.units + 64 < cLine) (hi : SE Γ X W i mi) (ho : SE Γ X W o mo) (h1 : behindInMarks .In o = false := by first | exact nobehind _ (by decide) (by decide) | rfl) : ST Γ X W (.Compare i [.In] [o] pos) (mT (m2 (fDIn false) mi mo)) := by
  obtain ⟨ti, pi, ei⟩ := hi.ex
  obtain ⟨to, po, eo⟩ := ho.ex
  exact ⟨_, pt_cmp (pc_din (by omega) pi po) h1, fun S H h σ env Q R G p => ex_din (neg := false) ei eo S H h σ env _ R G (Post.bind p fun x h1 S1 H1 u _ e1 R1 r1 p1 => bool_ofT R1 r1 p1)⟩
theorem st_dnotin (hu : X.A.units + 64 < cLine) (hi : SE Γ X W i mi) (ho : SE Γ X W o mo) (h1 : behindInMarks .NotIn o = false := by first | exact nobehind _ (by decide) (by decide) | rfl) : ST Γ X W (.Compare i [.NotIn] [o] pos) (mT (m2 (fDIn true) mi mo)) := by
  obtain ⟨ti, pi, ei⟩ := hi.ex
  obtain ⟨to, po, eo⟩ := ho.ex
  exact ⟨_, pt_cmp (pc_dnotin (by omega) pi po) h1, fun S H h σ env Q R G p => ex_din (neg := true) ei eo S H h σ env _ R G (Post.bind p fun x h1 S1 H1 u _ e1 R1 r1 p1 => bool_ofT R1 r1 p1)⟩
theorem ss_dput (hu : X.A.units + 64 < cLine) (ho : SE Γ X W o mo) (hi : SE Γ X W i mi) (hv : SE Γ X W value mv) (hs : swapsWith value (some (.Subscript o i pos')) pos.line X.env = pure false := by rfl) : SS Γ X W (.Assign [.Subscript o i pos'] value pos) (sDPutM mo mi mv) := by
  obtain ⟨to, po, eo⟩ := ho.ex
  obtain ⟨ti, pi, ei⟩ := hi.ex
  obtain ⟨tv, pv, ev⟩ := hv.ex
  refine ⟨_, ps_dput (by omega) po pi pv hs, fun S H h σ env D R G q => exES (t := tv) ev R G q fun d h1 S1 H1 w e1 R1 G1 r1 p1 => exES (t := to) eo R1 G1 p1 fun x h2 S2 H2 u e2 R2 G2 r2 p2 => exES (t := ti) ei R2 G2 p2 fun y h3 S3 H3 v e3 R3 G3 r3 p3 => ?_⟩
  split at p3
  · rename_i n
    split at p3
    · rename_i kvs k hn hk
      split at p3
      · rename_i hl
        obtain ⟨a, us, rfl, ix, z, q3, q4⟩ := dct_at R3 (r2.ext e3) hn
        have rp := rd_put (y := y) q4 hk ((r1.ext e2).ext e3)
        obtain ⟨R4, e4⟩ := R3.store (o := .dK (putK us k w)) (c := .dct (dputM kvs y d k)) ix z ⟨z, _, upd_same, rp⟩
        refine ⟨a, _, rfl, ?_, p3 _ _ _ e4 R4 (G3.mono e4)⟩
        rw [key_rep hk r3]
        exact .k q3 (by rw [← repD_len q4]; exact hl)
      · exact p3.elim
    · exact p3.elim
  · exact p3.elim
end
end Mn
/-! ## MnL -/
set_option Elab.async false
set_option linter.all false
set_option maxRecDepth 100000
/-! Mn, part L: an object that is called. -/
namespace Mn
open PySem PySem.Spec PyProof.Rows L2
section
variable {X : Cx} {CX : CXT} {k : Nat} {f C g : Addr} {fd : FuncData} {ps : List Str} {sp : Sp} {E : L2.St → XK} {p pos : Pos} {fe e : Expr} {es : List Expr} {t : TA} {tf : TE}
def tIS (X : Cx) (C : Addr) (sp : Sp) (E : L2.St → XK) (tf : TE) (t : TA) : TE := fun σ H Q => tf σ H fun y H1 => ∃ a, y = V.ref a ∧ t σ H1 fun vs H2 => StX.InsC X H2 a C ∧ sp (V.ref a :: vs) H2 Q (E σ)
theorem run_iS {pins : List (Addr × Obj)} {σ : L2.St} {H : Hp} {s : Shared} {Q : VK} {a : Addr} {us : List Value} {vs : List V} (c : StX.CallO X.K C g) (F : FnOk X.prog X.w X.K X.mg X.base CX k g fd ps sp) (hr : Room k X.A) (hb : Binds X.K fd ps []) (hx : PassesAt CX X σ (E σ)) (I : Inv X pins σ H s) (hi : StX.InsC X H a C) (r : Vals vs us)
    (h : sp (V.ref a :: vs) H Q (E σ)) : wpAny (model X.prog X.w) X.A (call (.ref a) us) (EP X pins σ Q) X.xe s := by
  obtain ⟨ox, od, J, hd⟩ := StX.insC_at I hi
  have rr : Vals (V.ref a :: vs) (Value.ref a :: us) := .cons rfl r
  have hl : (Value.ref a :: us ++ []).length = ps.length := by
    have e := rr.length
    rw [F.len _ _ _ _ h] at e
    rw [List.append_nil]
    exact e.symm
  have bb := hb s (Value.ref a :: us) I.kIn hl
  rw [List.append_nil] at bb
  refine wpAny_call (PySem.W.kco_code I.kIn J hd c.at_ c.fn c.fi (codeAny_mono (F.run X.A X.stack s H ⟨Value.ref a :: us, []⟩ (Value.ref a :: us) _ Q (E σ) hr I.env0 bb rr h) fun r s' z => ?_))
  cases r with
  | error e => exact hx pins H s e s' I z
  | ok fl =>
    cases fl with
    | ret u => exact I.after z
    | next => exact z.elim
    | brk => exact z.elim
    | cont => exact z.elim
theorem pe_iS (hf : PE X fe tf) (c : StX.CallO X.K C g) (F : FnOk X.prog X.w X.K X.mg X.base CX k g fd ps sp) (hr : Room k X.A) (hb : Binds X.K fd ps []) (hx : ∀ σ, PassesAt CX X σ (E σ)) (ha : PA X (e :: es) t)
    (ht : eval (.Call fe (e :: es) [] pos) X.env = (do callWith pos (← eval fe X.env) [] (backTo pos (starEach (e :: es) X.env)) (backToKw pos (keywordEach [] X.env))) := by rfl) (he : starEach (e :: es) X.env = (false, eval e X.env) :: starEach es X.env := by rfl) (hpl : (backTo pos (starEach es X.env)).any (·.1) = false := by rfl) : PE X (.Call fe (e :: es) [] pos) (tIS X C sp E tf t) := by
  refine ⟨fun pins s σ H Q I h => ?_⟩
  refine Call_ (thn (hf.run pins s σ H _ I h) fun u s1 ⟨y, H1, I1, ry, a, ey, q⟩ => ?_) ht
  subst ey
  obtain rfl : u = Value.ref a := ry
  refine StX.callO_with (thn (ha.run pos pins s1 σ H1 _ I1 q) fun us s2 ⟨vs, H2, I2, r, hi, q2⟩ => ?_) he hpl
  obtain ⟨ox, od, J, hd⟩ := StX.insC_at I2 hi
  exact ⟨⟨C, ox, od, J, hd⟩, run_iS c F hr hb (hx σ) I2 hi r q2⟩
end
structure CoDef (K : PySem.W.Frag) (mg : Str → Option Value) (Γ : Gm) (C qual : Str) (st : Stmt) (ps : List Str) : Prop where
  ex : ∃ (f : Addr) (fd : FuncData), Fun K "__call__" qual st f fd ∧ (∀ us : List Value, us.length = ps.length → bindArgs fd ⟨us, []⟩ = pure (ps.zip us)) ∧ StX.CallO K (Γ.cls C) f
structure CoOk (P : Program) (w : World) (K : PySem.W.Frag) (mg : Str → Option Value) (base : Heap) (Γ : Gm) (k : Nat) (C : Str) (n : Nat) (g : MF) : Prop where
  ex : ∃ (f : Addr) (fd : FuncData) (ps : List Str), StX.CallO K (Γ.cls C) f ∧ FnOk P w K mg base (L2.CX P w) k f fd ps (spM Γ K n g) ∧ Binds K fd ps []
def isIns : MV → Bool
  | .ob _ _ _ => true
  | .ref _ => true
  | _ => false
def mCallO (C : Str) (n : Nat) (g : MF) (mo : ME) (ms : MA) : ME := fun env h => (mo env h).bind fun x h => if isIns x = true then ((ms env h).bind fun ds h => match insAt h x with
  | some (C', _, _) => if C' = C ∧ ds.length + 1 = n then g (x :: ds) h else .stuck
  | none => .stuck) else .stuck
section
variable {P : Program} {w : World} {K : PySem.W.Frag} {mg : Str → Option Value} {base : Heap} {Γ : Gm} {j k n : Nat} {C qual : Str} {ps : List Str} {g : MF}
theorem CoOk.mono (c : CoOk P w K mg base Γ j C n g) (h : j ≤ k) : CoOk P w K mg base Γ k C n g := by
  obtain ⟨f, fd, ps, h1, h2, h3⟩ := c.ex
  exact ⟨f, fd, ps, h1, h2.mono h, h3⟩
theorem co_ok {st : Stmt} {N : List Str} {m : MS} (D : CoDef K mg Γ C qual st ps) (S : FnScope N ps (defScope st))
    (hb : ∀ (f : Addr) (cdv : Value) (A : Around) (outer : List Env) (s : Shared) (H : Hp) (E : XK), Room k (A.deeper (envOfC qual (defScope st) s.heap.objs.size f cdv)) →
      SSs Γ (cxOf (L2.CX P w) P w K mg base N qual (defScope st) f cdv A outer s H E) (fun c d _ H => E c d H) (defBody st) m) : CoOk P w K mg base Γ (k + 1) C ps.length (runF N.length m) := by
  obtain ⟨f, fd, F, b, M⟩ := D.ex
  exact ⟨f, fd, ps, M, fn_ok F S (hb f), .all b⟩
theorem cod_mk {st : Stmt} {f : Addr} {oc : Value} {od an : Option Addr} {osl : Array (Option Value)} {kV doc pm cdv ct : Value} (l : K.lookup f = some ⟨oc, od, .func (PySem.W.fnOf "__call__" qual (defArgs st) (defBody st) (defScope st) .none kV doc pm an cdv ct), osl⟩)
    (c : PySem.W.codeIn K cdv qual = true) (kp : PySem.W.keepIn K (.ref f) = true) (M : StX.CallO K (Γ.cls C) f)
    (h : ∀ us : List Value, us.length = ps.length → bindArgs (PySem.W.fnOf "__call__" qual (defArgs st) (defBody st) (defScope st) .none kV doc pm an cdv ct) ⟨us, []⟩ = pure (ps.zip us)) : CoDef K mg Γ C qual st ps := ⟨f, _, fun_mk l c kp, h, M⟩
variable {X : Cx} {W : WX} {fe e : Expr} {es : List Expr} {mo : ME} {ms : MA} {pos : Pos}
theorem sc_callO (c : CoOk X.prog X.w X.K X.mg X.base Γ k C n g) (hr : Room k X.A) (tk : Takes X W) (hf : SE Γ X W fe mo) (ha : SA Γ X W (e :: es) ms)
    (ht : eval (.Call fe (e :: es) [] pos) X.env = (do callWith pos (← eval fe X.env) [] (backTo pos (starEach (e :: es) X.env)) (backToKw pos (keywordEach [] X.env))) := by rfl) (he : starEach (e :: es) X.env = (false, eval e X.env) :: starEach es X.env := by rfl) (hpl : (backTo pos (starEach es X.env)).any (·.1) = false := by rfl) : SE Γ X W (.Call fe (e :: es) [] pos) (mCallO C n g mo ms) := by
  obtain ⟨f, fd, ps, M, F, hb⟩ := c.ex
  obtain ⟨tf, pf, ef⟩ := hf.ex
  obtain ⟨t, pt, et⟩ := ha.ex
  refine ⟨_, pe_iS (E := WE W) pf M F hr hb (fun σ => passAt tk σ) pt ht he hpl, fun S H h σ env Q R G q => exE_bind (t := tf) ef R G q fun x h1 S1 H1 v e1 R1 G1 r1 p1 => ?_⟩
  split at p1
  case isFalse => exact p1.elim
  rename_i hx
  have hv : ∃ a, v = V.ref a := by
    cases x with
    | ob C ks xs => unfold Rep at r1; obtain ⟨a, _, _, e, _⟩ := r1; exact ⟨a, e⟩
    | ref n => unfold Rep at r1; obtain ⟨a, _, e⟩ := r1; exact ⟨a, e⟩
    | _ => cases hx
  obtain ⟨a, rfl⟩ := hv
  refine ⟨a, rfl, exA_bind (t := t) et R1 G1 p1 fun ds h2 S2 H2 vs e2 R2 G2 r2 p2 => ?_⟩
  split at p2
  · rename_i C' ks xs ei
    split at p2
    · rename_i hc
      obtain ⟨rfl, hn⟩ := hc
      obtain ⟨a', dx, us, ea, q2, q3, q4⟩ := ins_rep R2 (r1.ext e2) ei
      cases ea
      exact ⟨.inr ⟨dx, _, q2⟩, sp_of R2 (repL_cons (r1.ext e2) r2) hn p2⟩
    · exact p2.elim
  · exact p2.elim
end
end Mn
/-! ## MnM -/
set_option Elab.async false
set_option linter.all false
set_option maxRecDepth 100000
/-! Mn, part M: a tuple once. -/
namespace Mn
open PySem PySem.Spec PyProof.Rows L2
theorem tmul1W (l : Addr) (items : Array Value) (n : Nat) (dd : Option Addr) (sl : Array (Option Value)) (u : Tok) : Meets (Builtin.«tuple.__mul__» ⟨[.ref l, .int 1 u], []⟩) (fun _ R s => s.heap.get? l = some { cls := .type "tuple", dict := dd, data := .seq items n, slots := sl } ∧ R (.ok (.ret (Value.ref l))) s) :=
  .of_wp fun prog w A R s h => by
    obtain ⟨hp, g, d, tk, os⟩ := s
    obtain ⟨hl, h⟩ := h
    have f1 := AutoSeq1.idx_int
    wp_walk using wpAny_loadPart' hl
    exact ⟨_, rfl, h⟩
def rMul1 (K : PySem.W.Frag) : R2 := fun x y H Q => ∃ l xs, x = .ref l ∧ y = .int 1 ∧ SqT K H l xs ∧ Q (.ref l) H
theorem op_mul1 {X : Cx} : OpR X (binaryOp .Mult) (rMul1 X.K) := by
  intro pins s σ H x y v u Q I rx ry h
  obtain ⟨l, xs, rfl, rfl, hT, q⟩ := h
  cases rx
  obtain ⟨t, rfl⟩ := ry
  obtain ⟨its, r, ⟨⟨cls, dd, data, sl⟩, ho, hc, n, hd⟩, hs⟩ := I.tuple hT
  simp only at hc hd
  subst hc hd
  refine wpAny_binaryOp_repeat_ref (T := "tuple") (U := "int") (by decide) ⟨_, ho, rfl⟩ (fun s' => typeIs_int s' 1 t) noFill_tuple_mul F.fills_int_mul F.slot_int_rmul repeat_tuple F.slot_int_index.lookup (call_meets F.slot_int_rmul (typeIs_int s 1 t) F.entry_int_rmul (F.args_int_rmul_2 _ _) (int_rmul_tuple 1 t l its.toArray n dd sl) ⟨ho, rfl, ⟨_, ho, rfl⟩, call_meets F.slot_tuple_mul ⟨_, ho, rfl⟩ F.entry_tuple_mul (F.args_tuple_mul_2 _ _) (tmul1W l its.toArray n dd sl t) ⟨ho, ?_⟩⟩)
  exact ⟨.ref l, H, I, rfl, q⟩
def rMulX (K : PySem.W.Frag) : R2 := fun x y H Q => rMulAll K x y H Q ∨ rMul1 K x y H Q
theorem op_mulX {X : Cx} : OpR X (binaryOp .Mult) (rMulX X.K) := fun pins s σ H x y v u Q I rx ry h => by
  rcases h with h | h
  · exact op_mulAll pins s σ H x y v u Q I rx ry h
  · exact op_mul1 pins s σ H x y v u Q I rx ry h
def fMulX (b : Bool) (x y : MV) (h : MH) : Out MV := match x, y with
  | .tup xs, .int k => if k = 1 then .ok (.tup xs) h else fMul b (.tup xs) (.int k) h
  | x, y => fMul b x y h
theorem lift_mulX {Γ : Gm} {K : PySem.W.Frag} {b : Bool} : Lift2 Γ K (rMulX K) (fMulX b) := by
  intro S H h x y u v Q E R rx ry p
  unfold fMulX at p
  split at p
  · split at p
    · rename_i xs k hk
      subst hk
      have rx' := rx
      unfold Rep at rx
      obtain ⟨a, us, rfl, q2, q3⟩ := rx
      exact .inr ⟨a, us, rfl, rep_int ry, sqT_mono (S' := ⟨H, []⟩) (fun a o e => R.sub a o e) q2, p _ _ _ (Ext.refl _ _) R rx'⟩
    · exact .inl (lift_mul S H h _ _ u v Q E R rx ry p)
  · exact .inl (lift_mul S H h _ _ u v Q E R rx ry p)
end Mn
/-! ## MnN -/
set_option Elab.async false
set_option linter.all false
set_option maxRecDepth 100000
/-! Mn, part N: a list's item, augmented. -/
namespace Mn
open PySem PySem.Spec PyProof.Rows L2
def rGetL (K : PySem.W.Frag) : V → V → Hp → VK → Prop := fun o i H Q => ∃ p xs k z, o = .ref p ∧ i = .int k ∧ H p = some (.lst xs) ∧ 0 ≤ k ∧ xs[k.toNat]? = some z ∧ Q z H
theorem get_listP {X : Cx} : PGet X (rGetL X.K) := by
  intro pins s σ H o i ov iv Q I ro ri h
  obtain ⟨p, xs, k, z, rfl, rfl, hp, h0, hz, q⟩ := h
  cases ro
  obtain ⟨t, rfl⟩ := ri
  obtain ⟨its, n, r, e, hs⟩ := I.lst hp
  obtain ⟨w, ew, rw'⟩ := r.get hz
  have hl := r.length
  have hn := line63
  have hk := (List.getElem?_eq_some_iff.mp hz).1
  exact wpAny_getItem_list (l := p) (items := its.toArray) ⟨_, e, rfl, n, rfl⟩ h0 (by omega) (by simpa using ew) ⟨z, H, I, rw', q⟩
def fGetL : MV → MV → MH → Out MV
  | .ref n, .int k, h => match h[n]? with
    | some (.lst xs) => if 0 ≤ k then (match xs[k.toNat]? with
      | some d => .ok d h
      | none => .stuck) else .stuck
    | _ => .stuck
  | _, _, _ => .stuck
theorem lift_getL {Γ : Gm} {K : PySem.W.Frag} : Lift2 Γ K (rGetL K) fGetL := by
  intro S H h x y u v Q E R rx ry p
  cases x with
  | ref n =>
    cases y with
    | int k =>
      unfold fGetL at p
      simp only at p
      split at p
      · rename_i xs hn
        split at p
        · rename_i h0
          split at p
          · rename_i d hd
            unfold Rep at rx
            obtain ⟨a, q1, rfl⟩ := rx
            obtain ⟨z, us, q3, q4⟩ := R.cell _ _ a hn q1
            obtain ⟨w, ew, rw_⟩ := repL_get q4 hd
            exact ⟨a, us, k, w, rfl, rep_int ry, q3, h0, ew, p _ _ _ (Ext.refl _ _) R rw_⟩
          · exact p.elim
        · exact p.elim
      · exact p.elim
    | _ => exact p.elim
  | _ => exact p.elim
/-- o[i] op= e -/
def sAugS (mo mi : ME) (f : MV → MV → MH → Out MV) (me : ME) : MS := fun env h => (mo env h).andS env fun o h => (mi env h).andS env fun i h => (fGetL o i h).andS env fun x h => (me env h).andS env fun y h => (f x y h).andS env fun z h => (fSetL o i z h).andS env fun _ h => .ok .nx env h
section
variable {Γ : Gm} {X : Cx} {W : WX} {o i e : Expr} {mo mi me : ME} {pos tpos : Pos} {op : Operator} {tip : TIp} {f : MV → MV → MH → Out MV}
theorem postS_of {γ β : Type} {S : Sh} {H : Hp} {D : L2.Ends} {σ : L2.St} {env : MEnv} {x : Out γ} {k : γ → MH → OutS} {R' : Sh → γ → β → Prop} {QQ : β → Hp → Prop} (G : REnv Γ X.K S env σ) (hp : PostS Γ X.K S H D W (x.andS env k)) (hk : ∀ a h1 S1 H1 b, Ext S H S1 H1 → Rel Γ X.K S1 h1 H1 → REnv Γ X.K S1 env σ → R' S1 a b → PostS Γ X.K S1 H1 D W (k a h1) → QQ b H1) : Post Γ X.K R' S H QQ (WE' W σ) x := by
  cases x with
  | ok a h1 => exact fun S' H' b e r q => hk a h1 S' H' b e r (G.mono e) q (PostS.ext hp e)
  | exc C xs h1 => exact fun S' H' dd e r q => hp S' H' σ dd e r (G.mono e) q
  | stuck => exact hp
theorem ss_augS (ho : SE Γ X W o mo) (hi : SE Γ X W i mi) (he : SE Γ X W e me) (hp : PIp X op tip) (hl : Lift2 Γ X.K tip f) (ha : ∀ ov iv new, augStore i ov iv new = (do holding [new, ov, iv] (setItem ov iv new); release [new, ov, iv] []; pure .next) := by intros; rfl) : SS Γ X W (.AugAssign (.Subscript o i tpos) op e pos) (sAugS mo mi f me) := by
  obtain ⟨to, po, eo⟩ := ho.ex
  obtain ⟨ti, pi, ei⟩ := hi.ex
  obtain ⟨te, pe, ee⟩ := he.ex
  refine ⟨_, ps_augS po pi get_listP pe hp set_list ha, fun S H h σ env D R G q => exES (t := to) eo R G q fun x h1 S1 H1 u e1 R1 G1 r1 p1 => exES (t := ti) ei R1 G1 p1 fun y h2 S2 H2 v e2 R2 G2 r2 p2 => ?_⟩
  exact lift_getL S2 H2 h2 x y u v _ (WE' W σ) R2 (r1.ext e2) r2 (postS_of G2 p2 fun d h3 S3 H3 w e3 R3 G3 r3 p3 => exES (t := te) ee R3 G3 p3 fun z h4 S4 H4 w2 e4 R4 G4 r4 p4 =>
    hl S4 H4 h4 d z w w2 _ (WE' W σ) R4 (r3.ext e4) r4 (postS_of G4 p4 fun nw h5 S5 H5 w3 e5 R5 G5 r5 p5 =>
      lift_setL S5 H5 h5 x y nw u v w3 _ (WE' W σ) R5 ((((r1.ext e2).ext e3).ext e4).ext e5) (((r2.ext e3).ext e4).ext e5) r5 (postS_of (R' := Rep Γ X.K) G5 p5 fun _ h6 S6 H6 _ e6 R6 G6 _ p6 => p6 S6 H6 σ (Ext.refl _ _) R6 G6)))
end
end Mn
/-! ## MnV -/
set_option Elab.async false
set_option linter.all false
set_option maxRecDepth 100000
/-! Mn, part V: more about comprehensions of numbers. -/
namespace Mn
open PySem PySem.Spec PyProof.Rows L2
local macro_rules | `(tactic| walk_at "hp") => `(tactic| first
  | assumption
  | exact set_same (by assumption)
  | exact app_same
  | exact app_old (by assumption))
local macro_rules | `(tactic| walk_at "op") => `(tactic| with_reducible first
  | assumption
  | exact f_add | exact f_ii0 | exact f_ui | exact f_int | exact f_intB | exact f_max | exact f_min | exact f_ip
  | exact f_eqI | exact f_neI
  | exact f_lenT | exact f_lenF | exact f_lenS | exact f_tupT | exact f_tupF | exact f_tupS
  | exact f_lenR (by walk_at "hp") | exact f_tupR (by walk_at "hp")
  | (refine' f_mod ?_; omega)
  | (refine' f_div ?_ ?_ <;> omega)
  | exact f_pow (by decide)
  | exact f_isN1 | exact f_notN1
  | exact f_isN0 (by with_unfolding_all (intro q; cases q))
  | exact f_notN0 (by with_unfolding_all (intro q; cases q))
  | exact f_addT (by walk_at "sz")
  | exact f_slT | exact f_slF | exact f_slR (by walk_at "hp")
  | exact f_rev (by walk_at "hp"))
local macro_rules | `(tactic| walk_at "sz") => `(tactic| (refine sz_small ?_; simp only [List.length_cons, List.length_nil, List.length_append, List.length_map]; omega))
local macro_rules | `(tactic| walk_at "ev") => `(tactic| with_reducible first
  | assumption
  | exact ev_C
  | exact ev_V (by with_unfolding_all rfl)
  | exact ev_N
  | exact ev_oN
  | (refine' ev_2 ?a ?b ?c; (case a => walk_at "ev"); (case b => walk_at "ev"); (case c => walk_at "op"))
  | (refine' ev_1 ?a ?b; (case a => walk_at "ev"); (case b => walk_at "op"))
  | (refine' ev_F ?a ?b; (case a => walk_at "ev"); (case b => walk_at "op"))
  | (refine' ev_Cs ?a ?b; (case a => walk_at "ev"); (case b => walk_at "ev"))
  | (refine' ev_call ?a ?n ?b; (case a => walk_at "ev"); (case n => with_unfolding_all rfl); (case b => walk_at "op"))
  | (refine' ev_T ?a; (case a => walk_at "ev"))
  | (refine' ev_tnot ?a; (case a => walk_at "ev"))
  | (refine' ev_tup ?a ?b; (case a => walk_at "ev"); (case b => walk_at "sz"))
  | (refine' ev_lstF ?a ?b; (case a => walk_at "ev"); (case b => walk_at "sz"))
  | (refine' ev_lstT ?a ?b; (case a => walk_at "ev"); (case b => walk_at "sz"))
  | (refine' ev_oS ?a; (case a => walk_at "ev"))
  | (refine' ev_sl ?a ?b ?c ?d; (case a => walk_at "ev"); (case b => walk_at "ev"); (case c => walk_at "ev"); (case d => walk_at "op"))
  | (refine' ev_not ?a; (case a => walk_at "ev"))
  | (refine' ev_m0 ?a ?b ?c; (case a => walk_at "ev"); (case b => exact tyc_R (by walk_at "hp")); (case c => walk_at "op"))
  | (refine' ev_m ?a ?b ?c ?d; (case a => walk_at "ev"); (case b => exact tyc_R (by walk_at "hp")); (case c => walk_at "ev"); (case d => walk_at "op"))
  | (refine' it_range1 ?a ?b; (case a => walk_at "ev"); (case b => omega))
  | (refine' it_range2 ?a ?b; (case a => walk_at "ev"); (case b => omega))
  | (refine' it_T ?a; (case a => walk_at "ev"))
  | (refine' it_F ?a; (case a => walk_at "ev")))
local macro_rules | `(tactic| walk_at "nf") => `(tactic| (simp (config := { failIfUnchanged := false }) only [List.set_cons_succ, List.set_cons_zero, List.map_cons, List.map_nil, List.length_cons, List.length_nil, List.cons_append, List.nil_append, List.replicate]))
local macro_rules | `(tactic| walk_at "set") => `(tactic| (refine en_seq ?_; refine' en_set ?e ?_; (case e => walk_at "ev"); walk_at "nf"))
local macro_rules | `(tactic| walk_at "expr") => `(tactic| (refine en_seq ?_; refine' en_expr ?e ?_; (case e => walk_at "ev"); walk_at "nf"))
theorem ne_of_len {ls : List Int} (h : 1 ≤ ls.length) : ls ≠ [] := by intro z; subst z; simp at h
section
variable {e : ME} {t : MT} {env : MEnv} {h : MH} {i : Nat}
theorem comp_nums {w : Nat → Int} {s N : Nat} (he : ∀ j : Nat, j < N → e (env.set i (some (.int j))) h = .ok (.int (w (s + j))) h) (hN : N ≤ 1000000) : compL (gNm i) tYesM e env (rangeM 0 N) [] h = .ok (nums (wtake w s N)) h := by
  rw [compL_map (fun x => match x with | .int t => .int (w (s + t.toNat)) | x => x) (by rw [rangeM_len]; simp only [List.length_nil]; omega) (fun x hx => by
    obtain ⟨j, rfl, hj⟩ := rangeM_mem hx
    have := he j hj
    simpa using this)]
  rw [List.nil_append]
  congr 1
  unfold rangeM nums wtake
  simp only [List.map_map]
  refine List.map_congr_left fun j _ => ?_
  simp
theorem comp_mapN {g : Int → Int} {xs : List Int} (he : ∀ x ∈ xs, e (env.set i (some (.int x))) h = .ok (.int (g x)) h) (hN : xs.length ≤ 1000000) : compL (gNm i) tYesM e env (nums xs) [] h = .ok (nums (xs.map g)) h := by
  rw [compL_map (fun x => match x with | .int t => .int (g t) | x => x) (by simp only [List.length_nil, List.length_map]; omega) (fun x hx => by
    obtain ⟨j, hj, rfl⟩ := List.mem_map.mp hx
    exact he j hj)]
  rw [List.nil_append]
  congr 1
  unfold nums
  simp only [List.map_map]
  refine List.map_congr_left fun j _ => ?_
  simp
theorem comp_filter {P : Int → Bool} {xs : List Int} {acc : List MV} (ht : ∀ x, t (env.set i (some (.int x))) h = .ok (P x) h) (he : ∀ x, e (env.set i (some (.int x))) h = .ok (.int x) h) (hs : acc.length + xs.length ≤ 1000000) : compL (gNm i) t e env (nums xs) acc h = .ok (acc ++ nums (xs.filter P)) h := by
  induction xs generalizing acc with
  | nil => simp [compL]
  | cons x xs ih =>
    show compL (gNm i) t e env (.int x :: nums xs) acc h = _
    unfold compL
    simp only [List.length_cons] at hs
    cases c : P x with
    | true =>
      rw [compT_in (by rw [ht, c]) (he x) (by omega)]
      show compL _ _ _ _ _ _ _ = _
      rw [ih (by simp; omega), List.filter_cons, c]
      simp
    | false =>
      rw [compT_out (by rw [ht, c])]
      show compL _ _ _ _ _ _ _ = _
      rw [ih (by omega), List.filter_cons, c]
      simp
end
theorem lw_map {hs ls : List Int} {g : Int → Int} {t : Nat} (hl : ls ≠ []) : lw (hs.map g) (ls.map g) t = g (lw hs ls t) := by
  have hl2 : 0 < ls.length := List.length_pos_iff.mpr hl
  unfold lw
  rw [List.length_map, List.length_map]
  split
  · rename_i c
    simp [List.getD, List.getElem?_eq_getElem c]
  · have c := Nat.mod_lt (t - hs.length) hl2
    simp [List.getD, List.getElem?_eq_getElem c]
theorem f_mulI {m n : Int} {h : MH} (hj : (-(2 ^ 64) < m ∧ m < 2 ^ 64) ∨ (-(2 ^ 64) < n ∧ n < 2 ^ 64)) : fMul false (.int m) (.int n) h = .ok (.int (m * n)) h := by
  refine f_mul ?_
  unfold cMul
  rcases hj with hj | hj <;> simp only [hj.1, hj.2, decide_true, Bool.and_self, Bool.or_true, Bool.true_or]
theorem Short.congr {w u : Nat → Int} {v : MV} {N P N' P' : Nat} (S : Short w v N P) (e : ∀ t, w t = u t) (h1 : N ≤ N') (h2 : P ≤ P') : Short u v N' P' := by
  have e' : w = u := funext e
  subst e'
  obtain ⟨n, p, nf, a, b, rfl⟩ := S.ex
  exact ⟨n, p, nf, by omega, by omega, rfl⟩
theorem Dr.lt {h : MH} {r : Nat} (D : Dr h r) : r < h.length := by obtain ⟨xs, e, _⟩ := D; exact lt_of_get e
theorem Dr.app {h g : MH} {r : Nat} (D : Dr h r) : Dr (h ++ g) r := by obtain ⟨xs, e, hx⟩ := D; exact ⟨xs, app_old e, hx⟩
end Mn
/-! ## MnPA -/
set_option Elab.async false
set_option linter.all false
set_option maxRecDepth 100000
namespace Mn
open PySem PySem.Spec PyProof.Rows L2
local macro_rules | `(tactic| walk_at "hp") => `(tactic| first
  | assumption
  | exact set_same (by assumption)
  | exact app_same
  | exact app_old (by assumption))
local macro_rules | `(tactic| walk_at "op") => `(tactic| with_reducible first
  | assumption
  | exact f_add | exact f_ii0 | exact f_ui | exact f_int | exact f_intB | exact f_max | exact f_min | exact f_ip
  | exact f_eqI | exact f_neI
  | exact f_lenT | exact f_lenF | exact f_lenS | exact f_tupT | exact f_tupF | exact f_tupS
  | exact f_lenR (by walk_at "hp") | exact f_tupR (by walk_at "hp")
  | (refine' f_mod ?_; omega)
  | (refine' f_div ?_ ?_ <;> omega)
  | exact f_pow (by decide)
  | exact f_isN1 | exact f_notN1
  | exact f_isN0 (by with_unfolding_all (intro q; cases q))
  | exact f_notN0 (by with_unfolding_all (intro q; cases q))
  | exact f_addT (by walk_at "sz")
  | exact f_slT | exact f_slF | exact f_slR (by walk_at "hp")
  | exact f_rev (by walk_at "hp"))
local macro_rules | `(tactic| walk_at "sz") => `(tactic| (refine sz_small ?_; simp only [List.length_cons, List.length_nil, List.length_append, List.length_map]; omega))
local macro_rules | `(tactic| walk_at "ev") => `(tactic| with_reducible first
  | assumption
  | exact ev_C
  | exact ev_V (by with_unfolding_all rfl)
  | exact ev_N
  | exact ev_oN
  | (refine' ev_2 ?a ?b ?c; (case a => walk_at "ev"); (case b => walk_at "ev"); (case c => walk_at "op"))
  | (refine' ev_1 ?a ?b; (case a => walk_at "ev"); (case b => walk_at "op"))
  | (refine' ev_F ?a ?b; (case a => walk_at "ev"); (case b => walk_at "op"))
  | (refine' ev_Cs ?a ?b; (case a => walk_at "ev"); (case b => walk_at "ev"))
  | (refine' ev_call ?a ?n ?b; (case a => walk_at "ev"); (case n => with_unfolding_all rfl); (case b => walk_at "op"))
  | (refine' ev_T ?a; (case a => walk_at "ev"))
  | (refine' ev_tnot ?a; (case a => walk_at "ev"))
  | (refine' ev_tup ?a ?b; (case a => walk_at "ev"); (case b => walk_at "sz"))
  | (refine' ev_lstF ?a ?b; (case a => walk_at "ev"); (case b => walk_at "sz"))
  | (refine' ev_lstT ?a ?b; (case a => walk_at "ev"); (case b => walk_at "sz"))
  | (refine' ev_oS ?a; (case a => walk_at "ev"))
  | (refine' ev_sl ?a ?b ?c ?d; (case a => walk_at "ev"); (case b => walk_at "ev"); (case c => walk_at "ev"); (case d => walk_at "op"))
  | (refine' ev_not ?a; (case a => walk_at "ev"))
  | (refine' ev_m0 ?a ?b ?c; (case a => walk_at "ev"); (case b => exact tyc_R (by walk_at "hp")); (case c => walk_at "op"))
  | (refine' ev_m ?a ?b ?c ?d; (case a => walk_at "ev"); (case b => exact tyc_R (by walk_at "hp")); (case c => walk_at "ev"); (case d => walk_at "op"))
  | (refine' it_range1 ?a ?b; (case a => walk_at "ev"); (case b => omega))
  | (refine' it_range2 ?a ?b; (case a => walk_at "ev"); (case b => omega))
  | (refine' it_T ?a; (case a => walk_at "ev"))
  | (refine' it_F ?a; (case a => walk_at "ev")))
local macro_rules | `(tactic| walk_at "nf") => `(tactic| (simp (config := { failIfUnchanged := false }) only [List.set_cons_succ, List.set_cons_zero, List.map_cons, List.map_nil, List.length_cons, List.length_nil, List.cons_append, List.nil_append, List.replicate]))
local macro_rules | `(tactic| walk_at "set") => `(tactic| (refine en_seq ?_; refine' en_set ?e ?_; (case e => walk_at "ev"); walk_at "nf"))
local macro_rules | `(tactic| walk_at "expr") => `(tactic| (refine en_seq ?_; refine' en_expr ?e ?_; (case e => walk_at "ev"); walk_at "nf"))

/-! ### objects -/
section
variable {Q : OutS → Prop} {env : MEnv} {h h1 h2 h' : MH} {mo mv : ME} {y d : MV} {n m : Nat} {C C' D f : Str} {ks : List Str} {xs ds : List MV} {tab : CTab} {frz : Bool} {g : MF} {a : MA}
theorem en_fld (hv : mv env h = .ok y h1) (ho : mo env h1 = .ok (.ref n) h2) (hc : h2[n]? = some (.ins C ks xs)) (ok : okF tab C f = true ∧ ks.length < 1000) (k : Q (.ok .nx env (h2.set n (.ins C (putKs f ks) (putXs f y ks xs))))) : Ends Q (sFldM tab f mo mv env h) := by
  unfold sFldM Ends
  rw [hv]
  show Q ((mo env h1).andS env _)
  rw [ho]
  show Q (match h2[n]? with | some (.ins C ks xs) => _ | _ => _)
  rw [hc]
  simp only
  rw [if_pos ok]
  exact k
theorem ev_make (ha : a env h = .ok ds h1) (hn : ds.length + 1 = m) (hg : g (.ref h1.length :: ds) (h1 ++ [.ins C [] []]) = .ok .non h2) (hc : h2[h1.length]? = some (.ins C' ks xs)) : mMake C true m g a env h = .ok (.ob C' ks xs) (h2.set h1.length .dead) := by
  unfold mMake
  rw [ha]
  show (if ds.length + 1 = m then _ else _) = _
  rw [if_pos hn, hg]
  simp only [if_true]
  rw [hc]
theorem ex_make (ha : a env h = .ok ds h1) (hn : ds.length + 1 = m) (hg : g (.ref h1.length :: ds) (h1 ++ [.ins C [] []]) = .exc D xs h2) : mMake C frz m g a env h = .exc D xs h2 := by
  unfold mMake
  rw [ha]
  show (if ds.length + 1 = m then _ else _) = _
  rw [if_pos hn, hg]
theorem f_fld (hi : insAt h y = some (C, ks, xs)) (ok : okF tab C f = true) (hd : fldOf ks xs f = some d) : fFld tab f y h = .ok d h := by
  unfold fFld
  rw [hi]
  simp only
  rw [if_pos ok, hd]
end
/-! ### parity automata -/
def tabP : CTab := [("ParityAutomaton", ["letters", "start", "priorities", "rows"])]
/-- a row as a tuple or a list -/
def rv (b : Bool) (r : List Int) : MV := if b = true then .tup (nums r) else .fl (nums r)
theorem rv_seq {b : Bool} {r : List Int} : SeqV (rv b r) r := by
  cases b
  · exact .inr rfl
  · exact .inl rfl
def rvs (b : Bool) (rw : List (List Int)) : MV := if b = true then .tup (rw.map (rv true)) else .fl (rw.map (rv false))
def pa (L s : Int) (pr : List Int) (rw : List (List Int)) : MV := .ob "ParityAutomaton" ["letters", "start", "priorities", "rows"] [.int L, .int s, .tup (nums pr), rvs true rw]
structure VP (L s : Int) (pr : List Int) (rw : List (List Int)) : Prop where
  l1 : 1 ≤ L
  n1 : 1 ≤ rw.length
  small : rw.length ≤ 1000 ∧ L ≤ 1000
  pl : pr.length = rw.length
  s0 : 0 ≤ s
  s1 : s < rw.length
  row : ∀ r ∈ rw, (r.length : Int) = L ∧ ∀ x ∈ r, 0 ≤ x ∧ x < rw.length
  pos : ∀ p ∈ pr, 0 ≤ p
section
variable {L s : Int} {pr : List Int} {rw : List (List Int)} {h : MH}
theorem pa_letters : fFld tabP "letters" (pa L s pr rw) h = .ok (.int L) h := f_fld rfl (by decide +kernel) rfl
theorem pa_start : fFld tabP "start" (pa L s pr rw) h = .ok (.int s) h := f_fld rfl (by decide +kernel) rfl
theorem pa_prio : fFld tabP "priorities" (pa L s pr rw) h = .ok (.tup (nums pr)) h := f_fld rfl (by decide +kernel) rfl
theorem pa_rows : fFld tabP "rows" (pa L s pr rw) h = .ok (rvs true rw) h := f_fld rfl (by decide +kernel) rfl
theorem rvs_seq {b : Bool} : seqAt h (rvs b rw) = some (rw.map (rv b)) := by cases b <;> rfl
theorem rvs_len {b : Bool} : fLen [rvs b rw] h = .ok (.int rw.length) h := by
  have e : ((rw.map (rv b)).length : Int) = rw.length := by simp
  cases b <;> · rw [← e]; rfl
theorem rvs_it {b : Bool} {e : ME} {env : MEnv} {h1 : MH} (he : e env h = .ok (rvs b rw) h1) : iSeq e env h = .ok (.st (rw.map (rv b))) h1 := by
  cases b
  · exact it_F he
  · exact it_T he
theorem rvs_ix {b : Bool} {k : Int} (h0 : 0 ≤ k) (hk : k < rw.length) : fIx (rvs b rw) (.int k) h = .ok (rv b (rw.getD k.toNat [])) h := by
  refine f_ix rvs_seq (atI_z h0 ?_)
  have hk' : k.toNat < rw.length := by omega
  rw [List.getElem?_map, List.getElem?_eq_getElem hk']
  simp [List.getD, List.getElem?_eq_getElem hk']
end
def belowM : MF := runF 3 (sSeq (sFor (iSeq (mV 0)) (gNm 2) (sIf (tOrM (mT (m2 fLt (mV 2) (mC (.int 0)))) (mT (m2 fGe (mV 2) (mV 1)))) (sRet (mC (.bl false))) (sNil))) (sRet (mC (.bl true))))
theorem belowM_ok {x : MV} {ns : List Int} {K : Int} {h : MH} (sx : SeqV x ns) (hz : ∀ x ∈ ns, 0 ≤ x ∧ x < K) : belowM [x, .int K] h = .ok (.bl true) h := by
  unfold belowM
  refine runF_ends (P := fun o => o = _) ?_
  walk_at "nf"
  refine en_seq ?_
  refine' en_for (xs := nums ns) (h1 := h) ?e ?_
  case e => rcases sx with rfl | rfl <;> walk_at "ev"
  refine en_forL (fun j env hh => hh = h ∧ ∃ o, env = [some x, some (.int K), o]) ⟨rfl, _, rfl⟩ ?_ ?_
  · rintro j v env hh hx ⟨rfl, o, rfl⟩
    obtain ⟨y, hy, rfl⟩ := List.mem_map.mp (List.mem_of_getElem? hx)
    obtain ⟨h1, h2⟩ := hz y hy
    show Ends _ (sIf _ _ _ [some x, some (.int K), some (.int y)] hh)
    have i2 : fLt (.int y) (.int 0) hh = .ok (.bl false) hh := by
      have : fLt (.int y) (.int 0) hh = .ok (.bl (decide (y < 0))) hh := f_ii0
      rw [this, decide_eq_false (by omega)]
    have i3 : fGe (.int y) (.int K) hh = .ok (.bl false) hh := by
      have : fGe (.int y) (.int K) hh = .ok (.bl (decide (y ≥ K))) hh := f_ii0
      rw [this, decide_eq_false (by omega)]
    refine' en_if (v := false) ?e (fun c => by cases c) ?_
    case e =>
      refine' ev_torF ?t1 ?t2
      case t1 => walk_at "ev"
      case t2 => walk_at "ev"
    · intro _
      exact en_nil ⟨rfl, _, rfl⟩
  · rintro env hh ⟨rfl, o, rfl⟩
    refine' en_ret ?e ?_
    case e => walk_at "ev"
    rfl
theorem ev_chainT {f g : MV → MV → MH → Out MV} {a b c : ME} {env : MEnv} {h h1 h2 h3 h4 h5 : MH} {x y w z : MV} (ha : a env h = .ok x h1) (hb : b env h1 = .ok y h2) (hf : f x y h2 = .ok (.bl true) h3) (hc : c env h3 = .ok w h4) (hg : g y w h4 = .ok z h5) : mChain f g a b c env h = .ok z h5 := by
  unfold mChain
  rw [ha]
  show (b env h1).bind _ = _
  rw [hb]
  show (f x y h2).bind _ = _
  rw [hf]
  show (c env h3).bind _ = _
  rw [hc]
  exact hg
theorem andT {a b : ME} {env : MEnv} {h h1 h2 : MH} (ha : a env h = .ok (.bl true) h1) (hb : b env h1 = .ok (.bl true) h2) : mAnd a b env h = .ok (.bl true) h2 := ev_and (v := true) (w := true) ha (fun _ => hb) (fun q => by cases q)
theorem cmpT {x y : Int} {h : MH} {P : Prop} [Decidable P] {f : MV → MV → MH → Out MV} (e : f (.int x) (.int y) h = .ok (.bl (decide P)) h) (p : P) : f (.int x) (.int y) h = .ok (.bl true) h := by rw [e, decide_eq_true p]
def pinitM : MF := runF 8 (sSeq (sSet 5 (mAnd (m2 fGe (mV 1) (mC (.int 1))) (mAnd (m2 fGe (mF fLen (maC (mV 4) (maN))) (mC (.int 1))) (m2 (fEq false) (mF fLen (maC (mV 3) (maN))) (mF fLen (maC (mV 4) (maN))))))) (sSeq (sSet 5 (mAnd (mV 5) (mChain fLe fLt (mC (.int 0)) (mV 2) (mF fLen (maC (mV 4) (maN)))))) (sSeq (sFor (iSeq (mV 4)) (gNm 6) (sSet 5 (mAnd (mV 5) (mAnd (m2 (fEq false) (mF fLen (maC (mV 6) (maN))) (mV 1)) (mCall 2 belowM (maC (mV 6) (maC (mF fLen (maC (mV 4) (maN))) (maN)))))))) (sSeq (sFor (iSeq (mV 3)) (gNm 7) (sSet 5 (mAnd (mV 5) (m2 fGe (mV 7) (mC (.int 0)))))) (sSeq (sIf (tNotM (mT (mV 5))) (sRaise "InvalidAutomaton") (sNil)) (sSeq (sFldM tabP "letters" (mV 0) (mV 1)) (sSeq (sFldM tabP "start" (mV 0) (mV 2)) (sSeq (sFldM tabP "priorities" (mV 0) (mF fTuple (maC (mV 3) (maN)))) (sFldM tabP "rows" (mV 0) (mF fTuple (maC (mComp false (iSeq (mV 4)) (gNm 6) (tYesM) (mF fTuple (maC (mV 6) (maN))) [6]) (maN))))))))))))
theorem pinit_ok {L s : Int} {pr : List Int} {rw : List (List Int)} {b : Bool} {x : MV} {h : MH} {n : Nat} (V : VP L s pr rw) (sx : SeqV x pr) (hn : h[n]? = some (.ins "ParityAutomaton" [] [])) :
    ∃ h', pinitM [.ref n, .int L, .int s, x, rvs b rw] h = .ok .non h' ∧ h'[n]? = some (.ins "ParityAutomaton" ["letters", "start", "priorities", "rows"] [.int L, .int s, .tup (nums pr), rvs true rw]) ∧ Kp n h h' := by
  suffices g : Does (fun v h' => v = .non ∧ h'[n]? = some (.ins "ParityAutomaton" ["letters", "start", "priorities", "rows"] [.int L, .int s, .tup (nums pr), rvs true rw]) ∧ Kp n h h') (pinitM [.ref n, .int L, .int s, x, rvs b rw] h) by
    obtain ⟨v, h', e, rfl, q1, q2⟩ := g
    exact ⟨h', e, q1, q2⟩
  have v1 := V.l1
  have v2 := V.n1
  have v3 := V.pl
  have v4 := V.s0
  have v5 := V.s1
  unfold pinitM
  refine runF_does ?_
  walk_at "nf"
  have lr := rvs_len (rw := rw) (b := b) (h := h)
  have lp := sx.len (h := h)
  have c1 : fGe (.int L) (.int 1) h = .ok (.bl true) h := cmpT (P := L ≥ 1) f_ii0 v1
  have c2 : fGe (.int (rw.length : Int)) (.int 1) h = .ok (.bl true) h := cmpT (P := (rw.length : Int) ≥ 1) f_ii0 (by omega)
  have c3 : fEq false (.int (pr.length : Int)) (.int (rw.length : Int)) h = .ok (.bl true) h := cmpT f_eqI (by omega)
  have c4 : fLe (.int 0) (.int s) h = .ok (.bl true) h := cmpT (P := (0 : Int) ≤ s) f_ii0 v4
  have c5 : fLt (.int s) (.int (rw.length : Int)) h = .ok (.bl true) h := cmpT (P := s < (rw.length : Int)) f_ii0 v5
  refine en_seq ?_
  refine' en_set (d := .bl true) (h1 := h) ?e ?_
  case e => exact andT (h1 := h) (by walk_at "ev") (andT (h1 := h) (by walk_at "ev") (by walk_at "ev"))
  walk_at "nf"
  refine en_seq ?_
  refine' en_set (d := .bl true) (h1 := h) ?e ?_
  case e => exact andT (h1 := h) (by walk_at "ev") (ev_chainT (h1 := h) (h2 := h) (h3 := h) (h4 := h) (by walk_at "ev") (by walk_at "ev") c4 (by walk_at "ev") c5)
  walk_at "nf"
  -- the rows
  refine en_seq ?_
  refine' en_for (xs := rw.map (rv b)) (h1 := h) ?e ?_
  case e => exact rvs_it (by walk_at "ev")
  refine en_forL (fun j env hh => hh = h ∧ ∃ o, env = [some (.ref n), some (.int L), some (.int s), some x, some (rvs b rw), some (.bl true), o, none]) ⟨rfl, _, rfl⟩ ?_ ?_
  · rintro j v env hh hx ⟨rfl, o, rfl⟩
    obtain ⟨r, hr, rfl⟩ := List.mem_map.mp (List.mem_of_getElem? hx)
    obtain ⟨r1, r2⟩ := V.row r hr
    show Ends _ (sSet _ _ [some (.ref n), some (.int L), some (.int s), some x, some (rvs b rw), some (.bl true), some (rv b r), none] hh)
    have n1 := (rv_seq (b := b) (r := r)).len (h := hh)
    have e1 : fEq false (.int (r.length : Int)) (.int L) hh = .ok (.bl true) hh := cmpT f_eqI r1
    have b1 := belowM_ok (h := hh) (rv_seq (b := b) (r := r)) r2
    refine' en_set (d := .bl true) (h1 := hh) ?e ?_
    case e => exact andT (h1 := hh) (by walk_at "ev") (andT (h1 := hh) (by walk_at "ev") (by walk_at "ev"))
    exact ⟨rfl, _, rfl⟩
  rintro env hh ⟨rfl, o, rfl⟩
  -- the priorities
  refine en_seq ?_
  refine' en_for (xs := nums pr) (h1 := hh) ?e ?_
  case e => rcases sx with rfl | rfl <;> walk_at "ev"
  refine en_forL (fun j env h' => h' = hh ∧ ∃ o o', env = [some (.ref n), some (.int L), some (.int s), some x, some (rvs b rw), some (.bl true), o, o']) ⟨rfl, _, _, rfl⟩ ?_ ?_
  · rintro j v env h' hx ⟨rfl, o, o', rfl⟩
    obtain ⟨p, hp, rfl⟩ := List.mem_map.mp (List.mem_of_getElem? hx)
    show Ends _ (sSet _ _ [some (.ref n), some (.int L), some (.int s), some x, some (rvs b rw), some (.bl true), o, some (.int p)] h')
    have e1 : fGe (.int p) (.int 0) h' = .ok (.bl true) h' := cmpT (P := p ≥ 0) f_ii0 (V.pos p hp)
    refine' en_set (d := .bl true) (h1 := h') ?e ?_
    case e => exact andT (h1 := h') (by walk_at "ev") (by walk_at "ev")
    exact ⟨rfl, _, _, rfl⟩
  rintro env h' ⟨rfl, o, o', rfl⟩
  refine en_seq ?_
  refine' en_if (v := false) ?e (fun c => by cases c) ?_
  case e => exact ev_tnot (v := true) (by walk_at "ev")
  intro _
  refine en_nil ?_
  have tp := sx.tup (h := h')
  -- the fields
  refine en_seq ?_
  refine' en_fld ?f1 ?f2 hn ⟨by decide +kernel, by decide⟩ ?_
  case f1 => walk_at "ev"
  case f2 => walk_at "ev"
  have hn1 := set_same (c' := .ins "ParityAutomaton" ["letters"] [.int L]) hn
  have K1 : Kp n h' (h'.set n (.ins "ParityAutomaton" ["letters"] [.int L])) := Kp.set
  show Ends _ (sSeq _ _ [some (.ref n), some (.int L), some (.int s), some x, some (rvs b rw), some (.bl true), o, o'] (h'.set n (.ins "ParityAutomaton" ["letters"] [.int L])))
  generalize h'.set n (.ins "ParityAutomaton" ["letters"] [.int L]) = g1 at *
  refine en_seq ?_
  refine' en_fld ?f3 ?f4 hn1 ⟨by decide +kernel, by decide⟩ ?_
  case f3 => walk_at "ev"
  case f4 => walk_at "ev"
  have hn2 := set_same (c' := .ins "ParityAutomaton" ["letters", "start"] [.int L, .int s]) hn1
  have K2 : Kp n g1 (g1.set n (.ins "ParityAutomaton" ["letters", "start"] [.int L, .int s])) := Kp.set
  show Ends _ (sSeq _ _ [some (.ref n), some (.int L), some (.int s), some x, some (rvs b rw), some (.bl true), o, o'] (g1.set n (.ins "ParityAutomaton" ["letters", "start"] [.int L, .int s])))
  generalize g1.set n (.ins "ParityAutomaton" ["letters", "start"] [.int L, .int s]) = g2 at *
  have tp := sx.tup (h := g2)
  refine en_seq ?_
  refine' en_fld ?f5 ?f6 hn2 ⟨by decide +kernel, by decide⟩ ?_
  case f5 => walk_at "ev"
  case f6 => walk_at "ev"
  have hn3 := set_same (c' := .ins "ParityAutomaton" ["letters", "start", "priorities"] [.int L, .int s, .tup (nums pr)]) hn2
  have K3 : Kp n g2 (g2.set n (.ins "ParityAutomaton" ["letters", "start", "priorities"] [.int L, .int s, .tup (nums pr)])) := Kp.set
  show Ends _ (sFldM _ _ _ _ [some (.ref n), some (.int L), some (.int s), some x, some (rvs b rw), some (.bl true), o, o'] (g2.set n (.ins "ParityAutomaton" ["letters", "start", "priorities"] [.int L, .int s, .tup (nums pr)])))
  generalize g2.set n (.ins "ParityAutomaton" ["letters", "start", "priorities"] [.int L, .int s, .tup (nums pr)]) = g3 at *
  have cm : compL (gNm 6) tYesM (mF fTuple (maC (mV 6) maN)) [some (.ref n), some (.int L), some (.int s), some x, some (rvs b rw), some (.bl true), none, o'] (rw.map (rv b)) [] g3 = .ok ([] ++ (rw.map (rv b)).map fun v => match v with | .tup xs => .tup xs | .fl xs => .tup xs | v => v) g3 := by
    refine compL_map _ (by simp only [List.length_nil, List.length_map]; have := V.small; omega) fun v hv => ?_
    obtain ⟨r, hr, rfl⟩ := List.mem_map.mp hv
    walk_at "nf"
    cases b
    · refine ev_F (ev_Cs (ev_V rfl) ev_N) ?_; rfl
    · refine ev_F (ev_Cs (ev_V rfl) ev_N) ?_; rfl
  have em : ([] ++ (rw.map (rv b)).map fun v => match v with | .tup xs => MV.tup xs | .fl xs => .tup xs | v => v) = rw.map (rv true) := by
    rw [List.nil_append, List.map_map]
    refine List.map_congr_left fun r _ => ?_
    cases b <;> rfl
  rw [em] at cm
  refine' en_fld (y := rvs true rw) (h1 := g3) (h2 := g3) ?f7 ?f8 hn3 ⟨by decide +kernel, by decide⟩ ?_
  case f7 =>
    refine' ev_F (xs := [.fl (rw.map (rv true))]) (ev_Cs (h1 := g3) ?y1 ev_N) ?y2
    case y1 =>
      refine' ev_compF (h1 := g3) (xs := rw.map (rv b)) ?i1 cm
      case i1 => exact rvs_it (by walk_at "ev")
    case y2 => rfl
  case f8 => walk_at "ev"
  exact ⟨_, _, rfl, rfl, set_same hn3, ((K1.trans K2).trans K3).trans Kp.set⟩

/-! ### runs -/
def stp (rw : List (List Int)) (s a : Int) : Int := (rw.getD s.toNat []).getD a.toNat 0
def run (rw : List (List Int)) (s : Int) (ls : List Int) : Int := ls.foldl (stp rw) s
theorem row_at {L s : Int} {pr : List Int} {rw : List (List Int)} (V : VP L s pr rw) {t : Int} (h0 : 0 ≤ t) (h1 : t < rw.length) : ((rw.getD t.toNat []).length : Int) = L ∧ ∀ x ∈ rw.getD t.toNat [], 0 ≤ x ∧ x < rw.length := by
  have hk : t.toNat < rw.length := by omega
  rw [List.getD, List.getElem?_eq_getElem hk]
  exact V.row _ (List.getElem_mem hk)
theorem stp_in {L s : Int} {pr : List Int} {rw : List (List Int)} (V : VP L s pr rw) {t a : Int} (h0 : 0 ≤ t) (h1 : t < rw.length) (a0 : 0 ≤ a) (a1 : a < L) : 0 ≤ stp rw t a ∧ stp rw t a < rw.length := by
  obtain ⟨r1, r2⟩ := row_at V h0 h1
  unfold stp
  generalize rw.getD t.toNat [] = r at *
  have hk : a.toNat < r.length := by omega
  rw [List.getD, List.getElem?_eq_getElem hk]
  exact r2 _ (List.getElem_mem hk)
theorem run_in {L s : Int} {pr : List Int} {rw : List (List Int)} (V : VP L s pr rw) {ls : List Int} (hl : ∀ a ∈ ls, 0 ≤ a ∧ a < L) : ∀ {t : Int}, 0 ≤ t → t < rw.length → 0 ≤ run rw t ls ∧ run rw t ls < rw.length := by
  induction ls with
  | nil => exact fun h0 h1 => ⟨h0, h1⟩
  | cons a ls ih =>
    intro t h0 h1
    obtain ⟨q0, q1⟩ := stp_in V h0 h1 (hl a (List.mem_cons_self ..)).1 (hl a (List.mem_cons_self ..)).2
    exact ih (fun a h => hl a (List.mem_cons_of_mem _ h)) q0 q1
theorem run_take {rw : List (List Int)} {s : Int} {ls : List Int} {j : Nat} {a : Int} (h : ls[j]? = some a) : run rw s (ls.take (j + 1)) = stp rw (run rw s (ls.take j)) a := by
  unfold run
  rw [List.take_add_one, h]
  simp
theorem mem_take' {ls : List Int} {j : Nat} {a : Int} (h : a ∈ ls.take j) : a ∈ ls := List.mem_of_mem_take h
/-- the two subscripts of one step -/
theorem ix2 {L s : Int} {pr : List Int} {rw : List (List Int)} (V : VP L s pr rw) {b : Bool} {t a : Int} {h : MH} (h0 : 0 ≤ t) (h1 : t < rw.length) (a0 : 0 ≤ a) (a1 : a < L) : fIx (rv b (rw.getD t.toNat [])) (.int a) h = .ok (.int (stp rw t a)) h := by
  obtain ⟨r1, _⟩ := row_at V h0 h1
  exact (rv_seq (b := b)).ix a0 (by omega)
def afterM : MF := runF 4 (sSeq (sFor (iSeq (mV 2)) (gNm 3) (sSet 1 (m2 fIx (m2 fIx (m1 (fFld tabP "rows") (mV 0)) (mV 1)) (mV 3)))) (sRet (mV 1)))
theorem afterM_ok {L s : Int} {pr : List Int} {rw : List (List Int)} {t : Int} {ls : List Int} {h : MH} (V : VP L s pr rw) (h0 : 0 ≤ t) (h1 : t < rw.length) (hl : ∀ a ∈ ls, 0 ≤ a ∧ a < L) : afterM [pa L s pr rw, .int t, .tup (nums ls)] h = .ok (.int (run rw t ls)) h := by
  unfold afterM
  refine runF_ends (P := fun o => o = _) ?_
  walk_at "nf"
  refine en_seq ?_
  refine' en_for (xs := nums ls) (h1 := h) ?e ?_
  case e => walk_at "ev"
  refine en_forL (fun j env hh => hh = h ∧ ∃ o, env = [some (pa L s pr rw), some (.int (run rw t (ls.take j))), some (.tup (nums ls)), o]) ⟨rfl, _, rfl⟩ ?_ ?_
  · rintro j v env hh hx ⟨rfl, o, rfl⟩
    rw [List.getElem?_map] at hx
    obtain ⟨a, ha, rfl⟩ := Option.map_eq_some_iff.mp hx
    show Ends _ (sSet _ _ [some (pa L s pr rw), some (.int (run rw t (ls.take j))), some (.tup (nums ls)), some (.int a)] hh)
    obtain ⟨q0, q1⟩ := run_in V (ls := ls.take j) (fun a h => hl a (mem_take' h)) h0 h1
    obtain ⟨a0, a1⟩ := hl a (List.mem_of_getElem? ha)
    have f1 := pa_rows (L := L) (s := s) (pr := pr) (rw := rw) (h := hh)
    have f2 := rvs_ix (rw := rw) (b := true) (h := hh) q0 q1
    have f3 := ix2 V (b := true) (h := hh) q0 q1 a0 a1
    refine' en_set ?e ?_
    case e => walk_at "ev"
    rw [← run_take ha]
    exact ⟨rfl, _, rfl⟩
  · rintro env hh ⟨rfl, o, rfl⟩
    rw [List.length_map, List.take_length]
    refine' en_ret ?e ?_
    case e => walk_at "ev"
    rfl
def checkM : MF := runF 3 (sFor (iSeq (m2 (fAdd false) (m2 fIx (mV 0) (mC (.int 0))) (m2 fIx (mV 0) (mC (.int 1))))) (gNm 2) (sIf (mT (m2 fGe (mV 2) (mV 1))) (sRaise "InvalidLetter") (sNil)))
theorem checkM_ok {a b : List Int} {K : Int} {h : MH} (hz : a.length + b.length ≤ 1000) : (∀ x ∈ a ++ b, x < K) → checkM [lasso a b, .int K] h = .ok .non h := by
  intro hall
  unfold checkM
  refine runF_ends (P := fun o => o = _) ?_
  walk_at "nf"
  have e0 := @la_0 a b h
  have e1 := @la_1 a b h
  have a1 : fAdd false (.tup (nums a)) (.tup (nums b)) h = .ok (.tup (nums (a ++ b))) h := by
    rw [f_addT (sz_small (by simp only [List.length_map]; omega))]; simp
  refine' en_for ?e ?_
  case e => walk_at "ev"
  refine en_forL (fun j env hh => hh = h ∧ ∃ o, env = [some (lasso a b), some (.int K), o]) ⟨rfl, _, rfl⟩ ?_ ?_
  · rintro j v env hh hx ⟨rfl, o, rfl⟩
    obtain ⟨x, hx2, rfl⟩ := List.mem_map.mp (List.mem_of_getElem? hx)
    show Ends _ (sIf _ _ _ [some (lasso a b), some (.int K), some (.int x)] hh)
    refine' en_if ?e ?_ ?_
    case e => walk_at "ev"
    · intro q
      have := hall x hx2
      have : x ≥ K := by simpa using q
      omega
    · intro _
      exact en_nil ⟨rfl, _, rfl⟩
  · rintro env hh ⟨rfl, o, rfl⟩
    rfl
theorem checkM_bad {a b : List Int} {K : Int} {h : MH} (hz : a.length + b.length ≤ 1000) : (∃ x ∈ a ++ b, K ≤ x) → checkM [lasso a b, .int K] h = .exc "InvalidLetter" [] h := by
  rintro ⟨y, hy, hy2⟩
  unfold checkM
  refine runF_ends (P := fun o => o = _) ?_
  walk_at "nf"
  have e0 := @la_0 a b h
  have e1 := @la_1 a b h
  have a1 : fAdd false (.tup (nums a)) (.tup (nums b)) h = .ok (.tup (nums (a ++ b))) h := by
    rw [f_addT (sz_small (by simp only [List.length_map]; omega))]; simp
  refine' en_for ?e ?_
  case e => walk_at "ev"
  refine en_forL (fun j env hh => hh = h ∧ (∃ o, env = [some (lasso a b), some (.int K), o]) ∧ ∀ k v, k < j → (a ++ b)[k]? = some v → v < K) ⟨rfl, ⟨_, rfl⟩, fun k v hk => by omega⟩ ?_ ?_
  · rintro j v env hh hx ⟨rfl, ⟨o, rfl⟩, hk⟩
    rw [List.getElem?_map] at hx
    obtain ⟨w, hw, rfl⟩ := Option.map_eq_some_iff.mp hx
    show Ends _ (sIf _ _ _ [some (lasso a b), some (.int K), some (.int w)] hh)
    refine' en_if ?e ?_ ?_
    case e => walk_at "ev"
    · intro _
      exact en_raise rfl
    · intro q2
      refine en_nil ⟨rfl, ⟨_, rfl⟩, fun k v h1 h2 => ?_⟩
      rcases Nat.lt_succ_iff_lt_or_eq.mp h1 with h1 | rfl
      · exact hk k v h1 h2
      · rw [hw] at h2
        cases h2
        simpa using q2
  · rintro env hh ⟨rfl, ⟨o, rfl⟩, hk⟩
    obtain ⟨k, e2⟩ := List.getElem?_of_mem hy
    have := (List.getElem?_eq_some_iff.mp e2).1
    have := hk k y (by simpa using this) e2
    omega
/-! ### going round: f on numbers below n comes back -/
theorem php : ∀ (n : Nat) (f : Nat → Nat), (∀ i, i ≤ n → f i < n) → ∃ i j, i < j ∧ j ≤ n ∧ f i = f j
  | 0, f, h => absurd (h 0 (Nat.le_refl _)) (Nat.not_lt_zero _)
  | n + 1, f, h => by
    by_cases c : ∃ i, i ≤ n ∧ f i = f (n + 1)
    · obtain ⟨i, hi, e⟩ := c
      exact ⟨i, n + 1, by omega, Nat.le_refl _, e⟩
    · have ne : ∀ i, i ≤ n → f i ≠ f (n + 1) := fun i hi e => c ⟨i, hi, e⟩
      obtain ⟨i, j, h1, h2, h3⟩ := php n (fun i => if f i > f (n + 1) then f i - 1 else f i) (fun i hi => by
        have a := h i (by omega)
        have b := h (n + 1) (Nat.le_refl _)
        have := ne i hi
        show (if f i > f (n + 1) then f i - 1 else f i) < n
        split <;> omega)
      refine ⟨i, j, h1, by omega, ?_⟩
      have a := ne i (by omega)
      have b := ne j h2
      have h3 : (if f i > f (n + 1) then f i - 1 else f i) = (if f j > f (n + 1) then f j - 1 else f j) := h3
      split at h3 <;> split at h3 <;> omega
def itn (F : Int → Int) : Nat → Int → Int
  | 0, t => t
  | n + 1, t => itn F n (F t)
theorem itn_succ {F : Int → Int} {n : Nat} {t : Int} : itn F (n + 1) t = F (itn F n t) := by
  induction n generalizing t with
  | zero => rfl
  | succ n ih => show itn F (n + 1) (F t) = _; rw [ih]; rfl
theorem itn_add {F : Int → Int} {m n : Nat} {t : Int} : itn F (m + n) t = itn F m (itn F n t) := by
  induction m with
  | zero => rw [Nat.zero_add]; rfl
  | succ m ih => rw [Nat.succ_add, itn_succ, itn_succ, ih]
theorem itn_in {F : Int → Int} {N : Nat} (hF : ∀ t : Int, 0 ≤ t → t < (N : Int) → 0 ≤ F t ∧ F t < (N : Int)) {n : Nat} {t : Int} (h0 : 0 ≤ t) (h1 : t < N) : 0 ≤ itn F n t ∧ itn F n t < N := by
  induction n with
  | zero => exact ⟨h0, h1⟩
  | succ n ih => rw [itn_succ]; exact hF _ ih.1 ih.2
theorem itn_comm {F : Int → Int} {m n : Nat} {t : Int} : itn F m (itn F n t) = itn F n (itn F m t) := by rw [← itn_add, ← itn_add, Nat.add_comm]
/-- behind N rounds one stands where one comes back to, within N rounds -/
theorem comes_back {F : Int → Int} {N : Nat} (hF : ∀ t : Int, 0 ≤ t → t < (N : Int) → 0 ≤ F t ∧ F t < (N : Int)) {t : Int} (h0 : 0 ≤ t) (h1 : t < N) : ∃ m, 1 ≤ m ∧ m ≤ N ∧ itn F m (itn F N t) = itn F N t := by
  obtain ⟨i, j, hij, hj, e⟩ := php N (fun i => (itn F i t).toNat) (fun i _ => by have := itn_in hF (n := i) h0 h1; omega)
  have e' : itn F i t = itn F j t := by
    have a := itn_in hF (n := i) h0 h1
    have b := itn_in hF (n := j) h0 h1
    have : (itn F i t).toNat = (itn F j t).toNat := e
    omega
  refine ⟨j - i, by omega, by omega, ?_⟩
  have e1 : itn F N t = itn F (N - i) (itn F i t) := by rw [← itn_add]; congr 1; omega
  have a1 : itn F (j - i) (itn F (N - i) (itn F i t)) = itn F (N - i) (itn F (j - i) (itn F i t)) := itn_comm
  have a2 : itn F (j - i) (itn F i t) = itn F j t := by rw [← itn_add]; congr 1; omega
  rw [e1, a1, a2, ← e']

/-! ### the greatest priority of a round -/
def mx (i j : Int) : Int := if j > i then j else i
def bstep (rw : List (List Int)) (pr : List Int) (q : Int × Int) (a : Int) : Int × Int := (stp rw q.1 a, mx q.2 (pr.getD (stp rw q.1 a).toNat 0))
def brun (rw : List (List Int)) (pr : List Int) (q : Int × Int) (ls : List Int) : Int × Int := ls.foldl (bstep rw pr) q
theorem brun_fst {rw : List (List Int)} {pr ls : List Int} {q : Int × Int} : (brun rw pr q ls).1 = run rw q.1 ls := by
  induction ls generalizing q with
  | nil => rfl
  | cons a ls ih => exact ih
theorem mx_ge {i j : Int} : i ≤ mx i j ∧ j ≤ mx i j := by unfold mx; split <;> omega
theorem mx_assoc {i j k : Int} : mx (mx i j) k = mx i (mx j k) := by unfold mx; repeat' split; all_goals omega
theorem mx_le {i j k : Int} (h1 : i ≤ k) (h2 : j ≤ k) : mx i j ≤ k := by unfold mx; split <;> omega
theorem mx_of_le {i j : Int} (h : j ≤ i) : mx i j = i := by unfold mx; split <;> omega
theorem mx_zero {i : Int} (h : 0 ≤ i) : mx 0 i = i := by unfold mx; split <;> omega
theorem brun_snd {rw : List (List Int)} {pr ls : List Int} {t b c : Int} : (brun rw pr (t, mx b c) ls).2 = mx b (brun rw pr (t, c) ls).2 := by
  induction ls generalizing t c with
  | nil => rfl
  | cons a ls ih =>
    show (brun rw pr (stp rw t a, mx (mx b c) _) ls).2 = mx b (brun rw pr (stp rw t a, mx c _) ls).2
    rw [mx_assoc, ih]
theorem brun_nn {rw : List (List Int)} {pr ls : List Int} {t b : Int} : b ≤ (brun rw pr (t, b) ls).2 := by
  induction ls generalizing t b with
  | nil => exact Int.le_refl _
  | cons a ls ih => exact Int.le_trans mx_ge.1 ih
theorem brun_take {rw : List (List Int)} {pr : List Int} {q : Int × Int} {ls : List Int} {j : Nat} {a : Int} (h : ls[j]? = some a) : brun rw pr q (ls.take (j + 1)) = bstep rw pr (brun rw pr q (ls.take j)) a := by
  unfold brun
  rw [List.take_add_one, h]
  simp
/-- the greatest of one round, from 0 -/
def Pm (rw : List (List Int)) (pr ls : List Int) (t : Int) : Int := (brun rw pr (t, 0) ls).2
theorem Pm_nn {rw : List (List Int)} {pr ls : List Int} {t : Int} : 0 ≤ Pm rw pr ls t := brun_nn
theorem brun_eq {rw : List (List Int)} {pr ls : List Int} {t b : Int} (hb : 0 ≤ b) : brun rw pr (t, b) ls = (run rw t ls, mx b (Pm rw pr ls t)) := by
  apply Prod.ext
  · exact brun_fst
  · have : b = mx b 0 := by unfold mx; split <;> omega
    show (brun rw pr (t, b) ls).2 = _
    conv => lhs; rw [this]
    exact brun_snd
def bk (F P : Int → Int) (t : Int) : Nat → Int
  | 0 => 0
  | k + 1 => mx (bk F P t k) (P (itn F k t))
theorem bk_nn {F P : Int → Int} {t : Int} {k : Nat} : 0 ≤ bk F P t k := by
  induction k with
  | zero => exact Int.le_refl _
  | succ k ih => exact Int.le_trans ih mx_ge.1
theorem bk_has {F P : Int → Int} {t : Int} {i k : Nat} (h : i < k) : P (itn F i t) ≤ bk F P t k := by
  induction k with
  | zero => omega
  | succ k ih =>
    rcases Nat.lt_succ_iff_lt_or_eq.mp h with h | rfl
    · exact Int.le_trans (ih h) mx_ge.1
    · exact mx_ge.2
theorem itn_per {F : Int → Int} {t : Int} {m : Nat} (e : itn F m t = t) (k : Nat) : itn F (m * k) t = t := by
  induction k with
  | zero => rfl
  | succ k ih => rw [Nat.mul_succ, Nat.add_comm, itn_add, ih, e]
theorem itn_mod {F : Int → Int} {t : Int} {m k : Nat} (e : itn F m t = t) : itn F (k % m) t = itn F k t := by
  conv => rhs; rw [← Nat.mod_add_div k m]
  rw [itn_add, itn_per e]
theorem bk_eq {F P : Int → Int} {t : Int} {m n : Nat} (hm : 1 ≤ m) (e : itn F m t = t) (h : m ≤ n) : bk F P t n = bk F P t m := by
  obtain ⟨d, rfl⟩ : ∃ d, n = m + d := ⟨n - m, by omega⟩
  induction d with
  | zero => rfl
  | succ d ih =>
    show mx (bk F P t (m + d)) (P (itn F (m + d) t)) = _
    rw [ih (by omega), ← itn_mod e]
    exact mx_of_le (bk_has (Nat.mod_lt _ hm))
/-- all priorities one greater -/
theorem brun_up {rw : List (List Int)} {pr ls : List Int} {t b : Int} (hp : ∀ u : Int, 0 ≤ u → u < rw.length → u.toNat < pr.length) (hs : ∀ (u : Int), 0 ≤ u → u < rw.length → ∀ a ∈ ls, 0 ≤ stp rw u a ∧ stp rw u a < rw.length) (h0 : 0 ≤ t) (h1 : t < rw.length) : (brun rw (pr.map (· + 1)) (t, b + 1) ls).2 = (brun rw pr (t, b) ls).2 + 1 := by
  induction ls generalizing t b with
  | nil => rfl
  | cons a ls ih =>
    obtain ⟨q0, q1⟩ := hs t h0 h1 a (List.mem_cons_self ..)
    have e : mx (b + 1) ((pr.map (· + 1)).getD (stp rw t a).toNat 0) = mx b (pr.getD (stp rw t a).toNat 0) + 1 := by
      have hk := hp _ q0 q1
      have : (pr.map (· + 1)).getD (stp rw t a).toNat 0 = pr.getD (stp rw t a).toNat 0 + 1 := by simp [List.getD, List.getElem?_eq_getElem hk]
      rw [this]
      unfold mx
      split <;> split <;> omega
    show (brun rw (pr.map (· + 1)) (stp rw t a, mx (b + 1) _) ls).2 = (brun rw pr (stp rw t a, mx b _) ls).2 + 1
    rw [e]
    exact ih (fun u h0 h1 a ha => hs u h0 h1 a (List.mem_cons_of_mem _ ha)) q0 q1
theorem Pm_up {rw : List (List Int)} {pr ls : List Int} {t : Int} (hl : ls ≠ []) (hp0 : ∀ p ∈ pr, 0 ≤ p) (hp : ∀ u : Int, 0 ≤ u → u < rw.length → u.toNat < pr.length) (hs : ∀ (u : Int), 0 ≤ u → u < rw.length → ∀ a ∈ ls, 0 ≤ stp rw u a ∧ stp rw u a < rw.length) (h0 : 0 ≤ t) (h1 : t < rw.length) : Pm rw (pr.map (· + 1)) ls t = Pm rw pr ls t + 1 := by
  cases ls with
  | nil => exact absurd rfl hl
  | cons a ls =>
    obtain ⟨q0, q1⟩ := hs t h0 h1 a (List.mem_cons_self ..)
    have hk := hp _ q0 q1
    have hp1 : 0 ≤ pr.getD (stp rw t a).toNat 0 := by rw [List.getD, List.getElem?_eq_getElem hk]; exact hp0 _ (List.getElem_mem hk)
    have e : mx 0 ((pr.map (· + 1)).getD (stp rw t a).toNat 0) = mx 0 (pr.getD (stp rw t a).toNat 0) + 1 := by
      have : (pr.map (· + 1)).getD (stp rw t a).toNat 0 = pr.getD (stp rw t a).toNat 0 + 1 := by simp [List.getD, List.getElem?_eq_getElem hk]
      rw [this]
      unfold mx
      split <;> split <;> omega
    show (brun rw (pr.map (· + 1)) (stp rw t a, mx 0 _) ls).2 = (brun rw pr (stp rw t a, mx 0 _) ls).2 + 1
    rw [e]
    exact brun_up hp (fun u h0 h1 a ha => hs u h0 h1 a (List.mem_cons_of_mem _ ha)) q0 q1
theorem bk_up {F P P' : Int → Int} {t : Int} {N : Nat} (hF : ∀ t : Int, 0 ≤ t → t < (N : Int) → 0 ≤ F t ∧ F t < (N : Int)) (hP0 : ∀ t, 0 ≤ P t) (hP : ∀ t : Int, 0 ≤ t → t < (N : Int) → P' t = P t + 1) (h0 : 0 ≤ t) (h1 : t < (N : Int)) {k : Nat} (hk : 1 ≤ k) : bk F P' t k = bk F P t k + 1 := by
  induction k with
  | zero => omega
  | succ k ih =>
    obtain ⟨q0, q1⟩ := itn_in hF (n := k) h0 h1
    show mx (bk F P' t k) (P' (itn F k t)) = mx (bk F P t k) (P (itn F k t)) + 1
    rw [hP _ q0 q1]
    have := hP0 (itn F k t)
    by_cases c : k = 0
    · subst c
      show mx 0 _ = mx 0 _ + 1
      unfold mx
      split <;> split <;> omega
    · rw [ih (by omega)]
      unfold mx
      split <;> split <;> omega
/-- the round's own law -/
def acb (rw : List (List Int)) (pr a b : List Int) (s : Int) : Int := bk (fun t => run rw t b) (Pm rw pr b) (itn (fun t => run rw t b) rw.length (run rw s a)) rw.length
def accM : MF := runF 8 (sSeq (sExpr (mCall 2 checkM (maC (mV 1) (maC (m1 (fFld tabP "letters") (mV 0)) (maN))))) (sSeq (sSet 2 (mCall 3 afterM (maC (mV 0) (maC (m1 (fFld tabP "start") (mV 0)) (maC (m2 fIx (mV 1) (mC (.int 0))) (maN)))))) (sSeq (sFor (iSeq (m1 (fFld tabP "rows") (mV 0))) (gNm 3) (sSet 2 (mCall 3 afterM (maC (mV 0) (maC (mV 2) (maC (m2 fIx (mV 1) (mC (.int 1))) (maN))))))) (sSeq (sSet 4 (mV 2)) (sSeq (sSet 5 (mC (.int 0))) (sSeq (sSet 6 (mC (.bl false))) (sSeq (sWhile (tNotM (mT (mV 6))) (sSeq (sFor (iSeq (m2 fIx (mV 1) (mC (.int 1)))) (gNm 7) (sSeq (sSet 2 (m2 fIx (m2 fIx (m1 (fFld tabP "rows") (mV 0)) (mV 2)) (mV 7))) (sSet 5 (mF fMax2 (maC (mV 5) (maC (m2 fIx (m1 (fFld tabP "priorities") (mV 0)) (mV 2)) (maN))))))) (sSet 6 (m2 (fEq false) (mV 2) (mV 4)))) big) (sRet (m2 (fEq false) (m2 fMod (mV 5) (mC (.int 2))) (mC (.int 0)))))))))))
theorem accM_ok {L s : Int} {pr : List Int} {rw : List (List Int)} {a b : List Int} {h : MH} (V : VP L s pr rw) (hz : a.length + b.length ≤ 1000) (hab : ∀ x ∈ a ++ b, 0 ≤ x ∧ x < L) : accM [pa L s pr rw, lasso a b] h = .ok (.bl (decide (acb rw pr a b s % 2 = 0))) h := by
  have ha : ∀ x ∈ a, 0 ≤ x ∧ x < L := fun x hx => hab x (List.mem_append_left _ hx)
  have hb : ∀ x ∈ b, 0 ≤ x ∧ x < L := fun x hx => hab x (List.mem_append_right _ hx)
  have hF : ∀ t : Int, 0 ≤ t → t < (rw.length : Int) → 0 ≤ run rw t b ∧ run rw t b < (rw.length : Int) := fun t h0 h1 => run_in V hb h0 h1
  obtain ⟨p0, p1⟩ := run_in V ha V.s0 V.s1
  unfold accM
  refine runF_ends (P := fun o => o = _) ?_
  walk_at "nf"
  have e0 := @la_0 a b h
  have e1 := @la_1 a b h
  have fL := pa_letters (L := L) (s := s) (pr := pr) (rw := rw) (h := h)
  have fS := pa_start (L := L) (s := s) (pr := pr) (rw := rw) (h := h)
  have fP := pa_prio (L := L) (s := s) (pr := pr) (rw := rw) (h := h)
  have fR := pa_rows (L := L) (s := s) (pr := pr) (rw := rw) (h := h)
  have ck := checkM_ok (h := h) hz (fun x hx => (hab x hx).2)
  refine en_seq ?_
  refine' en_expr ?e ?_
  case e => walk_at "ev"
  have r0 := afterM_ok (t := s) (ls := a) (h := h) V V.s0 V.s1 ha
  walk_at "set"
  refine en_seq ?_
  refine' en_for (xs := rw.map (rv true)) (h1 := h) ?e ?_
  case e => exact rvs_it (by walk_at "ev")
  refine en_forL (fun j env hh => hh = h ∧ ∃ o, env = [some (pa L s pr rw), some (lasso a b), some (.int (itn (fun t => run rw t b) j (run rw s a))), o, none, none, none, none]) ⟨rfl, _, rfl⟩ ?_ ?_
  · rintro j v env hh hx ⟨rfl, o, rfl⟩
    show Ends _ (sSet _ _ [some (pa L s pr rw), some (lasso a b), some (.int (itn (fun t => run rw t b) j (run rw s a))), some v, none, none, none, none] hh)
    obtain ⟨q0, q1⟩ := itn_in hF (n := j) p0 p1
    have r1 := afterM_ok (ls := b) (h := hh) V q0 q1 hb
    refine' en_set ?e ?_
    case e => walk_at "ev"
    refine ⟨rfl, some v, ?_⟩
    rw [itn_succ]
    rfl
  rintro env hh ⟨rfl, o, rfl⟩
  rw [List.length_map]
  obtain ⟨q0, q1⟩ := itn_in hF (n := rw.length) p0 p1
  obtain ⟨m, m1, m2, m3⟩ := comes_back hF p0 p1
  have hacb : acb rw pr a b s = bk (fun t => run rw t b) (Pm rw pr b) (itn (fun t => run rw t b) rw.length (run rw s a)) rw.length := rfl
  generalize itn (fun t => run rw t b) rw.length (run rw s a) = T at *
  walk_at "set"
  walk_at "set"
  walk_at "set"
  refine en_seq ?_
  refine en_whileN (m := m) (fun d env h' => h' = hh ∧ ∃ (k : Nat) (o o' : Option MV), env = [some (pa L s pr rw), some (lasso a b), some (.int (itn (fun t => run rw t b) k T)), o, some (.int T), some (.int (bk (fun t => run rw t b) (Pm rw pr b) T k)), some (.bl (decide (1 ≤ k ∧ itn (fun t => run rw t b) k T = T))), o'] ∧ k ≤ m ∧ d = m - k) ?_ ?_ ?_
  · exact ⟨rfl, 0, _, _, rfl, Nat.zero_le _, rfl⟩
  · show _ < 2 ^ 62
    have := V.small
    omega
  rintro d env h' ⟨rfl, k, o, o', rfl, hk, rfl⟩
  by_cases c : 1 ≤ k ∧ itn (fun t => run rw t b) k T = T
  · refine ⟨false, h', ?_, fun _ => ?_, (fun z => nomatch z)⟩
    · rw [decide_eq_true c]
      exact ev_tnot (v := true) (by walk_at "ev")
    · have hbk := bk_eq (P := Pm rw pr b) c.1 c.2 (show k ≤ rw.length by omega)
      rw [hacb, hbk]
      have f1 : fMod (.int (bk (fun t => run rw t b) (Pm rw pr b) T k)) (.int 2) h' = .ok (.int (bk (fun t => run rw t b) (Pm rw pr b) T k % 2)) h' := f_mod (by decide)
      refine' en_ret ?e ?_
      case e => walk_at "ev"
      rfl
  · refine ⟨true, h', ?_, (fun z => nomatch z), fun _ => ?_⟩
    · rw [decide_eq_false c]
      exact ev_tnot (v := false) (by walk_at "ev")
    · have hkm : k < m := by
        rcases Nat.lt_or_eq_of_le hk with h | rfl
        · exact h
        · exact absurd ⟨m1, m3⟩ c
      obtain ⟨u0, u1⟩ := itn_in hF (n := k) q0 q1
      have hbn : 0 ≤ bk (fun t => run rw t b) (Pm rw pr b) T k := bk_nn
      generalize hst : itn (fun t => run rw t b) k T = t at *
      generalize hbb : bk (fun t => run rw t b) (Pm rw pr b) T k = bb at *
      generalize decide (1 ≤ k ∧ t = T) = fin at *
      refine en_seq ?_
      refine' en_for (xs := nums b) (h1 := h') ?e ?_
      case e => walk_at "ev"
      refine en_forL (fun j env h'' => h'' = h' ∧ ∃ o o', env = [some (pa L s pr rw), some (lasso a b), some (.int (brun rw pr (t, bb) (b.take j)).1), o, some (.int T), some (.int (brun rw pr (t, bb) (b.take j)).2), some (.bl fin), o']) ⟨rfl, _, _, rfl⟩ ?_ ?_
      · rintro j v env h'' hx ⟨rfl, o, o', rfl⟩
        rw [List.getElem?_map] at hx
        obtain ⟨x, hx2, rfl⟩ := Option.map_eq_some_iff.mp hx
        obtain ⟨x0, x1⟩ := hb x (List.mem_of_getElem? hx2)
        rw [brun_take hx2]
        have w0 := run_in V (ls := b.take j) (fun a h => hb a (mem_take' h)) u0 u1
        rw [brun_fst]
        generalize hq : run rw t (b.take j) = q at *
        have hq1 : (brun rw pr (t, bb) (b.take j)).1 = q := by rw [brun_fst, ← hq]
        unfold bstep
        rw [hq1]
        generalize (brun rw pr (t, bb) (b.take j)).2 = bc at *
        show Ends _ (sSeq _ _ [some (pa L s pr rw), some (lasso a b), some (.int q), o, some (.int T), some (.int bc), some (.bl fin), some (.int x)] h'')
        have f2 := rvs_ix (rw := rw) (b := true) (h := h'') w0.1 w0.2
        have f3 := ix2 V (b := true) (h := h'') w0.1 w0.2 x0 x1
        obtain ⟨y0, y1⟩ := stp_in V w0.1 w0.2 x0 x1
        refine en_seq ?_
        refine' en_set ?e ?_
        case e => walk_at "ev"
        walk_at "nf"
        have f4 : fIx (.tup (nums pr)) (.int (stp rw q x)) h'' = .ok (.int (pr.getD (stp rw q x).toNat 0)) h'' := (SeqV.T (ns := pr)).ix y0 (by rw [V.pl]; exact y1)
        refine' en_set ?e ?_
        case e => walk_at "ev"
        exact ⟨rfl, _, _, rfl⟩
      · rintro env h'' ⟨rfl, o, o', rfl⟩
        rw [List.length_map, List.take_length, brun_eq hbn]
        refine' en_set ?e ?_
        case e => walk_at "ev"
        refine ⟨m - (k + 1), by omega, rfl, k + 1, o, o', ?_, hkm, rfl⟩
        rw [itn_succ, hst]
        show _ = [some (pa L s pr rw), some (lasso a b), some (.int (run rw t b)), o, some (.int T), some (.int (mx (bk (fun t => run rw t b) (Pm rw pr b) T k) (Pm rw pr b (itn (fun t => run rw t b) k T)))), some (.bl (decide (1 ≤ k + 1 ∧ run rw t b = T))), o']
        rw [hst, hbb]
        have : decide (1 ≤ k + 1 ∧ run rw t b = T) = decide (run rw t b = T) := decide_eq_decide.mpr ⟨fun h => h.2, fun h => ⟨by omega, h⟩⟩
        rw [this]
        rfl
end Mn
/-! ## MnPB -/
set_option Elab.async false
set_option linter.all false
set_option maxRecDepth 100000
namespace Mn
open PySem PySem.Spec PyProof.Rows L2
local macro_rules | `(tactic| walk_at "hp") => `(tactic| first
  | assumption
  | exact set_same (by assumption)
  | exact app_same
  | exact app_old (by assumption))
local macro_rules | `(tactic| walk_at "op") => `(tactic| with_reducible first
  | assumption
  | exact f_add | exact f_ii0 | exact f_ui | exact f_int | exact f_intB | exact f_max | exact f_min | exact f_ip
  | exact f_eqI | exact f_neI
  | exact f_lenT | exact f_lenF | exact f_lenS | exact f_tupT | exact f_tupF | exact f_tupS
  | exact f_lenR (by walk_at "hp") | exact f_tupR (by walk_at "hp")
  | (refine' f_mod ?_; omega)
  | (refine' f_div ?_ ?_ <;> omega)
  | exact f_pow (by decide)
  | exact f_isN1 | exact f_notN1
  | exact f_isN0 (by with_unfolding_all (intro q; cases q))
  | exact f_notN0 (by with_unfolding_all (intro q; cases q))
  | exact f_addT (by walk_at "sz")
  | exact f_slT | exact f_slF | exact f_slR (by walk_at "hp")
  | exact f_rev (by walk_at "hp"))
local macro_rules | `(tactic| walk_at "sz") => `(tactic| (refine sz_small ?_; simp only [List.length_cons, List.length_nil, List.length_append, List.length_map]; omega))
local macro_rules | `(tactic| walk_at "ev") => `(tactic| with_reducible first
  | assumption
  | exact ev_C
  | exact ev_V (by with_unfolding_all rfl)
  | exact ev_N
  | exact ev_oN
  | (refine' ev_2 ?a ?b ?c; (case a => walk_at "ev"); (case b => walk_at "ev"); (case c => walk_at "op"))
  | (refine' ev_1 ?a ?b; (case a => walk_at "ev"); (case b => walk_at "op"))
  | (refine' ev_F ?a ?b; (case a => walk_at "ev"); (case b => walk_at "op"))
  | (refine' ev_Cs ?a ?b; (case a => walk_at "ev"); (case b => walk_at "ev"))
  | (refine' ev_call ?a ?n ?b; (case a => walk_at "ev"); (case n => with_unfolding_all rfl); (case b => walk_at "op"))
  | (refine' ev_T ?a; (case a => walk_at "ev"))
  | (refine' ev_tnot ?a; (case a => walk_at "ev"))
  | (refine' ev_tup ?a ?b; (case a => walk_at "ev"); (case b => walk_at "sz"))
  | (refine' ev_lstF ?a ?b; (case a => walk_at "ev"); (case b => walk_at "sz"))
  | (refine' ev_lstT ?a ?b; (case a => walk_at "ev"); (case b => walk_at "sz"))
  | (refine' ev_oS ?a; (case a => walk_at "ev"))
  | (refine' ev_sl ?a ?b ?c ?d; (case a => walk_at "ev"); (case b => walk_at "ev"); (case c => walk_at "ev"); (case d => walk_at "op"))
  | (refine' ev_not ?a; (case a => walk_at "ev"))
  | (refine' ev_m0 ?a ?b ?c; (case a => walk_at "ev"); (case b => exact tyc_R (by walk_at "hp")); (case c => walk_at "op"))
  | (refine' ev_m ?a ?b ?c ?d; (case a => walk_at "ev"); (case b => exact tyc_R (by walk_at "hp")); (case c => walk_at "ev"); (case d => walk_at "op"))
  | (refine' it_range1 ?a ?b; (case a => walk_at "ev"); (case b => omega))
  | (refine' it_range2 ?a ?b; (case a => walk_at "ev"); (case b => omega))
  | (refine' it_T ?a; (case a => walk_at "ev"))
  | (refine' it_F ?a; (case a => walk_at "ev")))
local macro_rules | `(tactic| walk_at "nf") => `(tactic| (simp (config := { failIfUnchanged := false }) only [List.set_cons_succ, List.set_cons_zero, List.map_cons, List.map_nil, List.length_cons, List.length_nil, List.cons_append, List.nil_append, List.replicate]))
local macro_rules | `(tactic| walk_at "set") => `(tactic| (refine en_seq ?_; refine' en_set ?e ?_; (case e => walk_at "ev"); walk_at "nf"))
local macro_rules | `(tactic| walk_at "expr") => `(tactic| (refine en_seq ?_; refine' en_expr ?e ?_; (case e => walk_at "ev"); walk_at "nf"))

/-! ### live lists -/
theorem compR_map {i : Nat} {e : ME} {env : MEnv} {h : MH} {n : Nat} {xs : List MV} (f : MV → MV) (hn : h[n]? = some (.lst xs)) (hs : xs.length ≤ 1000000) (he : ∀ x ∈ xs, e (env.set i (some x)) h = .ok (f x) h) : compR (gNm i) tYesM e env n big 0 [] h = .ok (xs.map f) h := by
  have gen : ∀ (d k : Nat) (fuel : Nat), xs.length - k = d → k ≤ xs.length → d < fuel → compR (gNm i) tYesM e env n fuel k ((xs.take k).map f) h = .ok (xs.map f) h := by
    intro d
    induction d with
    | zero =>
      intro k fuel h1 h2 h3
      obtain ⟨fuel, rfl⟩ : ∃ u, fuel = u + 1 := ⟨fuel - 1, by omega⟩
      unfold compR
      rw [hn]
      simp only
      rw [List.getElem?_eq_none (by omega), List.take_of_length_le (by omega)]
    | succ d ih =>
      intro k fuel h1 h2 h3
      obtain ⟨fuel, rfl⟩ : ∃ u, fuel = u + 1 := ⟨fuel - 1, by omega⟩
      have hk : k < xs.length := by omega
      unfold compR
      rw [hn]
      simp only
      rw [List.getElem?_eq_getElem hk]
      simp only
      rw [compT_yes (he _ (List.getElem_mem hk)) (by simp only [List.length_map, List.length_take]; omega)]
      show compR _ _ _ _ _ _ _ _ _ = _
      have : (xs.take k).map f ++ [f xs[k]] = (xs.take (k + 1)).map f := by rw [List.take_add_one, List.getElem?_eq_getElem hk, List.map_append]; rfl
      rw [this]
      exact ih (k + 1) fuel (by omega) hk (by omega)
  have h3 : xs.length - 0 < big := by show _ < 2 ^ 62; omega
  have := gen (xs.length - 0) 0 big rfl (Nat.zero_le _) h3
  simpa using this
theorem ev_compRF {it : MIt} {vs : List Nat} {ys : List MV} {g : MG} {t : MT} {e : ME} {env : MEnv} {h h1 h2 : MH} {n : Nat} (hi : it env h = .ok (.lv n) h1) (hc : compR g t e (wipeM env vs) n big 0 [] h1 = .ok ys h2) : mComp false it g t e vs env h = .ok (.fl ys) h2 := by
  unfold mComp; rw [hi]; show (compR _ _ _ _ _ _ _ _ _).bind _ = _; rw [hc]; rfl
def flatM : MF := runF 2 (sRet (mComp false (iSeq (mV 0)) (gNm 1) (tYesM) (mF (fList false) (maC (mV 1) (maN))) [1]))
theorem flatM_ok {rw : List (List Int)} {h : MH} {p : Nat} (hp : h[p]? = some (.lst (rw.map (rv false)))) (hz : rw.length ≤ 1000) : flatM [.ref p] h = .ok (rvs false rw) h := by
  unfold flatM
  refine runF_ends (P := fun o => o = _) ?_
  walk_at "nf"
  have e : (rw.map (rv false)).map (fun v => v) = rw.map (rv false) := List.map_id _
  refine' en_ret (d := rvs false rw) (h1 := h) ?e ?_
  case e =>
    refine' ev_compRF (h1 := h) (n := p) (ys := rw.map (rv false)) ?i1 ?i2
    case i1 => exact it_R (by walk_at "ev") hp
    case i2 =>
      have := compR_map (i := 1) (e := mF (fList false) (maC (mV 1) maN)) (env := [some (.ref p), none]) (fun v => v) hp (by rw [List.length_map]; omega) (fun v hv => by
        obtain ⟨r, hr, rfl⟩ := List.mem_map.mp hv
        refine ev_F (ev_Cs (ev_V rfl) ev_N) ?_
        exact (SeqV.F (ns := r)).sq.list)
      rw [e] at this
      exact this
  rfl
def pcomM : MF := runF 3 (sSeq (sSet 1 (mComp false (iSeq (m1 (fFld tabP "priorities") (mV 0))) (gNm 2) (tYesM) (m2 (fAdd false) (mV 2) (mC (.int 1))) [2])) (sRet (mMake "ParityAutomaton" true 5 pinitM (maC (m1 (fFld tabP "letters") (mV 0)) (maC (m1 (fFld tabP "start") (mV 0)) (maC (mV 1) (maC (m1 (fFld tabP "rows") (mV 0)) (maN))))))))
theorem VP.up {L s : Int} {pr : List Int} {rw : List (List Int)} (V : VP L s pr rw) : VP L s (pr.map (· + 1)) rw := ⟨V.l1, V.n1, V.small, by rw [List.length_map]; exact V.pl, V.s0, V.s1, V.row, fun p hp => by
  obtain ⟨q, hq, rfl⟩ := List.mem_map.mp hp
  have := V.pos q hq
  show 0 ≤ q + 1
  omega⟩
theorem pmake_ok {L s : Int} {pr : List Int} {rw : List (List Int)} {b : Bool} {x : MV} {a : MA} {env : MEnv} {h h1 : MH} (V : VP L s pr rw) (sx : SeqV x pr) (ha : a env h = .ok [.int L, .int s, x, rvs b rw] h1) : ∃ h', mMake "ParityAutomaton" true 5 pinitM a env h = .ok (pa L s pr rw) h' ∧ ∀ (n : Nat) c, h1[n]? = some c → h'[n]? = some c := by
  obtain ⟨h2, e, hn, k⟩ := pinit_ok (b := b) (h := h1 ++ [.ins "ParityAutomaton" [] []]) (n := h1.length) V sx app_same
  refine ⟨_, ev_make ha rfl e hn, fun n c hc => ?_⟩
  have := lt_of_get hc
  exact set_other (by omega) (k.old n c (by omega) (app_old hc))
theorem pcomM_ok {L s : Int} {pr : List Int} {rw : List (List Int)} {h : MH} (V : VP L s pr rw) : ∃ h', pcomM [pa L s pr rw] h = .ok (pa L s (pr.map (· + 1)) rw) h' ∧ ∀ (n : Nat) c, h[n]? = some c → h'[n]? = some c := by
  suffices g : Does (fun v h' => v = pa L s (pr.map (· + 1)) rw ∧ ∀ (n : Nat) c, h[n]? = some c → h'[n]? = some c) (pcomM [pa L s pr rw] h) by
    obtain ⟨v, h', e, rfl, q⟩ := g
    exact ⟨h', e, q⟩
  have fL := pa_letters (L := L) (s := s) (pr := pr) (rw := rw) (h := h)
  have fS := pa_start (L := L) (s := s) (pr := pr) (rw := rw) (h := h)
  have fP := pa_prio (L := L) (s := s) (pr := pr) (rw := rw) (h := h)
  have fR := pa_rows (L := L) (s := s) (pr := pr) (rw := rw) (h := h)
  unfold pcomM
  refine runF_does ?_
  walk_at "nf"
  refine en_seq ?_
  refine' en_set (d := .fl (nums (pr.map (· + 1)))) (h1 := h) ?e ?_
  case e =>
    refine' ev_compF (h1 := h) (h2 := h) (xs := nums pr) ?i1 ?i2
    case i1 => refine' it_T ?j1; (case j1 => walk_at "ev")
    case i2 => exact comp_mapN (g := (· + 1)) (fun x hx => by walk_at "nf"; walk_at "ev") (by have := V.pl; have := V.small; omega)
  walk_at "nf"
  obtain ⟨h', e, k⟩ := pmake_ok (b := true) (x := .fl (nums (pr.map (· + 1)))) (a := (maC (m1 (fFld tabP "letters") (mV 0)) (maC (m1 (fFld tabP "start") (mV 0)) (maC (mV 1) (maC (m1 (fFld tabP "rows") (mV 0)) (maN)))))) (env := [some (pa L s pr rw), some (.fl (nums (pr.map (· + 1)))), none]) (h := h) (h1 := h) V.up SeqV.F (by walk_at "ev")
  refine' en_ret e ?_
  exact ⟨_, _, rfl, rfl, k⟩
def parM : MF := runF 9 (sSeq (sSet 3 (m2 (fAdd false) (mC (.int 1)) (mCall 2 takeM (maC (mV 0) (maC (mV 2) (maN)))))) (sSeq (sSet 4 (m2 (fAdd false) (mC (.int 1)) (mCall 2 takeM (maC (mV 0) (maC (mC (.int 4)) (maN)))))) (sSeq (sSet 5 (mComp false (iRange1 (maC (mV 3) (maN))) (gNm 6) (tYesM) (mCall 2 takeM (maC (mV 0) (maC (mV 4) (maN)))) [6])) (sSeq (sSet 7 (mLst true (maN))) (sSeq (sFor (iRange1 (maC (mV 3) (maN))) (gNm 6) (sExpr (mM "list" fAppend (mV 7) (maC (mComp false (iRange1 (maC (mV 1) (maN))) (gNm 8) (tYesM) (mCall 2 takeM (maC (mV 0) (maC (mV 3) (maN)))) [8]) (maN))))) (sRet (mTup (maC (mCall 2 takeM (maC (mV 0) (maC (mV 3) (maN)))) (maC (mV 5) (maC (mV 7) (maN)))))))))))
theorem parM_ok {d : Nat} {L M : Int} {h : MH} (D : Dr h d) (hL : 1 ≤ L ∧ L ≤ 900) (hM : 1 ≤ M ∧ M ≤ 900) : ∃ s pr rw p h', parM [.ref d, .int L, .int M] h = .ok (.tup [.int s, .fl (nums pr), .ref p]) h' ∧ h'[p]? = some (.lst (rw.map (rv false))) ∧ VP L s pr rw ∧ (rw.length : Int) ≤ M ∧ p ≠ d ∧ Dr h' d := by
  suffices g : Does (fun v h' => ∃ s pr rw p, v = .tup [.int s, .fl (nums pr), .ref p] ∧ h'[p]? = some (.lst (rw.map (rv false))) ∧ VP L s pr rw ∧ (rw.length : Int) ≤ M ∧ p ≠ d ∧ Dr h' d) (parM [.ref d, .int L, .int M] h) by
    obtain ⟨v, h', e, s, pr, rw, p, rfl, q⟩ := g
    exact ⟨s, pr, rw, p, h', e, q⟩
  unfold parM
  refine runF_does ?_
  walk_at "nf"
  obtain ⟨c, h1, t1, c0, c1, D1, _⟩ := takeM_ok D (k := M) (by omega)
  walk_at "set"
  obtain ⟨u, h2, t2, u0, u1, D2, _⟩ := takeM_ok D1 (k := 4) (by decide)
  walk_at "set"
  obtain ⟨pr, h3, cP, lP, bP, D3, _⟩ := comp_take (e := mCall 2 takeM (maC (mV 0) (maC (mV 4) (maN)))) (env := [some (.ref d), some (.int L), some (.int M), some (.int (1 + c)), some (.int (1 + u)), none, none, none, none]) (i := 6) (xs := rangeM 0 (1 + c).toNat) (kk := 1 + u) (acc := []) (fun v => 0 ≤ v ∧ v < 1 + u) (by
    intro x h hx Dx
    obtain ⟨v, h1, t1, v0, v1, D1, k1⟩ := takeM_ok Dx (k := 1 + u) (by omega)
    refine ⟨v, h1, ?_, ⟨v0, v1⟩, D1, k1⟩
    walk_at "nf"
    walk_at "ev") D2 (by rw [rangeM_len]; omega)
  rw [rangeM_len] at lP
  refine en_seq ?_
  refine' en_set ?e ?_
  case e =>
    refine' ev_compF ?q1 cP
    case q1 => refine' it_range1 ?i1 ?i2; (case i1 => walk_at "ev"); (case i2 => omega)
  walk_at "nf"
  walk_at "set"
  have p0 : (h3 ++ [Cell.lst []])[h3.length]? = some (.lst []) := app_same
  have D4 : Dr (h3 ++ [Cell.lst []]) d := D3.app
  have pd : h3.length ≠ d := by have := D3.lt; omega
  generalize h3 ++ [Cell.lst []] = h4 at *
  generalize h3.length = p at *
  refine en_seq ?_
  refine' en_for ?e ?_
  case e => refine' it_range1 ?i1 ?i2; (case i1 => walk_at "ev"); (case i2 => omega)
  refine en_forL (fun j env hh => (∃ o, env = [some (.ref d), some (.int L), some (.int M), some (.int (1 + c)), some (.int (1 + u)), some (.fl (nums pr)), o, some (.ref p), none]) ∧ Dr hh d ∧ ∃ rw : List (List Int), hh[p]? = some (.lst (rw.map (rv false))) ∧ rw.length = j ∧ ∀ r ∈ rw, (r.length : Int) = L ∧ ∀ x ∈ r, 0 ≤ x ∧ x < 1 + c) ?_ ?_ ?_
  · exact ⟨⟨_, rfl⟩, D4, [], p0, rfl, fun r hr => nomatch hr⟩
  · rintro j v env hh hx ⟨⟨o, rfl⟩, Dj, rw, hp, hl, hr⟩
    obtain ⟨rfl, hj⟩ := rangeM_get hx
    show Ends _ (sExpr _ [some (.ref d), some (.int L), some (.int M), some (.int (1 + c)), some (.int (1 + u)), some (.fl (nums pr)), some (.int (0 + j)), some (.ref p), none] hh)
    obtain ⟨r, h5, cR, lR, bR, D5, k5⟩ := comp_take (e := mCall 2 takeM (maC (mV 0) (maC (mV 3) (maN)))) (env := [some (.ref d), some (.int L), some (.int M), some (.int (1 + c)), some (.int (1 + u)), some (.fl (nums pr)), some (.int (0 + j)), some (.ref p), none]) (i := 8) (xs := rangeM 0 L.toNat) (kk := 1 + c) (acc := []) (fun v => 0 ≤ v ∧ v < 1 + c) (by
      intro x h hx Dx
      obtain ⟨v, h1, t1, v0, v1, D1, k1⟩ := takeM_ok Dx (k := 1 + c) (by omega)
      refine ⟨v, h1, ?_, ⟨v0, v1⟩, D1, k1⟩
      walk_at "nf"
      walk_at "ev") Dj (by rw [rangeM_len]; omega)
    rw [rangeM_len] at lR
    have hp5 := k5.old _ _ pd hp
    have ap := f_app (y := rv false r) hp5 (sz_lt (by rw [List.length_map]; omega))
    refine' en_expr (h1 := h5.set p (.lst (rw.map (rv false) ++ [rv false r]))) (d := .non) ?e ?_
    case e =>
      refine' ev_m (h1 := hh) (h2 := h5) (x := .ref p) (xs := [rv false r]) ?e1 ?e2 (ev_Cs (h1 := h5) ?e3 ev_N) ap
      case e1 => walk_at "ev"
      case e2 => exact tyc_R hp
      case e3 =>
        refine' ev_compF (h1 := hh) (ys := nums r) ?q1 cR
        case q1 => refine' it_range1 ?i1 ?i2; (case i1 => walk_at "ev"); (case i2 => omega)
    refine ⟨⟨_, rfl⟩, ?_, rw ++ [r], ?_, by simp [hl], fun z hz => ?_⟩
    · obtain ⟨xs, e, hx⟩ := D5; exact ⟨xs, set_other pd e, hx⟩
    · rw [set_same hp5]; simp
    · rcases List.mem_append.mp hz with hz | hz
      · exact hr z hz
      · have : z = r := by simpa using hz
        subst this
        exact ⟨by omega, bR⟩
  · rintro env hh ⟨⟨o, rfl⟩, Dj, rw, hp, hl, hr⟩
    rw [rangeM_len] at hl
    obtain ⟨s, h6, t6, s0, s1, D6, k6⟩ := takeM_ok Dj (k := 1 + c) (by omega)
    refine' en_ret ?e ?_
    case e => walk_at "ev"
    refine ⟨_, _, rfl, s, pr, rw, p, rfl, k6.old _ _ pd hp, ⟨hL.1, by omega, ⟨by omega, by omega⟩, by omega, s0, by omega, fun r h => ⟨(hr r h).1, fun x hx => by have := (hr r h).2 x hx; omega⟩, fun x hx => (bP x hx).1⟩, by omega, pd, D6⟩
end Mn
/-! ## MnMA -/
set_option Elab.async false
set_option linter.all false
set_option maxRecDepth 100000
namespace Mn
open PySem PySem.Spec PyProof.Rows L2
local macro_rules | `(tactic| walk_at "hp") => `(tactic| first
  | assumption
  | exact set_same (by assumption)
  | exact app_same
  | exact app_old (by assumption))
local macro_rules | `(tactic| walk_at "op") => `(tactic| with_reducible first
  | assumption
  | exact f_add | exact f_ii0 | exact f_ui | exact f_int | exact f_intB | exact f_max | exact f_min | exact f_ip
  | exact f_eqI | exact f_neI
  | exact f_lenT | exact f_lenF | exact f_lenS | exact f_tupT | exact f_tupF | exact f_tupS
  | exact f_lenR (by walk_at "hp") | exact f_tupR (by walk_at "hp")
  | (refine' f_mod ?_; omega)
  | (refine' f_div ?_ ?_ <;> omega)
  | exact f_pow (by decide)
  | exact f_isN1 | exact f_notN1
  | exact f_isN0 (by with_unfolding_all (intro q; cases q))
  | exact f_notN0 (by with_unfolding_all (intro q; cases q))
  | exact f_addT (by walk_at "sz")
  | exact f_slT | exact f_slF | exact f_slR (by walk_at "hp")
  | exact f_rev (by walk_at "hp"))
local macro_rules | `(tactic| walk_at "sz") => `(tactic| (refine sz_small ?_; simp only [List.length_cons, List.length_nil, List.length_append, List.length_map]; omega))
local macro_rules | `(tactic| walk_at "ev") => `(tactic| with_reducible first
  | assumption
  | exact ev_C
  | exact ev_V (by with_unfolding_all rfl)
  | exact ev_N
  | exact ev_oN
  | (refine' ev_2 ?a ?b ?c; (case a => walk_at "ev"); (case b => walk_at "ev"); (case c => walk_at "op"))
  | (refine' ev_1 ?a ?b; (case a => walk_at "ev"); (case b => walk_at "op"))
  | (refine' ev_F ?a ?b; (case a => walk_at "ev"); (case b => walk_at "op"))
  | (refine' ev_Cs ?a ?b; (case a => walk_at "ev"); (case b => walk_at "ev"))
  | (refine' ev_call ?a ?n ?b; (case a => walk_at "ev"); (case n => with_unfolding_all rfl); (case b => walk_at "op"))
  | (refine' ev_T ?a; (case a => walk_at "ev"))
  | (refine' ev_tnot ?a; (case a => walk_at "ev"))
  | (refine' ev_tup ?a ?b; (case a => walk_at "ev"); (case b => walk_at "sz"))
  | (refine' ev_lstF ?a ?b; (case a => walk_at "ev"); (case b => walk_at "sz"))
  | (refine' ev_lstT ?a ?b; (case a => walk_at "ev"); (case b => walk_at "sz"))
  | (refine' ev_oS ?a; (case a => walk_at "ev"))
  | (refine' ev_sl ?a ?b ?c ?d; (case a => walk_at "ev"); (case b => walk_at "ev"); (case c => walk_at "ev"); (case d => walk_at "op"))
  | (refine' ev_not ?a; (case a => walk_at "ev"))
  | (refine' ev_m0 ?a ?b ?c; (case a => walk_at "ev"); (case b => exact tyc_R (by walk_at "hp")); (case c => walk_at "op"))
  | (refine' ev_m ?a ?b ?c ?d; (case a => walk_at "ev"); (case b => exact tyc_R (by walk_at "hp")); (case c => walk_at "ev"); (case d => walk_at "op"))
  | (refine' it_range1 ?a ?b; (case a => walk_at "ev"); (case b => omega))
  | (refine' it_range2 ?a ?b; (case a => walk_at "ev"); (case b => omega))
  | (refine' it_T ?a; (case a => walk_at "ev"))
  | (refine' it_F ?a; (case a => walk_at "ev")))
local macro_rules | `(tactic| walk_at "nf") => `(tactic| (simp (config := { failIfUnchanged := false }) only [List.set_cons_succ, List.set_cons_zero, List.map_cons, List.map_nil, List.length_cons, List.length_nil, List.cons_append, List.nil_append, List.replicate]))
local macro_rules | `(tactic| walk_at "set") => `(tactic| (refine en_seq ?_; refine' en_set ?e ?_; (case e => walk_at "ev"); walk_at "nf"))
local macro_rules | `(tactic| walk_at "expr") => `(tactic| (refine en_seq ?_; refine' en_expr ?e ?_; (case e => walk_at "ev"); walk_at "nf"))

theorem comp_gen {α : Type} {i : Nat} {e : ME} {env : MEnv} {h : MH} {k g : α → MV} {xs : List α} {acc : List MV} (he : ∀ x ∈ xs, e (env.set i (some (k x))) h = .ok (g x) h) (hs : acc.length + xs.length ≤ 1000000) : compL (gNm i) tYesM e env (xs.map k) acc h = .ok (acc ++ xs.map g) h := by
  induction xs generalizing acc with
  | nil => simp [compL]
  | cons x xs ih =>
    show compL (gNm i) tYesM e env (k x :: xs.map k) acc h = _
    unfold compL
    simp only [List.length_cons] at hs
    rw [compT_yes (he x (List.mem_cons_self ..)) (by omega)]
    show compL _ _ _ _ _ _ _ = _
    rw [ih (fun x hx => he x (List.mem_cons_of_mem _ hx)) (by simp only [List.length_append, List.length_cons, List.length_nil]; omega)]
    simp
/-! ### machines -/
def tabMa : CTab := [("Machine", ["inputs", "outputs", "lead", "opening", "rows"])]
def prv (q : Int × Int) : MV := .tup [.int q.1, .int q.2]
def mrv (b : Bool) (r : List (Int × Int)) : MV := if b = true then .tup (r.map prv) else .fl (r.map prv)
def mrvs (b : Bool) (rw : List (List (Int × Int))) : MV := if b = true then .tup (rw.map (mrv true)) else .fl (rw.map (mrv false))
abbrev mKs : List Str := ["inputs", "outputs", "lead", "opening", "rows"]
def mXs (I O l : Int) (op : List Int) (rw : List (List (Int × Int))) : List MV := [.int I, .int O, .int l, .tup (nums op), mrvs true rw]
def ma (I O l : Int) (op : List Int) (rw : List (List (Int × Int))) : MV := .ob "Machine" ["inputs", "outputs", "lead", "opening", "rows"] [.int I, .int O, .int l, .tup (nums op), mrvs true rw]
structure VM (I O l : Int) (op : List Int) (rw : List (List (Int × Int))) : Prop where
  i1 : 1 ≤ I
  o1 : 1 ≤ O
  l0 : -3 ≤ l
  l1 : l ≤ 2
  n1 : 1 ≤ rw.length
  small : rw.length ≤ 1000 ∧ I ≤ 1000
  opl : (op.length : Int) = if -l > 0 then -l else 0
  opr : ∀ x ∈ op, 0 ≤ x ∧ x < O
  row : ∀ r ∈ rw, (r.length : Int) = I ∧ ∀ q ∈ r, (0 ≤ q.1 ∧ q.1 < rw.length) ∧ 0 ≤ q.2 ∧ q.2 < O
section
variable {I O l : Int} {op : List Int} {rw : List (List (Int × Int))} {h : MH}
theorem ma_inputs : fFld tabMa "inputs" (ma I O l op rw) h = .ok (.int I) h := f_fld rfl (by decide +kernel) rfl
theorem ma_outputs : fFld tabMa "outputs" (ma I O l op rw) h = .ok (.int O) h := f_fld rfl (by decide +kernel) rfl
theorem ma_lead : fFld tabMa "lead" (ma I O l op rw) h = .ok (.int l) h := f_fld rfl (by decide +kernel) rfl
theorem ma_opening : fFld tabMa "opening" (ma I O l op rw) h = .ok (.tup (nums op)) h := f_fld rfl (by decide +kernel) rfl
theorem ma_rows : fFld tabMa "rows" (ma I O l op rw) h = .ok (mrvs true rw) h := f_fld rfl (by decide +kernel) rfl
theorem mrvs_seq {b : Bool} : seqAt h (mrvs b rw) = some (rw.map (mrv b)) := by cases b <;> rfl
theorem mrvs_len {b : Bool} : fLen [mrvs b rw] h = .ok (.int rw.length) h := by
  have e : ((rw.map (mrv b)).length : Int) = rw.length := by simp
  cases b <;> · rw [← e]; rfl
theorem mrv_len {b : Bool} {r : List (Int × Int)} : fLen [mrv b r] h = .ok (.int r.length) h := by
  have e : ((r.map prv).length : Int) = r.length := by simp
  cases b <;> · rw [← e]; rfl
theorem mrvs_it {b : Bool} {e : ME} {env : MEnv} {h1 : MH} (he : e env h = .ok (mrvs b rw) h1) : iSeq e env h = .ok (.st (rw.map (mrv b))) h1 := by
  cases b
  · exact it_F he
  · exact it_T he
theorem mrv_it {b : Bool} {r : List (Int × Int)} {e : ME} {env : MEnv} {h1 : MH} (he : e env h = .ok (mrv b r) h1) : iSeq e env h = .ok (.st (r.map prv)) h1 := by
  cases b
  · exact it_F he
  · exact it_T he
theorem prv_0 {q : Int × Int} : fIx (prv q) (.int 0) h = .ok (.int q.1) h := rfl
theorem prv_1 {q : Int × Int} : fIx (prv q) (.int 1) h = .ok (.int q.2) h := rfl
end
def minitM : MF := runF 9 (sSeq (sSet 6 (mAnd (m2 fGe (mV 1) (mC (.int 1))) (mAnd (m2 fGe (mV 2) (mC (.int 1))) (mChain fLe fLe (m1 fNeg (mC (.int 3))) (mV 3) (mC (.int 2)))))) (sSeq (sSet 6 (mAnd (mV 6) (mAnd (m2 (fEq false) (mF fLen (maC (mV 4) (maN))) (mF fMax2 (maC (mC (.int 0)) (maC (m1 fNeg (mV 3)) (maN))))) (m2 fGe (mF fLen (maC (mV 5) (maN))) (mC (.int 1)))))) (sSeq (sSet 6 (mAnd (mV 6) (mCall 2 belowM (maC (mV 4) (maC (mV 2) (maN)))))) (sSeq (sFor (iSeq (mV 5)) (gNm 7) (sSeq (sSet 6 (mAnd (mV 6) (m2 (fEq false) (mF fLen (maC (mV 7) (maN))) (mV 1)))) (sSeq (sSet 6 (mAnd (mV 6) (mCall 2 belowM (maC (mComp false (iSeq (mV 7)) (gNm 8) (tYesM) (m2 fIx (mV 8) (mC (.int 0))) [8]) (maC (mF fLen (maC (mV 5) (maN))) (maN)))))) (sSet 6 (mAnd (mV 6) (mCall 2 belowM (maC (mComp false (iSeq (mV 7)) (gNm 8) (tYesM) (m2 fIx (mV 8) (mC (.int 1))) [8]) (maC (mV 2) (maN))))))))) (sSeq (sIf (tNotM (mT (mV 6))) (sRaise "InvalidMachine") (sNil)) (sSeq (sFldM tabMa "inputs" (mV 0) (mV 1)) (sSeq (sFldM tabMa "outputs" (mV 0) (mV 2)) (sSeq (sFldM tabMa "lead" (mV 0) (mV 3)) (sSeq (sFldM tabMa "opening" (mV 0) (mF fTuple (maC (mV 4) (maN)))) (sFldM tabMa "rows" (mV 0) (mF fTuple (maC (mComp false (iSeq (mV 5)) (gNm 7) (tYesM) (mF fTuple (maC (mComp false (iSeq (mV 7)) (gNm 8) (tYesM) (mTup (maC (m2 fIx (mV 8) (mC (.int 0))) (maC (m2 fIx (mV 8) (mC (.int 1))) (maN)))) [8]) (maN))) [7]) (maN)))))))))))))
theorem minit_ok {I O l : Int} {op : List Int} {rw : List (List (Int × Int))} {b : Bool} {x : MV} {h : MH} {n : Nat} (V : VM I O l op rw) (sx : SeqV x op) (hn : h[n]? = some (.ins "Machine" [] [])) :
    ∃ h', minitM [.ref n, .int I, .int O, .int l, x, mrvs b rw] h = .ok .non h' ∧ h'[n]? = some (.ins "Machine" ["inputs", "outputs", "lead", "opening", "rows"] [.int I, .int O, .int l, .tup (nums op), mrvs true rw]) ∧ Kp n h h' := by
  suffices g : Does (fun v h' => v = .non ∧ h'[n]? = some (.ins "Machine" ["inputs", "outputs", "lead", "opening", "rows"] [.int I, .int O, .int l, .tup (nums op), mrvs true rw]) ∧ Kp n h h') (minitM [.ref n, .int I, .int O, .int l, x, mrvs b rw] h) by
    obtain ⟨v, h', e, rfl, q1, q2⟩ := g
    exact ⟨h', e, q1, q2⟩
  have v1 := V.i1
  have v2 := V.o1
  have v3 := V.l0
  have v4 := V.l1
  have v5 := V.n1
  have v6 := V.opl
  have small := V.small
  unfold minitM
  refine runF_does ?_
  walk_at "nf"
  have lr := mrvs_len (rw := rw) (b := b) (h := h)
  have lp := sx.len (h := h)
  have c1 : fGe (.int I) (.int 1) h = .ok (.bl true) h := cmpT (P := I ≥ 1) f_ii0 v1
  have c2 : fGe (.int O) (.int 1) h = .ok (.bl true) h := cmpT (P := O ≥ 1) f_ii0 v2
  have c3 : fLe (.int (-3)) (.int l) h = .ok (.bl true) h := cmpT (P := (-3 : Int) ≤ l) f_ii0 v3
  have c4 : fLe (.int l) (.int 2) h = .ok (.bl true) h := cmpT (P := l ≤ (2 : Int)) f_ii0 v4
  have c5 : fEq false (.int (op.length : Int)) (.int (if -l > 0 then -l else 0)) h = .ok (.bl true) h := cmpT f_eqI v6
  have c6 : fGe (.int (rw.length : Int)) (.int 1) h = .ok (.bl true) h := cmpT (P := (rw.length : Int) ≥ 1) f_ii0 (by omega)
  have ng3 : fNeg (.int 3) h = .ok (.int (-3)) h := rfl
  have ngl : fNeg (.int l) h = .ok (.int (-l)) h := rfl
  have bo := belowM_ok (h := h) sx V.opr
  refine en_seq ?_
  refine' en_set (d := .bl true) (h1 := h) ?e ?_
  case e => exact andT (h1 := h) (by walk_at "ev") (andT (h1 := h) (by walk_at "ev") (ev_chainT (h1 := h) (h2 := h) (h3 := h) (h4 := h) (by walk_at "ev") (by walk_at "ev") c3 (by walk_at "ev") c4))
  walk_at "nf"
  refine en_seq ?_
  refine' en_set (d := .bl true) (h1 := h) ?e ?_
  case e => exact andT (h1 := h) (by walk_at "ev") (andT (h1 := h) (by walk_at "ev") (by walk_at "ev"))
  walk_at "nf"
  refine en_seq ?_
  refine' en_set (d := .bl true) (h1 := h) ?e ?_
  case e => exact andT (h1 := h) (by walk_at "ev") (by walk_at "ev")
  walk_at "nf"
  refine en_seq ?_
  refine' en_for (xs := rw.map (mrv b)) (h1 := h) ?e ?_
  case e => exact mrvs_it (by walk_at "ev")
  refine en_forL (fun j env hh => hh = h ∧ ∃ o, env = [some (.ref n), some (.int I), some (.int O), some (.int l), some x, some (mrvs b rw), some (.bl true), o, none]) ⟨rfl, _, rfl⟩ ?_ ?_
  · rintro j v env hh hx ⟨rfl, o, rfl⟩
    obtain ⟨r, hr, rfl⟩ := List.mem_map.mp (List.mem_of_getElem? hx)
    obtain ⟨r1, r2⟩ := V.row r hr
    show Ends _ (sSeq _ _ [some (.ref n), some (.int I), some (.int O), some (.int l), some x, some (mrvs b rw), some (.bl true), some (mrv b r), none] hh)
    have n1 := mrv_len (b := b) (r := r) (h := hh)
    have e1 : fEq false (.int (r.length : Int)) (.int I) hh = .ok (.bl true) hh := cmpT f_eqI r1
    refine en_seq ?_
    refine' en_set (d := .bl true) (h1 := hh) ?e ?_
    case e => exact andT (h1 := hh) (by walk_at "ev") (by walk_at "ev")
    walk_at "nf"
    have p0 := fun q : Int × Int => @prv_0 hh q
    have p1 := fun q : Int × Int => @prv_1 hh q
    have b0 := belowM_ok (h := hh) (SeqV.F (ns := r.map Prod.fst)) (K := (rw.length : Int)) (fun x hx => by obtain ⟨q, hq, rfl⟩ := List.mem_map.mp hx; exact (r2 q hq).1)
    have b1 := belowM_ok (h := hh) (SeqV.F (ns := r.map Prod.snd)) (K := O) (fun x hx => by obtain ⟨q, hq, rfl⟩ := List.mem_map.mp hx; exact (r2 q hq).2)
    have m0 : mComp false (iSeq (mV 7)) (gNm 8) (tYesM) (m2 fIx (mV 8) (mC (.int 0))) [8] [some (.ref n), some (.int I), some (.int O), some (.int l), some x, some (mrvs b rw), some (.bl true), some (mrv b r), none] hh = .ok (.fl (nums (r.map Prod.fst))) hh := by
      refine' ev_compF (h1 := hh) (xs := r.map prv) ?i1 ?i2
      case i1 => exact mrv_it (by walk_at "ev")
      case i2 =>
        have := comp_gen (i := 8) (e := m2 fIx (mV 8) (mC (.int 0))) (env := [some (.ref n), some (.int I), some (.int O), some (.int l), some x, some (mrvs b rw), some (.bl true), some (mrv b r), none]) (h := hh) (k := prv) (g := fun q => .int q.1) (xs := r) (acc := []) (fun q hq => ev_2 (ev_V rfl) ev_C (p0 q)) (by simp only [List.length_nil]; omega)
        rw [List.nil_append] at this
        have e : nums (r.map Prod.fst) = r.map fun q => MV.int q.1 := by unfold nums; rw [List.map_map]; rfl
        rw [e]
        exact this
    have m1' : mComp false (iSeq (mV 7)) (gNm 8) (tYesM) (m2 fIx (mV 8) (mC (.int 1))) [8] [some (.ref n), some (.int I), some (.int O), some (.int l), some x, some (mrvs b rw), some (.bl true), some (mrv b r), none] hh = .ok (.fl (nums (r.map Prod.snd))) hh := by
      refine' ev_compF (h1 := hh) (xs := r.map prv) ?i1 ?i2
      case i1 => exact mrv_it (by walk_at "ev")
      case i2 =>
        have := comp_gen (i := 8) (e := m2 fIx (mV 8) (mC (.int 1))) (env := [some (.ref n), some (.int I), some (.int O), some (.int l), some x, some (mrvs b rw), some (.bl true), some (mrv b r), none]) (h := hh) (k := prv) (g := fun q => .int q.2) (xs := r) (acc := []) (fun q hq => ev_2 (ev_V rfl) ev_C (p1 q)) (by simp only [List.length_nil]; omega)
        rw [List.nil_append] at this
        have e : nums (r.map Prod.snd) = r.map fun q => MV.int q.2 := by unfold nums; rw [List.map_map]; rfl
        rw [e]
        exact this
    have lr := mrvs_len (rw := rw) (b := b) (h := hh)
    refine en_seq ?_
    refine' en_set (d := .bl true) (h1 := hh) ?e ?_
    case e => exact andT (h1 := hh) (by walk_at "ev") (by walk_at "ev")
    walk_at "nf"
    refine' en_set (d := .bl true) (h1 := hh) ?e ?_
    case e => exact andT (h1 := hh) (by walk_at "ev") (by walk_at "ev")
    exact ⟨rfl, _, rfl⟩
  rintro env h' ⟨rfl, o, rfl⟩
  refine en_seq ?_
  refine' en_if (v := false) ?e (fun c => by cases c) ?_
  case e => exact ev_tnot (v := true) (by walk_at "ev")
  intro _
  refine en_nil ?_
  -- the fields
  refine en_seq ?_
  refine' en_fld ?f1 ?f2 hn ⟨by decide +kernel, by decide⟩ ?_
  case f1 => walk_at "ev"
  case f2 => walk_at "ev"
  have hn1 := set_same (c' := .ins "Machine" ["inputs"] [.int I]) hn
  have K1 : Kp n h' (h'.set n (.ins "Machine" ["inputs"] [.int I])) := Kp.set
  show Ends _ (sSeq _ _ [some (.ref n), some (.int I), some (.int O), some (.int l), some x, some (mrvs b rw), some (.bl true), o, none] (h'.set n (.ins "Machine" ["inputs"] [.int I])))
  generalize h'.set n (.ins "Machine" ["inputs"] [.int I]) = g1 at *
  refine en_seq ?_
  refine' en_fld ?f3 ?f4 hn1 ⟨by decide +kernel, by decide⟩ ?_
  case f3 => walk_at "ev"
  case f4 => walk_at "ev"
  have hn2 := set_same (c' := .ins "Machine" ["inputs", "outputs"] [.int I, .int O]) hn1
  have K2 : Kp n g1 (g1.set n (.ins "Machine" ["inputs", "outputs"] [.int I, .int O])) := Kp.set
  show Ends _ (sSeq _ _ [some (.ref n), some (.int I), some (.int O), some (.int l), some x, some (mrvs b rw), some (.bl true), o, none] (g1.set n (.ins "Machine" ["inputs", "outputs"] [.int I, .int O])))
  generalize g1.set n (.ins "Machine" ["inputs", "outputs"] [.int I, .int O]) = g2 at *
  refine en_seq ?_
  refine' en_fld ?f5 ?f6 hn2 ⟨by decide +kernel, by decide⟩ ?_
  case f5 => walk_at "ev"
  case f6 => walk_at "ev"
  have hn3 := set_same (c' := .ins "Machine" ["inputs", "outputs", "lead"] [.int I, .int O, .int l]) hn2
  have K3 : Kp n g2 (g2.set n (.ins "Machine" ["inputs", "outputs", "lead"] [.int I, .int O, .int l])) := Kp.set
  show Ends _ (sSeq _ _ [some (.ref n), some (.int I), some (.int O), some (.int l), some x, some (mrvs b rw), some (.bl true), o, none] (g2.set n (.ins "Machine" ["inputs", "outputs", "lead"] [.int I, .int O, .int l])))
  generalize g2.set n (.ins "Machine" ["inputs", "outputs", "lead"] [.int I, .int O, .int l]) = g3 at *
  have tp := sx.tup (h := g3)
  refine en_seq ?_
  refine' en_fld ?f7 ?f8 hn3 ⟨by decide +kernel, by decide⟩ ?_
  case f7 => walk_at "ev"
  case f8 => walk_at "ev"
  have hn4 := set_same (c' := .ins "Machine" ["inputs", "outputs", "lead", "opening"] [.int I, .int O, .int l, .tup (nums op)]) hn3
  have K4 : Kp n g3 (g3.set n (.ins "Machine" ["inputs", "outputs", "lead", "opening"] [.int I, .int O, .int l, .tup (nums op)])) := Kp.set
  show Ends _ (sFldM _ _ _ _ [some (.ref n), some (.int I), some (.int O), some (.int l), some x, some (mrvs b rw), some (.bl true), o, none] (g3.set n (.ins "Machine" ["inputs", "outputs", "lead", "opening"] [.int I, .int O, .int l, .tup (nums op)])))
  generalize g3.set n (.ins "Machine" ["inputs", "outputs", "lead", "opening"] [.int I, .int O, .int l, .tup (nums op)]) = g4 at *
  have cm : compL (gNm 7) tYesM (mF fTuple (maC (mComp false (iSeq (mV 7)) (gNm 8) (tYesM) (mTup (maC (m2 fIx (mV 8) (mC (.int 0))) (maC (m2 fIx (mV 8) (mC (.int 1))) (maN)))) [8]) (maN))) [some (.ref n), some (.int I), some (.int O), some (.int l), some x, some (mrvs b rw), some (.bl true), none, none] (rw.map (mrv b)) [] g4 = .ok ([] ++ rw.map (mrv true)) g4 := by
    refine comp_gen (fun r hr => ?_) (by simp only [List.length_nil]; omega)
    obtain ⟨r1, _⟩ := V.row r hr
    refine ev_F (xs := [.fl (r.map prv)]) (ev_Cs (h1 := g4) ?_ ev_N) rfl
    refine' ev_compF (h1 := g4) (xs := r.map prv) ?i1 ?i2
    case i1 => exact mrv_it (ev_V rfl)
    case i2 =>
      have := comp_gen (i := 8) (e := (mTup (maC (m2 fIx (mV 8) (mC (.int 0))) (maC (m2 fIx (mV 8) (mC (.int 1))) (maN))))) (env := [some (.ref n), some (.int I), some (.int O), some (.int l), some x, some (mrvs b rw), some (.bl true), some (mrv b r), none]) (h := g4) (k := prv) (g := prv) (xs := r) (acc := []) (fun q hq => ev_tup (ev_Cs (ev_2 (ev_V rfl) ev_C prv_0) (ev_Cs (ev_2 (ev_V rfl) ev_C prv_1) ev_N)) (sz_small (by simp))) (by simp only [List.length_nil]; omega)
      rw [List.nil_append] at this
      exact this
  rw [List.nil_append] at cm
  refine' en_fld (y := mrvs true rw) (h1 := g4) (h2 := g4) ?f9 ?f10 hn4 ⟨by decide +kernel, by decide⟩ ?_
  case f9 =>
    refine' ev_F (xs := [.fl (rw.map (mrv true))]) (ev_Cs (h1 := g4) ?y1 ev_N) ?y2
    case y1 =>
      refine' ev_compF (h1 := g4) (xs := rw.map (mrv b)) ?i1 cm
      case i1 => exact mrvs_it (by walk_at "ev")
    case y2 => rfl
  case f10 => walk_at "ev"
  exact ⟨_, _, rfl, rfl, set_same hn4, (((K1.trans K2).trans K3).trans K4).trans Kp.set⟩
theorem mmake_ok {I O l : Int} {op : List Int} {rw : List (List (Int × Int))} {b : Bool} {x : MV} {a : MA} {env : MEnv} {h h1 : MH} (V : VM I O l op rw) (sx : SeqV x op) (ha : a env h = .ok [.int I, .int O, .int l, x, mrvs b rw] h1) : ∃ h', mMake "Machine" true 6 minitM a env h = .ok (ma I O l op rw) h' ∧ ∀ (n : Nat) c, h1[n]? = some c → h'[n]? = some c := by
  obtain ⟨h2, e, hn, k⟩ := minit_ok (b := b) (h := h1 ++ [.ins "Machine" [] []]) (n := h1.length) V sx app_same
  refine ⟨_, ev_make ha rfl e hn, fun n c hc => ?_⟩
  have := lt_of_get hc
  exact set_other (by omega) (k.old n c (by omega) (app_old hc))
end Mn
/-! ## MnMB -/
set_option Elab.async false
set_option linter.all false
set_option maxRecDepth 100000
namespace Mn
open PySem PySem.Spec PyProof.Rows L2
local macro_rules | `(tactic| walk_at "hp") => `(tactic| first
  | assumption
  | exact set_same (by assumption)
  | exact app_same
  | exact app_old (by assumption))
local macro_rules | `(tactic| walk_at "op") => `(tactic| with_reducible first
  | assumption
  | exact f_add | exact f_ii0 | exact f_ui | exact f_int | exact f_intB | exact f_max | exact f_min | exact f_ip
  | exact f_eqI | exact f_neI
  | exact f_lenT | exact f_lenF | exact f_lenS | exact f_tupT | exact f_tupF | exact f_tupS
  | exact f_lenR (by walk_at "hp") | exact f_tupR (by walk_at "hp")
  | (refine' f_mod ?_; omega)
  | (refine' f_div ?_ ?_ <;> omega)
  | exact f_pow (by decide)
  | exact f_isN1 | exact f_notN1
  | exact f_isN0 (by with_unfolding_all (intro q; cases q))
  | exact f_notN0 (by with_unfolding_all (intro q; cases q))
  | exact f_addT (by walk_at "sz")
  | exact f_slT | exact f_slF | exact f_slR (by walk_at "hp")
  | exact f_rev (by walk_at "hp"))
local macro_rules | `(tactic| walk_at "sz") => `(tactic| (refine sz_small ?_; simp only [List.length_cons, List.length_nil, List.length_append, List.length_map]; omega))
local macro_rules | `(tactic| walk_at "ev") => `(tactic| with_reducible first
  | assumption
  | exact ev_C
  | exact ev_V (by with_unfolding_all rfl)
  | exact ev_N
  | exact ev_oN
  | (refine' ev_2 ?a ?b ?c; (case a => walk_at "ev"); (case b => walk_at "ev"); (case c => walk_at "op"))
  | (refine' ev_1 ?a ?b; (case a => walk_at "ev"); (case b => walk_at "op"))
  | (refine' ev_F ?a ?b; (case a => walk_at "ev"); (case b => walk_at "op"))
  | (refine' ev_Cs ?a ?b; (case a => walk_at "ev"); (case b => walk_at "ev"))
  | (refine' ev_call ?a ?n ?b; (case a => walk_at "ev"); (case n => with_unfolding_all rfl); (case b => walk_at "op"))
  | (refine' ev_T ?a; (case a => walk_at "ev"))
  | (refine' ev_tnot ?a; (case a => walk_at "ev"))
  | (refine' ev_tup ?a ?b; (case a => walk_at "ev"); (case b => walk_at "sz"))
  | (refine' ev_lstF ?a ?b; (case a => walk_at "ev"); (case b => walk_at "sz"))
  | (refine' ev_lstT ?a ?b; (case a => walk_at "ev"); (case b => walk_at "sz"))
  | (refine' ev_oS ?a; (case a => walk_at "ev"))
  | (refine' ev_sl ?a ?b ?c ?d; (case a => walk_at "ev"); (case b => walk_at "ev"); (case c => walk_at "ev"); (case d => walk_at "op"))
  | (refine' ev_not ?a; (case a => walk_at "ev"))
  | (refine' ev_m0 ?a ?b ?c; (case a => walk_at "ev"); (case b => exact tyc_R (by walk_at "hp")); (case c => walk_at "op"))
  | (refine' ev_m ?a ?b ?c ?d; (case a => walk_at "ev"); (case b => exact tyc_R (by walk_at "hp")); (case c => walk_at "ev"); (case d => walk_at "op"))
  | (refine' it_range1 ?a ?b; (case a => walk_at "ev"); (case b => omega))
  | (refine' it_range2 ?a ?b; (case a => walk_at "ev"); (case b => omega))
  | (refine' it_T ?a; (case a => walk_at "ev"))
  | (refine' it_F ?a; (case a => walk_at "ev")))
local macro_rules | `(tactic| walk_at "nf") => `(tactic| (simp (config := { failIfUnchanged := false }) only [List.set_cons_succ, List.set_cons_zero, List.map_cons, List.map_nil, List.length_cons, List.length_nil, List.cons_append, List.nil_append, List.replicate]))
local macro_rules | `(tactic| walk_at "set") => `(tactic| (refine en_seq ?_; refine' en_set ?e ?_; (case e => walk_at "ev"); walk_at "nf"))
local macro_rules | `(tactic| walk_at "expr") => `(tactic| (refine en_seq ?_; refine' en_expr ?e ?_; (case e => walk_at "ev"); walk_at "nf"))

/-! ### what a machine emits -/
def mst (rw : List (List (Int × Int))) (s a : Int) : Int × Int := (rw.getD s.toNat []).getD a.toNat (0, 0)
def est (rw : List (List (Int × Int))) (w : Nat → Int) : Nat → Int
  | 0 => 0
  | t + 1 => (mst rw (est rw w t) (w t)).1
def em (rw : List (List (Int × Int))) (w : Nat → Int) (t : Nat) : Int := (mst rw (est rw w t) (w t)).2
theorem mst_in {I O l : Int} {op : List Int} {rw : List (List (Int × Int))} (V : VM I O l op rw) {s a : Int} (h0 : 0 ≤ s) (h1 : s < rw.length) (a0 : 0 ≤ a) (a1 : a < I) : (0 ≤ (mst rw s a).1 ∧ (mst rw s a).1 < rw.length) ∧ 0 ≤ (mst rw s a).2 ∧ (mst rw s a).2 < O := by
  unfold mst
  have hk : s.toNat < rw.length := by omega
  have hr : rw.getD s.toNat [] ∈ rw := by rw [List.getD, List.getElem?_eq_getElem hk]; exact List.getElem_mem hk
  obtain ⟨r1, r2⟩ := V.row _ hr
  generalize rw.getD s.toNat [] = r at *
  have hk : a.toNat < r.length := by omega
  have hq : r.getD a.toNat (0, 0) ∈ r := by rw [List.getD, List.getElem?_eq_getElem hk]; exact List.getElem_mem hk
  exact r2 _ hq
theorem est_in {I O l : Int} {op : List Int} {rw : List (List (Int × Int))} (V : VM I O l op rw) {w : Nat → Int} {n : Nat} (hw : ∀ t, t < n → 0 ≤ w t ∧ w t < I) : ∀ t, t ≤ n → 0 ≤ est rw w t ∧ est rw w t < rw.length
  | 0, _ => ⟨Int.le_refl _, by have := V.n1; show (0 : Int) < _; omega⟩
  | t + 1, h => by
    obtain ⟨q0, q1⟩ := est_in V hw t (by omega)
    obtain ⟨a0, a1⟩ := hw t (by omega)
    exact (mst_in V q0 q1 a0 a1).1
theorem est_congr {rw : List (List (Int × Int))} {w w' : Nat → Int} : ∀ t, (∀ u, u < t → w u = w' u) → est rw w t = est rw w' t
  | 0, _ => rfl
  | t + 1, h => by
    show (mst rw (est rw w t) (w t)).1 = (mst rw (est rw w' t) (w' t)).1
    rw [est_congr t (fun u hu => h u (by omega)), h t (by omega)]
theorem em_congr {rw : List (List (Int × Int))} {w w' : Nat → Int} {t : Nat} (h : ∀ u, u ≤ t → w u = w' u) : em rw w t = em rw w' t := by
  unfold em
  rw [est_congr t (fun u hu => h u (by omega)), h t (Nat.le_refl _)]
theorem est_per {rw : List (List (Int × Int))} {w : Nat → Int} {b p : Nat} (P : PerW w b p) (e : est rw w (b + p) = est rw w b) : ∀ d, est rw w (b + d + p) = est rw w (b + d)
  | 0 => e
  | d + 1 => by
    have ih := est_per P e d
    show est rw w (b + d + 1 + p) = est rw w (b + d + 1)
    rw [show b + d + 1 + p = (b + d + p) + 1 by omega]
    show (mst rw (est rw w (b + d + p)) (w (b + d + p))).1 = (mst rw (est rw w (b + d)) (w (b + d))).1
    rw [ih, P (b + d) (by omega)]
theorem em_per {rw : List (List (Int × Int))} {w : Nat → Int} {b p : Nat} (P : PerW w b p) (e : est rw w (b + p) = est rw w b) : PerW (em rw w) b p := by
  intro t ht
  obtain ⟨d, rfl⟩ : ∃ d, t = b + d := ⟨t - b, by omega⟩
  unfold em
  rw [est_per P e d, P _ (by omega)]
/-- the two subscripts of one step -/
theorem mix2 {I O l : Int} {op : List Int} {rw : List (List (Int × Int))} (V : VM I O l op rw) {s a : Int} {h : MH} (h0 : 0 ≤ s) (h1 : s < rw.length) (a0 : 0 ≤ a) (a1 : a < I) : ∃ x, fIx (mrvs true rw) (.int s) h = .ok x h ∧ fIx x (.int a) h = .ok (prv (mst rw s a)) h := by
  have hk : s.toNat < rw.length := by omega
  refine ⟨mrv true (rw.getD s.toNat []), f_ix mrvs_seq (atI_z h0 ?_), ?_⟩
  · rw [List.getElem?_map, List.getElem?_eq_getElem hk]
    simp [List.getD, List.getElem?_eq_getElem hk]
  · have hr : rw.getD s.toNat [] ∈ rw := by rw [List.getD, List.getElem?_eq_getElem hk]; exact List.getElem_mem hk
    obtain ⟨r1, _⟩ := V.row _ hr
    unfold mst
    generalize rw.getD s.toNat [] = r at *
    have hk2 : a.toNat < r.length := by omega
    refine f_ix (x := mrv true r) (xs := r.map prv) rfl (atI_z a0 ?_)
    rw [List.getElem?_map, List.getElem?_eq_getElem hk2]
    simp [List.getD, List.getElem?_eq_getElem hk2]
theorem nums_snoc {xs : List Int} {x : Int} : nums (xs ++ [x]) = nums xs ++ [.int x] := by unfold nums; rw [List.map_append]; rfl
theorem wt_succ {w : Nat → Int} {n : Nat} : wtake w 0 (n + 1) = wtake w 0 n ++ [w n] := by
  unfold wtake
  rw [List.range_succ, List.map_append]
  simp
def emisM : MF := runF 6 (sSeq (sSet 2 (mC (.int 0))) (sSeq (sSet 3 (mLst true (maN))) (sSeq (sFor (iSeq (mV 1)) (gNm 4) (sSeq (sAsg (m2 fIx (m2 fIx (m1 (fFld tabMa "rows") (mV 0)) (mV 2)) (mV 4)) (gTup [gNm 2, gNm 5])) (sExpr (mM "list" fAppend (mV 3) (maC (mV 5) (maN)))))) (sRet (mV 3)))))
theorem emisM_ok {I O l : Int} {op : List Int} {rw : List (List (Int × Int))} {x : MV} {ls : List Int} {w : Nat → Int} {h : MH} (V : VM I O l op rw) (sx : SeqV x ls) (hz : ls.length ≤ 1000) (hw : ∀ t a, ls[t]? = some a → a = w t ∧ 0 ≤ a ∧ a < I) :
    ∃ h', emisM [ma I O l op rw, x] h = .ok (.ref h.length) h' ∧ h'[h.length]? = some (.lst (nums (wtake (em rw w) 0 ls.length))) ∧ h'.length = h.length + 1 ∧ ∀ (n : Nat) c, h[n]? = some c → h'[n]? = some c := by
  suffices g : Does (fun v h' => v = .ref h.length ∧ h'[h.length]? = some (.lst (nums (wtake (em rw w) 0 ls.length))) ∧ h'.length = h.length + 1 ∧ ∀ (n : Nat) c, h[n]? = some c → h'[n]? = some c) (emisM [ma I O l op rw, x] h) by
    obtain ⟨v, h', e, rfl, q⟩ := g
    exact ⟨h', e, q⟩
  have hw2 : ∀ t, t < ls.length → 0 ≤ w t ∧ w t < I := fun t ht => by
    obtain ⟨e, q⟩ := hw t _ (List.getElem?_eq_getElem ht)
    rw [← e]; exact q
  unfold emisM
  refine runF_does ?_
  walk_at "nf"
  walk_at "set"
  walk_at "set"
  refine en_seq ?_
  refine' en_for (xs := nums ls) (h1 := h ++ [.lst []]) ?e ?_
  case e => rcases sx with rfl | rfl <;> walk_at "ev"
  refine en_forL (fun j env hh => (∃ o4 o5, env = [some (ma I O l op rw), some x, some (.int (est rw w j)), some (.ref h.length), o4, o5]) ∧ hh[h.length]? = some (.lst (nums (wtake (em rw w) 0 j))) ∧ hh.length = h.length + 1 ∧ ∀ (n : Nat) c, h[n]? = some c → hh[n]? = some c) ?_ ?_ ?_
  · exact ⟨⟨_, _, rfl⟩, app_same, by simp, fun n c e => app_old e⟩
  · rintro j v env hh hx ⟨⟨o4, o5, rfl⟩, hc, hlen, hold⟩
    rw [List.getElem?_map] at hx
    obtain ⟨a, ha, rfl⟩ := Option.map_eq_some_iff.mp hx
    obtain ⟨ea, a0, a1⟩ := hw j a ha
    have hj := (List.getElem?_eq_some_iff.mp ha).1
    obtain ⟨q0, q1⟩ := est_in V hw2 j (by omega)
    show Ends _ (sSeq _ _ [some (ma I O l op rw), some x, some (.int (est rw w j)), some (.ref h.length), some (.int a), o5] hh)
    obtain ⟨y, f1, f2⟩ := mix2 V (h := hh) q0 q1 a0 a1
    have fr := ma_rows (I := I) (O := O) (l := l) (op := op) (rw := rw) (h := hh)
    refine en_seq ?_
    refine' en_asg (d := prv (mst rw (est rw w j) a)) (h1 := hh) ?e ?g ?_
    case e => walk_at "ev"
    case g => rfl
    show Ends _ (sExpr _ [some (ma I O l op rw), some x, some (.int (mst rw (est rw w j) a).1), some (.ref h.length), some (.int a), some (.int (mst rw (est rw w j) a).2)] hh)
    have ap := f_app (y := .int (mst rw (est rw w j) a).2) hc (sz_lt (by rw [List.length_map, wtake_len]; omega))
    refine' en_expr ?e ?_
    case e => walk_at "ev"
    refine ⟨⟨some (.int a), some (.int (mst rw (est rw w j) a).2), by rw [ea]; rfl⟩, ?_, by rw [List.length_set]; exact hlen, fun n c e => set_other (by have := lt_of_get e; omega) (hold n c e)⟩
    rw [set_same hc, wt_succ, nums_snoc]
    have : em rw w j = (mst rw (est rw w j) a).2 := by rw [ea]; rfl
    rw [this]
  · rintro env hh ⟨⟨o4, o5, rfl⟩, hc, hlen, hold⟩
    rw [List.length_map] at hc
    refine' en_ret ?e ?_
    case e => walk_at "ev"
    exact ⟨_, _, rfl, rfl, hc, hlen, hold⟩
/-! ### the dict of first turns -/
def kvs (a b : Nat → Int) (k : Nat) : List (MV × MV) := (List.range k).map fun i => (MV.int (a i), MV.int (b i))
theorem dget_app {u v : List (MV × MV)} {k : Key} : dgetM (u ++ v) k = (dgetM u k).or (dgetM v k) := by
  induction u with
  | nil => rfl
  | cons x u ih =>
    show (if keyV x.1 = some k then some x.2 else dgetM (u ++ v) k) = (if keyV x.1 = some k then some x.2 else dgetM u k).or _
    split
    · rfl
    · exact ih
theorem dget_kvs {a b : Nat → Int} {k : Nat} {s : Int} : (dgetM (kvs a b k) (.inl s) = none ∧ ∀ i, i < k → a i ≠ s) ∨ ∃ i, i < k ∧ a i = s ∧ dgetM (kvs a b k) (.inl s) = some (.int (b i)) := by
  induction k with
  | zero => exact .inl ⟨rfl, fun i hi => absurd hi (Nat.not_lt_zero _)⟩
  | succ k ih =>
    have e : kvs a b (k + 1) = kvs a b k ++ [(.int (a k), .int (b k))] := by unfold kvs; rw [List.range_succ, List.map_append]; rfl
    have e2 : dgetM [(MV.int (a k), MV.int (b k))] (.inl s) = if a k = s then some (.int (b k)) else none := by
      show (if (some (Sum.inl (a k)) : Option Key) = some (.inl s) then _ else _) = _
      by_cases c : a k = s
      · rw [c, if_pos rfl, if_pos rfl]
      · rw [if_neg c, if_neg (fun z => c (Sum.inl.inj (Option.some.inj z)))]; rfl
    rw [e, dget_app, e2]
    rcases ih with ⟨i1, i2⟩ | ⟨i, i1, i2, i3⟩
    · rw [i1]
      by_cases c : a k = s
      · rw [if_pos c]; exact .inr ⟨k, Nat.lt_succ_self _, c, rfl⟩
      · rw [if_neg c]
        refine .inl ⟨rfl, fun i hi => ?_⟩
        rcases Nat.lt_succ_iff_lt_or_eq.mp hi with hi | rfl
        · exact i2 i hi
        · exact c
    · rw [i3]; exact .inr ⟨i, Nat.lt_succ_of_lt i1, i2, rfl⟩
theorem dput_kvs {a b : Nat → Int} {k : Nat} (h : ∀ i, i < k → a i ≠ a k) : dputM (kvs a b k) (.int (a k)) (.int (b k)) (.inl (a k)) = kvs a b (k + 1) := by
  have e : kvs a b (k + 1) = kvs a b k ++ [(.int (a k), .int (b k))] := by unfold kvs; rw [List.range_succ, List.map_append]; rfl
  rcases dget_kvs (a := a) (b := b) (k := k) (s := a k) with ⟨i1, _⟩ | ⟨i, i1, i2, _⟩
  · unfold dputM; rw [i1, e]; rfl
  · exact absurd i2 (h i i1)
def elasM : MF := runF 9 (sSeq (sAsg (mV 1) (gTup [gNm 2, gNm 3])) (sSeq (sSet 4 (mCall 2 emisM (maC (mV 0) (maC (mV 2) (maN))))) (sSeq (sSet 5 (mDict0)) (sSeq (sSet 6 (mC (.int 0))) (sSeq (sFor (iSeq (mV 2)) (gNm 7) (sSet 6 (m2 fIx (m2 fIx (m2 fIx (m1 (fFld tabMa "rows") (mV 0)) (mV 6)) (mV 7)) (mC (.int 0))))) (sSeq (sWhile (mT (m2 (fDIn true) (mV 6) (mV 5))) (sSeq (sDPutM (mV 5) (mV 6) (mF fLen (maC (mV 4) (maN)))) (sFor (iSeq (mV 3)) (gNm 7) (sSeq (sAsg (m2 fIx (m2 fIx (m1 (fFld tabMa "rows") (mV 0)) (mV 6)) (mV 7)) (gTup [gNm 6, gNm 8])) (sExpr (mM "list" fAppend (mV 4) (maC (mV 8) (maN))))))) big) (sRet (mTup (maC (mF fTuple (maC (mSl (fSl false) (mV 4) (moN) (moS (m2 fDGet (mV 5) (mV 6)))) (maN))) (maC (mF fTuple (maC (mSl (fSl false) (mV 4) (moS (m2 fDGet (mV 5) (mV 6))) (moN)) (maN))) (maN)))))))))))
theorem elasM_ok {I O l : Int} {op : List Int} {rw : List (List (Int × Int))} {hs ls : List Int} {h : MH} (V : VM I O l op rw) (hl : ls ≠ []) (hz : hs.length ≤ 100 ∧ ls.length ≤ 100) (hN : rw.length ≤ 100) (hr : ∀ x ∈ hs ++ ls, 0 ≤ x ∧ x < I) :
    ∃ b p h', elasM [ma I O l op rw, lasso hs ls] h = .ok (lasso (wtake (em rw (lw hs ls)) 0 b) (wtake (em rw (lw hs ls)) b p)) h' ∧ 1 ≤ p ∧ PerW (em rw (lw hs ls)) b p ∧ b + p ≤ hs.length + ls.length * rw.length ∧ ∀ (n : Nat) c, h[n]? = some c → h'[n]? = some c := by
  suffices g : Does (fun v h' => ∃ b p, v = lasso (wtake (em rw (lw hs ls)) 0 b) (wtake (em rw (lw hs ls)) b p) ∧ 1 ≤ p ∧ PerW (em rw (lw hs ls)) b p ∧ b + p ≤ hs.length + ls.length * rw.length ∧ ∀ (n : Nat) c, h[n]? = some c → h'[n]? = some c) (elasM [ma I O l op rw, lasso hs ls] h) by
    obtain ⟨v, h', e, b, p, rfl, q⟩ := g
    exact ⟨b, p, h', e, q⟩
  have hl2 : 0 < ls.length := List.length_pos_iff.mpr hl
  have hw : ∀ t, 0 ≤ lw hs ls t ∧ lw hs ls t < I := lw_all hl hr
  have hin : ∀ t, 0 ≤ est rw (lw hs ls) t ∧ est rw (lw hs ls) t < rw.length := fun t => est_in V (n := t) (fun u _ => hw u) t (Nat.le_refl _)
  have hper := lw_per (hs := hs) (ls := ls)
  have h1w : ∀ t a, hs[t]? = some a → a = lw hs ls t := fun t a e => by
    have ht := (List.getElem?_eq_some_iff.mp e).1
    rw [lw_lt ht, List.getD, e]; rfl
  have h2w : ∀ k t a, ls[t]? = some a → a = lw hs ls (hs.length + ls.length * k + t) := fun k t a e => by
    have ht := (List.getElem?_eq_some_iff.mp e).1
    rw [lw_ge (by omega), show hs.length + ls.length * k + t - hs.length = t + ls.length * k by omega, Nat.add_mul_mod_self_left, Nat.mod_eq_of_lt ht, List.getD, e]; rfl
  generalize hW : lw hs ls = w at *
  unfold elasM
  refine runF_does ?_
  walk_at "nf"
  refine en_seq ?_
  refine' en_asg (d := lasso hs ls) (h1 := h) ?e ?g ?_
  case e => walk_at "ev"
  case g => rfl
  walk_at "nf"
  obtain ⟨h1, e1, c1, len1, old1⟩ := emisM_ok (w := w) (x := .tup (nums hs)) (ls := hs) (h := h) V SeqV.T (by omega) (fun t a e => ⟨h1w t a e, hr a (List.mem_append_left _ (List.mem_of_getElem? e))⟩)
  walk_at "set"
  refine en_seq ?_
  refine' en_set (d := .ref h1.length) (h1 := h1 ++ [.dct []]) ?e ?_
  case e => rfl
  walk_at "nf"
  have cf : (h1 ++ [Cell.dct []])[h.length]? = some (.lst (nums (wtake (em rw w) 0 hs.length))) := app_old c1
  have cd : (h1 ++ [Cell.dct []])[h1.length]? = some (.dct []) := app_same
  have old2 : ∀ (n : Nat) c, h[n]? = some c → (h1 ++ [Cell.dct []])[n]? = some c := fun n c e => app_old (old1 n c e)
  have ne : h.length ≠ h1.length := by omega
  have nf : h.length ≤ h1.length := by omega
  generalize h1 ++ [Cell.dct []] = h2 at *
  generalize h1.length = m at *
  walk_at "set"
  -- the state behind the head
  refine en_seq ?_
  refine' en_for (xs := nums hs) (h1 := h2) ?e ?_
  case e => walk_at "ev"
  refine en_forL (fun j env hh => hh = h2 ∧ ∃ o7, env = [some (ma I O l op rw), some (lasso hs ls), some (.tup (nums hs)), some (.tup (nums ls)), some (.ref h.length), some (.ref m), some (.int (est rw w j)), o7, none]) ⟨rfl, _, rfl⟩ ?_ ?_
  · rintro j v env hh hx ⟨rfl, o7, rfl⟩
    rw [List.getElem?_map] at hx
    obtain ⟨a, ha, rfl⟩ := Option.map_eq_some_iff.mp hx
    have ea := h1w j a ha
    obtain ⟨q0, q1⟩ := hin j
    obtain ⟨a0, a1⟩ := hw j
    rw [← ea] at a0 a1
    show Ends _ (sSet _ _ [some (ma I O l op rw), some (lasso hs ls), some (.tup (nums hs)), some (.tup (nums ls)), some (.ref h.length), some (.ref m), some (.int (est rw w j)), some (.int a), none] hh)
    obtain ⟨y, f1, f2⟩ := mix2 V (h := hh) q0 q1 a0 a1
    have fr := ma_rows (I := I) (O := O) (l := l) (op := op) (rw := rw) (h := hh)
    have f3 := @prv_0 hh (mst rw (est rw w j) a)
    refine' en_set ?e ?_
    case e => walk_at "ev"
    exact ⟨rfl, some (.int a), by rw [ea]; rfl⟩
  rintro env hh ⟨rfl, o7, rfl⟩
  rw [List.length_map]
  -- rounds of the loop
  refine en_seq ?_
  refine en_whileN (m := rw.length) (fun d env h' => ∃ (k : Nat) (o7 o8 : Option MV), env = [some (ma I O l op rw), some (lasso hs ls), some (.tup (nums hs)), some (.tup (nums ls)), some (.ref h.length), some (.ref m), some (.int (est rw w (hs.length + ls.length * k))), o7, o8] ∧
      h'[h.length]? = some (.lst (nums (wtake (em rw w) 0 (hs.length + ls.length * k)))) ∧ h'[m]? = some (.dct (kvs (fun i => est rw w (hs.length + ls.length * i)) (fun i => ((hs.length + ls.length * i : Nat) : Int)) k)) ∧ (∀ (n : Nat) c, h[n]? = some c → h'[n]? = some c) ∧
      (∀ i j, i < j → j < k → est rw w (hs.length + ls.length * i) ≠ est rw w (hs.length + ls.length * j)) ∧ k ≤ rw.length ∧ d = rw.length - k) ?_ ?_ ?_
  · exact ⟨0, _, _, rfl, cf, cd, old2, fun i j _ h => absurd h (Nat.not_lt_zero _), Nat.zero_le _, rfl⟩
  · show _ < 2 ^ 62
    omega
  rintro d env h' ⟨k, o7, o8, rfl, kf, kd, kold, kdis, kle, rfl⟩
  have hkL : ls.length * k ≤ 100 * 100 := Nat.mul_le_mul (by omega) (by omega)
  have din : fDIn true (.int (est rw w (hs.length + ls.length * k))) (.ref m) h' = .ok (.bl (!(dgetM (kvs (fun i => est rw w (hs.length + ls.length * i)) (fun i => ((hs.length + ls.length * i : Nat) : Int)) k) (.inl (est rw w (hs.length + ls.length * k)))).isSome)) h' := by
    unfold fDIn
    simp only
    rw [kd]
    rfl
  rcases dget_kvs (a := fun i => est rw w (hs.length + ls.length * i)) (b := fun i => ((hs.length + ls.length * i : Nat) : Int)) (k := k) (s := est rw w (hs.length + ls.length * k)) with ⟨i1, i2⟩ | ⟨i, i1, i2, i3⟩
  · have din : fDIn true (.int (est rw w (hs.length + ls.length * k))) (.ref m) h' = .ok (.bl true) h' := by rw [din, i1]; rfl
    refine ⟨true, h', ?_, (fun z => nomatch z), fun _ => ?_⟩
    · exact ev_T (v := true) (by walk_at "ev")
    have hkN : k < rw.length := by
      rcases Nat.lt_or_ge k rw.length with c | c
      · exact c
      · exfalso
        obtain ⟨x, y, xy, yN, e⟩ := php rw.length (fun i => (est rw w (hs.length + ls.length * i)).toNat) (fun i _ => by have := hin (hs.length + ls.length * i); omega)
        have e' : est rw w (hs.length + ls.length * x) = est rw w (hs.length + ls.length * y) := by
          have a := hin (hs.length + ls.length * x)
          have b := hin (hs.length + ls.length * y)
          have : (est rw w (hs.length + ls.length * x)).toNat = (est rw w (hs.length + ls.length * y)).toNat := e
          omega
        rcases Nat.lt_or_ge y k with c2 | c2
        · exact kdis x y xy c2 e'
        · have : y = k := by omega
          subst this
          exact i2 x (by omega) e'
    have nfl : fLen [.ref h.length] h' = .ok (.int ((hs.length + ls.length * k : Nat) : Int)) h' := by rw [f_lenR kf]; simp [wtake_len]
    -- begins[state] = len(found)
    refine en_seq (.of ?_)
    have put : sDPutM (mV 5) (mV 6) (mF fLen (maC (mV 4) maN)) [some (ma I O l op rw), some (lasso hs ls), some (.tup (nums hs)), some (.tup (nums ls)), some (.ref h.length), some (.ref m), some (.int (est rw w (hs.length + ls.length * k))), o7, o8] h' = .ok .nx [some (ma I O l op rw), some (lasso hs ls), some (.tup (nums hs)), some (.tup (nums ls)), some (.ref h.length), some (.ref m), some (.int (est rw w (hs.length + ls.length * k))), o7, o8] (h'.set m (.dct (kvs (fun i => est rw w (hs.length + ls.length * i)) (fun i => ((hs.length + ls.length * i : Nat) : Int)) (k + 1)))) := by
      have e0 : mF fLen (maC (mV 4) maN) [some (ma I O l op rw), some (lasso hs ls), some (.tup (nums hs)), some (.tup (nums ls)), some (.ref h.length), some (.ref m), some (.int (est rw w (hs.length + ls.length * k))), o7, o8] h' = .ok (.int ((hs.length + ls.length * k : Nat) : Int)) h' := by walk_at "ev"
      unfold sDPutM
      rw [e0]
      show (match h'[m]?, keyV (.int (est rw w (hs.length + ls.length * k))) with | some (.dct kvs), some k => _ | _, _ => _) = _
      rw [kd]
      show (if _ < sizeLine then OutS.ok .nx _ (h'.set m (.dct (dputM _ (.int ((fun i => est rw w (hs.length + ls.length * i)) k)) (.int ((fun i => ((hs.length + ls.length * i : Nat) : Int)) k)) (.inl ((fun i => est rw w (hs.length + ls.length * i)) k))))) else _) = _
      rw [if_pos (sz_lt (by unfold kvs; simp; omega)), dput_kvs i2]
    rw [put]
    have kf3 : (h'.set m (.dct (kvs (fun i => est rw w (hs.length + ls.length * i)) (fun i => ((hs.length + ls.length * i : Nat) : Int)) (k + 1))))[h.length]? = some (.lst (nums (wtake (em rw w) 0 (hs.length + ls.length * k)))) := set_other (Ne.symm ne) kf
    have kd3 : (h'.set m (.dct (kvs (fun i => est rw w (hs.length + ls.length * i)) (fun i => ((hs.length + ls.length * i : Nat) : Int)) (k + 1))))[m]? = some (.dct (kvs (fun i => est rw w (hs.length + ls.length * i)) (fun i => ((hs.length + ls.length * i : Nat) : Int)) (k + 1))) := set_same kd
    have kold3 : ∀ (n : Nat) c, h[n]? = some c → (h'.set m (.dct (kvs (fun i => est rw w (hs.length + ls.length * i)) (fun i => ((hs.length + ls.length * i : Nat) : Int)) (k + 1))))[n]? = some c := fun n c e => set_other (by have := lt_of_get e; omega) (kold n c e)
    generalize h'.set m (.dct (kvs (fun i => est rw w (hs.length + ls.length * i)) (fun i => ((hs.length + ls.length * i : Nat) : Int)) (k + 1))) = g3 at *
    -- the loop's letters
    refine' en_for (xs := nums ls) (h1 := g3) ?e ?_
    case e => walk_at "ev"
    refine en_forL (fun j env hh => (∃ o7 o8, env = [some (ma I O l op rw), some (lasso hs ls), some (.tup (nums hs)), some (.tup (nums ls)), some (.ref h.length), some (.ref m), some (.int (est rw w (hs.length + ls.length * k + j))), o7, o8]) ∧ hh[h.length]? = some (.lst (nums (wtake (em rw w) 0 (hs.length + ls.length * k + j)))) ∧ hh[m]? = some (.dct (kvs (fun i => est rw w (hs.length + ls.length * i)) (fun i => ((hs.length + ls.length * i : Nat) : Int)) (k + 1))) ∧ ∀ (n : Nat) c, h[n]? = some c → hh[n]? = some c) ⟨⟨_, _, rfl⟩, kf3, kd3, kold3⟩ ?_ ?_
    · rintro j v env hh hx ⟨⟨o7, o8, rfl⟩, jf, jd, jold⟩
      rw [List.getElem?_map] at hx
      obtain ⟨a, ha, rfl⟩ := Option.map_eq_some_iff.mp hx
      have hj := (List.getElem?_eq_some_iff.mp ha).1
      have ea := h2w k j a ha
      obtain ⟨a0, a1⟩ := hw (hs.length + ls.length * k + j)
      rw [← ea] at a0 a1
      obtain ⟨q0, q1⟩ := hin (hs.length + ls.length * k + j)
      have hem : em rw w (hs.length + ls.length * k + j) = (mst rw (est rw w (hs.length + ls.length * k + j)) a).2 := by rw [ea]; rfl
      have hes : est rw w (hs.length + ls.length * k + (j + 1)) = (mst rw (est rw w (hs.length + ls.length * k + j)) a).1 := by rw [ea]; rfl
      rw [hes, show hs.length + ls.length * k + (j + 1) = hs.length + ls.length * k + j + 1 by omega, wt_succ, nums_snoc, hem]
      have hTb : hs.length + ls.length * k + j < 16777216 := by omega
      generalize hs.length + ls.length * k + j = T at *
      show Ends _ (sSeq _ _ [some (ma I O l op rw), some (lasso hs ls), some (.tup (nums hs)), some (.tup (nums ls)), some (.ref h.length), some (.ref m), some (.int (est rw w T)), some (.int a), o8] hh)
      obtain ⟨y, f1, f2⟩ := mix2 V (h := hh) q0 q1 a0 a1
      have fr := ma_rows (I := I) (O := O) (l := l) (op := op) (rw := rw) (h := hh)
      refine en_seq ?_
      refine' en_asg (d := prv (mst rw (est rw w T) a)) (h1 := hh) ?e ?g ?_
      case e => walk_at "ev"
      case g => rfl
      show Ends _ (sExpr _ [some (ma I O l op rw), some (lasso hs ls), some (.tup (nums hs)), some (.tup (nums ls)), some (.ref h.length), some (.ref m), some (.int (mst rw (est rw w T) a).1), some (.int a), some (.int (mst rw (est rw w T) a).2)] hh)
      have hT : (nums (wtake (em rw w) 0 T)).length < 16777216 := by
        rw [List.length_map, wtake_len]
        exact hTb
      have ap := f_app (y := .int (mst rw (est rw w T) a).2) jf (sz_lt hT)
      refine' en_expr ?e ?_
      case e => walk_at "ev"
      exact ⟨⟨_, _, rfl⟩, set_same jf, set_other ne jd, fun n c e => set_other (by have := lt_of_get e; omega) (jold n c e)⟩
    · rintro env hh ⟨⟨o7, o8, rfl⟩, jf, jd, jold⟩
      rw [List.length_map] at jf ⊢
      have e : hs.length + ls.length * k + ls.length = hs.length + ls.length * (k + 1) := by rw [Nat.mul_succ]; omega
      rw [e] at jf ⊢
      refine ⟨rw.length - (k + 1), by omega, k + 1, o7, o8, rfl, jf, jd, jold, fun i j ij jk => ?_, hkN, rfl⟩
      rcases Nat.lt_succ_iff_lt_or_eq.mp jk with jk | rfl
      · exact kdis i j ij jk
      · exact i2 i ij
  · have din : fDIn true (.int (est rw w (hs.length + ls.length * k))) (.ref m) h' = .ok (.bl false) h' := by rw [din, i3]; rfl
    refine ⟨false, h', ?_, fun _ => ?_, (fun z => nomatch z)⟩
    · exact ev_T (v := false) (by walk_at "ev")
    have dg : fDGet (.ref m) (.int (est rw w (hs.length + ls.length * k))) h' = .ok (.int ((hs.length + ls.length * i : Nat) : Int)) h' := by
      unfold fDGet
      simp only
      rw [kd]
      simp only [keyV]
      rw [i3]
    have hkd : hs.length + ls.length * k = (hs.length + ls.length * i) + ls.length * (k - i) := by
      obtain ⟨d, rfl⟩ : ∃ d, k = i + d := ⟨k - i, by omega⟩
      rw [Nat.mul_add, Nat.add_sub_cancel_left]
      omega
    have hp : 1 ≤ ls.length * (k - i) := Nat.mul_pos hl2 (by omega)
    have s1 : fSl false (.ref h.length) none (some ((hs.length + ls.length * i : Nat) : Int)) h' = .ok (.fl (nums (wtake (em rw w) 0 (hs.length + ls.length * i)))) h' := by
      rw [f_slR kf, cut_hi (by omega), Int.toNat_natCast, hkd]
      have : (wtake (em rw w) 0 (hs.length + ls.length * i + ls.length * (k - i))).take (hs.length + ls.length * i) = wtake (em rw w) 0 (hs.length + ls.length * i) := eq_wtake (by rw [List.length_take, wtake_len]; omega) fun j hj => by
        have := wtake_get (w := em rw w) (a := 0) (n := hs.length + ls.length * i + ls.length * (k - i)) (i := j) (by omega)
        rw [← this]
        simp only [List.getD, List.getElem?_take, if_pos hj]
      rw [this]; rfl
    have s2 : fSl false (.ref h.length) (some ((hs.length + ls.length * i : Nat) : Int)) none h' = .ok (.fl (nums (wtake (em rw w) (hs.length + ls.length * i) (ls.length * (k - i))))) h' := by
      rw [f_slR kf, cut_lo (by omega), Int.toNat_natCast, hkd]
      have : (wtake (em rw w) 0 (hs.length + ls.length * i + ls.length * (k - i))).drop (hs.length + ls.length * i) = wtake (em rw w) (hs.length + ls.length * i) (ls.length * (k - i)) := eq_wtake (by rw [List.length_drop, wtake_len]; omega) fun j hj => by
        have := wtake_get (w := em rw w) (a := 0) (n := hs.length + ls.length * i + ls.length * (k - i)) (i := hs.length + ls.length * i + j) (by omega)
        rw [Nat.zero_add] at this
        rw [← this]
        simp only [List.getD, List.getElem?_drop]
      rw [this]; rfl
    have P : PerW w (hs.length + ls.length * i) (ls.length * (k - i)) := fun t ht => hper.mul (k - i) t (by omega)
    have E : est rw w (hs.length + ls.length * i + ls.length * (k - i)) = est rw w (hs.length + ls.length * i) := by rw [← hkd]; exact i2.symm
    refine' en_ret ?e ?_
    case e => walk_at "ev"
    have hkN : ls.length * k ≤ ls.length * rw.length := Nat.mul_le_mul_left _ kle
    exact ⟨_, _, rfl, hs.length + ls.length * i, ls.length * (k - i), rfl, hp, em_per P E, by omega, kold⟩
end Mn
/-! ## MnMC -/
set_option Elab.async false
set_option linter.all false
set_option maxRecDepth 100000
namespace Mn
open PySem PySem.Spec PyProof.Rows L2
local macro_rules | `(tactic| walk_at "hp") => `(tactic| first
  | assumption
  | exact set_same (by assumption)
  | exact app_same
  | exact app_old (by assumption))
local macro_rules | `(tactic| walk_at "op") => `(tactic| with_reducible first
  | assumption
  | exact f_add | exact f_ii0 | exact f_ui | exact f_int | exact f_intB | exact f_max | exact f_min | exact f_ip
  | exact f_eqI | exact f_neI
  | exact f_lenT | exact f_lenF | exact f_lenS | exact f_tupT | exact f_tupF | exact f_tupS
  | exact f_lenR (by walk_at "hp") | exact f_tupR (by walk_at "hp")
  | (refine' f_mod ?_; omega)
  | (refine' f_div ?_ ?_ <;> omega)
  | exact f_pow (by decide)
  | exact f_isN1 | exact f_notN1
  | exact f_isN0 (by with_unfolding_all (intro q; cases q))
  | exact f_notN0 (by with_unfolding_all (intro q; cases q))
  | exact f_addT (by walk_at "sz")
  | exact f_slT | exact f_slF | exact f_slR (by walk_at "hp")
  | exact f_rev (by walk_at "hp"))
local macro_rules | `(tactic| walk_at "sz") => `(tactic| (refine sz_small ?_; simp only [List.length_cons, List.length_nil, List.length_append, List.length_map]; omega))
local macro_rules | `(tactic| walk_at "ev") => `(tactic| with_reducible first
  | assumption
  | exact ev_C
  | exact ev_V (by with_unfolding_all rfl)
  | exact ev_N
  | exact ev_oN
  | (refine' ev_2 ?a ?b ?c; (case a => walk_at "ev"); (case b => walk_at "ev"); (case c => walk_at "op"))
  | (refine' ev_1 ?a ?b; (case a => walk_at "ev"); (case b => walk_at "op"))
  | (refine' ev_F ?a ?b; (case a => walk_at "ev"); (case b => walk_at "op"))
  | (refine' ev_Cs ?a ?b; (case a => walk_at "ev"); (case b => walk_at "ev"))
  | (refine' ev_call ?a ?n ?b; (case a => walk_at "ev"); (case n => with_unfolding_all rfl); (case b => walk_at "op"))
  | (refine' ev_T ?a; (case a => walk_at "ev"))
  | (refine' ev_tnot ?a; (case a => walk_at "ev"))
  | (refine' ev_tup ?a ?b; (case a => walk_at "ev"); (case b => walk_at "sz"))
  | (refine' ev_lstF ?a ?b; (case a => walk_at "ev"); (case b => walk_at "sz"))
  | (refine' ev_lstT ?a ?b; (case a => walk_at "ev"); (case b => walk_at "sz"))
  | (refine' ev_oS ?a; (case a => walk_at "ev"))
  | (refine' ev_sl ?a ?b ?c ?d; (case a => walk_at "ev"); (case b => walk_at "ev"); (case c => walk_at "ev"); (case d => walk_at "op"))
  | (refine' ev_not ?a; (case a => walk_at "ev"))
  | (refine' ev_m0 ?a ?b ?c; (case a => walk_at "ev"); (case b => exact tyc_R (by walk_at "hp")); (case c => walk_at "op"))
  | (refine' ev_m ?a ?b ?c ?d; (case a => walk_at "ev"); (case b => exact tyc_R (by walk_at "hp")); (case c => walk_at "ev"); (case d => walk_at "op"))
  | (refine' it_range1 ?a ?b; (case a => walk_at "ev"); (case b => omega))
  | (refine' it_range2 ?a ?b; (case a => walk_at "ev"); (case b => omega))
  | (refine' it_T ?a; (case a => walk_at "ev"))
  | (refine' it_F ?a; (case a => walk_at "ev")))
local macro_rules | `(tactic| walk_at "nf") => `(tactic| (simp (config := { failIfUnchanged := false }) only [List.set_cons_succ, List.set_cons_zero, List.map_cons, List.map_nil, List.length_cons, List.length_nil, List.cons_append, List.nil_append, List.replicate]))
local macro_rules | `(tactic| walk_at "set") => `(tactic| (refine en_seq ?_; refine' en_set ?e ?_; (case e => walk_at "ev"); walk_at "nf"))
local macro_rules | `(tactic| walk_at "expr") => `(tactic| (refine en_seq ?_; refine' en_expr ?e ?_; (case e => walk_at "ev"); walk_at "nf"))

/-- what is said in turn t -/
def rsp (l : Int) (op : List Int) (e : Nat → Int) (t : Nat) : Int := if (t : Int) + l < 0 then op.getD t 0 else e ((t : Int) + l).toNat
theorem wtake_app {e : Nat → Int} {b p : Nat} : wtake e 0 b ++ wtake e b p = wtake e 0 (b + p) := eq_wtake (by rw [List.length_append, wtake_len, wtake_len]) fun i hi => by
  rw [Nat.zero_add]
  simp only [List.getD]
  by_cases c : i < b
  · rw [List.getElem?_append_left (by rw [wtake_len]; exact c)]
    have := wtake_get (w := e) (a := 0) (n := b) (i := i) c
    rw [Nat.zero_add] at this
    exact this
  · rw [List.getElem?_append_right (by rw [wtake_len]; omega), wtake_len]
    have := wtake_get (w := e) (a := b) (n := p) (i := i - b) (by omega)
    rw [show b + (i - b) = i by omega] at this
    exact this
theorem wtake_shift {e : Nat → Int} {b p : Nat} (P : PerW e b p) : wtake e b p = wtake e (b + p) p := eq_wtake wtake_len fun i hi => by
  rw [wtake_get hi, show b + p + i = b + i + p by omega, P _ (by omega)]
theorem getD_app {a b : List Int} {t : Nat} : (a ++ b).getD t 0 = if t < a.length then a.getD t 0 else b.getD (t - a.length) 0 := by
  simp only [List.getD]
  split
  · rename_i c; rw [List.getElem?_append_left c]
  · rw [List.getElem?_append_right (by omega)]
theorem out_get {l : Int} {op : List Int} {e : Nat → Int} {n t : Nat} (hop : (op.length : Int) = if -l > 0 then -l else 0) (ht : t < op.length + (n - l.toNat)) : (op ++ (wtake e 0 n).drop l.toNat).getD t 0 = rsp l op e t := by
  rw [getD_app]
  unfold rsp
  by_cases c : t < op.length
  · rw [if_pos c, if_pos (by split at hop <;> omega)]
  · rw [if_neg c, if_neg (by split at hop <;> omega)]
    have h1 : l.toNat + (t - op.length) < n := by omega
    have := wtake_get (w := e) (a := 0) (n := n) (i := l.toNat + (t - op.length)) h1
    simp only [List.getD, List.getElem?_drop] at this ⊢
    rw [this]
    congr 1
    split at hop <;> omega
theorem rsp_word {l : Int} {op : List Int} {e : Nat → Int} {b p : Nat} (hop : (op.length : Int) = if -l > 0 then -l else 0) (P : PerW e b p) (hp : 1 ≤ p) (hb : l ≤ b) (t : Nat) : lw (op ++ (wtake e 0 b).drop l.toNat) (wtake e b p) t = rsp l op e t := by
  have hlen : (op ++ (wtake e 0 b).drop l.toNat).length = op.length + (b - l.toNat) := by rw [List.length_append, List.length_drop, wtake_len]
  by_cases c : t < op.length + (b - l.toNat)
  · rw [lw_lt (by rw [hlen]; exact c)]
    exact out_get hop c
  · rw [lw_ge (by rw [hlen]; omega), hlen, wtake_len, wtake_get (Nat.mod_lt _ hp)]
    unfold rsp
    rw [if_neg (by split at hop <;> omega)]
    have := P.mul ((t - (op.length + (b - l.toNat))) / p) (b + (t - (op.length + (b - l.toNat))) % p) (by omega)
    rw [Nat.add_assoc, Nat.mod_add_div] at this
    rw [← this]
    congr 1
    split at hop <;> omega
def respM : MF := runF 4 (sSeq (sExpr (mCall 2 checkM (maC (mV 1) (maC (m1 (fFld tabMa "inputs") (mV 0)) (maN))))) (sSeq (sAsg (mCall 2 elasM (maC (mV 0) (maC (mV 1) (maN)))) (gTup [gNm 2, gNm 3])) (sSeq (sWhile (mT (m2 fLt (mF fLen (maC (mV 2) (maN))) (m1 (fFld tabMa "lead") (mV 0)))) (sSet 2 (m2 (fAdd false) (mV 2) (mV 3))) big) (sRet (mCall 2 shortM (maC (m2 (fAdd false) (m1 (fFld tabMa "opening") (mV 0)) (mSl (fSl false) (mV 2) (moS (mF fMax2 (maC (mC (.int 0)) (maC (m1 (fFld tabMa "lead") (mV 0)) (maN))))) (moN))) (maC (mV 3) (maN))))))))
theorem respM_ok {I O l : Int} {op : List Int} {rw : List (List (Int × Int))} {hs ls : List Int} {h : MH} (V : VM I O l op rw) (hl : ls ≠ []) (hz : hs.length ≤ 100 ∧ ls.length ≤ 100) (hN : rw.length ≤ 100) (hr : ∀ x ∈ hs ++ ls, 0 ≤ x ∧ x < I) :
    ∃ v h', respM [ma I O l op rw, lasso hs ls] h = .ok v h' ∧ Short (rsp l op (em rw (lw hs ls))) v (hs.length + ls.length * rw.length + 10) (hs.length + ls.length * rw.length) ∧ ∀ (n : Nat) c, h[n]? = some c → h'[n]? = some c := by
  suffices g : Does (fun v h' => Short (rsp l op (em rw (lw hs ls))) v (hs.length + ls.length * rw.length + 10) (hs.length + ls.length * rw.length) ∧ ∀ (n : Nat) c, h[n]? = some c → h'[n]? = some c) (respM [ma I O l op rw, lasso hs ls] h) by
    obtain ⟨v, h', e, q⟩ := g
    exact ⟨v, h', e, q⟩
  have v3 := V.l0
  have v4 := V.l1
  have v6 := V.opl
  unfold respM
  refine runF_does ?_
  walk_at "nf"
  have fI := ma_inputs (I := I) (O := O) (l := l) (op := op) (rw := rw) (h := h)
  have ck := checkM_ok (h := h) (a := hs) (b := ls) (K := I) (by omega) (fun x hx => (hr x hx).2)
  refine en_seq ?_
  refine' en_expr ?e ?_
  case e => walk_at "ev"
  obtain ⟨b, p, h1, e1, hp, P, bp, old⟩ := elasM_ok (h := h) V hl hz hN hr
  have hB : ls.length * rw.length ≤ 100 * 100 := Nat.mul_le_mul (by omega) (by omega)
  generalize ls.length * rw.length = B at *
  generalize em rw (lw hs ls) = e at *
  refine en_seq ?_
  refine' en_asg (d := lasso (wtake e 0 b) (wtake e b p)) (h1 := h1) ?e ?g ?_
  case e => walk_at "ev"
  case g => rfl
  show Ends _ (sSeq _ _ [some (ma I O l op rw), some (lasso hs ls), some (.tup (nums (wtake e 0 b))), some (.tup (nums (wtake e b p)))] h1)
  have fl := ma_lead (I := I) (O := O) (l := l) (op := op) (rw := rw) (h := h1)
  have fo := ma_opening (I := I) (O := O) (l := l) (op := op) (rw := rw) (h := h1)
  refine en_seq ?_
  refine en_whileN (m := 2 - b) (fun d env h' => h' = h1 ∧ ∃ b', env = [some (ma I O l op rw), some (lasso hs ls), some (.tup (nums (wtake e 0 b'))), some (.tup (nums (wtake e b' p)))] ∧ PerW e b' p ∧ b' ≤ b + 2 * p ∧ b ≤ b' ∧ (b' ≤ b ∨ b' < 2 + p) ∧ d = 2 - b') ?_ ?_ ?_
  · exact ⟨rfl, b, rfl, P, by omega, by omega, .inl (by omega), rfl⟩
  · show _ < 2 ^ 62
    omega
  rintro d env h' ⟨rfl, b', rfl, P', bb, bb2, bb3, rfl⟩
  have nh := SeqV.len (h := h') (SeqV.T (ns := wtake e 0 b'))
  rw [wtake_len] at nh
  refine ⟨decide ((b' : Int) < l), h', ?_, fun z => ?_, fun z => ?_⟩
  · exact ev_T (by walk_at "ev")
  · have hb : l ≤ (b' : Int) := by
      have : ¬ (b' : Int) < l := by simpa using z
      omega
    have mx : (if l > 0 then l else 0) = ((l.toNat : Nat) : Int) := by split <;> omega
    have s1 : fSl false (.tup (nums (wtake e 0 b'))) (some (if l > 0 then l else 0)) none h' = .ok (.tup (nums ((wtake e 0 b').drop l.toNat))) h' := by rw [mx, f_slT, cut_lo (by omega), Int.toNat_natCast]
    have ad : fAdd false (.tup (nums op)) (.tup (nums ((wtake e 0 b').drop l.toNat))) h' = .ok (.tup (nums (op ++ (wtake e 0 b').drop l.toNat))) h' := by
      rw [f_addT (sz_small (by simp only [List.length_map, List.length_drop, wtake_len]; split at v6 <;> omega))]; simp
    obtain ⟨v, S, e2⟩ := shortM_ok (h := h') (SeqV.T (ns := op ++ (wtake e 0 b').drop l.toNat)) (SeqV.T (ns := wtake e b' p)) (ne_of_len (by rw [wtake_len]; exact hp)) (by rw [List.length_append, List.length_drop, wtake_len]; split at v6 <;> omega) (by rw [wtake_len]; omega)
    refine' en_ret ?e ?_
    case e => walk_at "ev"
    refine ⟨_, _, rfl, S.congr (rsp_word v6 P' hp hb) (by rw [List.length_append, List.length_drop, wtake_len]; split at v6 <;> omega) (by rw [wtake_len]; omega), old⟩
  · have hb : (b' : Int) < l := by simpa using z
    have ad : fAdd false (.tup (nums (wtake e 0 b'))) (.tup (nums (wtake e b' p))) h' = .ok (.tup (nums (wtake e 0 (b' + p)))) h' := by
      rw [f_addT (sz_small (by simp only [List.length_map, wtake_len]; omega)), ← wtake_app]; simp
    refine' en_set ?e ?_
    case e => walk_at "ev"
    refine ⟨2 - (b' + p), by omega, rfl, b' + p, ?_, P'.mono (by omega), by omega, by omega, .inr (by omega), rfl⟩
    rw [← wtake_shift P']
    rfl
def mcallM : MF := runF 3 (sSeq (sIf (tNotM (mT (mCall 2 belowM (maC (mV 1) (maC (m1 (fFld tabMa "inputs") (mV 0)) (maN)))))) (sRaise "InvalidLetter") (sNil)) (sSeq (sSet 2 (mCall 2 emisM (maC (mV 0) (maC (mV 1) (maN))))) (sSeq (sIf (mT (m2 fGt (m1 (fFld tabMa "lead") (mV 0)) (mC (.int 0)))) (sRet (mSl (fSl false) (mV 2) (moS (m1 (fFld tabMa "lead") (mV 0))) (moN))) (sNil)) (sRet (m2 (fAdd false) (mF (fList false) (maC (m1 (fFld tabMa "opening") (mV 0)) (maN))) (mV 2))))))
theorem mcallM_ok {I O l : Int} {op : List Int} {rw : List (List (Int × Int))} {x : MV} {ls : List Int} {w : Nat → Int} {h : MH} (V : VM I O l op rw) (sx : SeqV x ls) (hz : ls.length ≤ 1000) (hw : ∀ t a, ls[t]? = some a → a = w t ∧ 0 ≤ a ∧ a < I) :
    ∃ h', mcallM [ma I O l op rw, x] h = .ok (.fl (nums (op ++ (wtake (em rw w) 0 ls.length).drop l.toNat))) h' ∧ ∀ (n : Nat) c, h[n]? = some c → h'[n]? = some c := by
  suffices g : Does (fun v h' => v = .fl (nums (op ++ (wtake (em rw w) 0 ls.length).drop l.toNat)) ∧ ∀ (n : Nat) c, h[n]? = some c → h'[n]? = some c) (mcallM [ma I O l op rw, x] h) by
    obtain ⟨v, h', e, rfl, q⟩ := g
    exact ⟨h', e, q⟩
  have v6 := V.opl
  have v3 := V.l0
  unfold mcallM
  refine runF_does ?_
  walk_at "nf"
  have fI := ma_inputs (I := I) (O := O) (l := l) (op := op) (rw := rw) (h := h)
  have bo := belowM_ok (h := h) (K := I) sx (fun x hx => by
    obtain ⟨k, e⟩ := List.getElem?_of_mem hx
    exact (hw k x e).2)
  refine en_seq ?_
  refine' en_if (v := false) ?e (fun c => by cases c) ?_
  case e => exact ev_tnot (v := true) (by walk_at "ev")
  intro _
  refine en_nil ?_
  obtain ⟨h1, e1, c1, len1, old1⟩ := emisM_ok (h := h) V sx hz hw
  walk_at "set"
  have fl := ma_lead (I := I) (O := O) (l := l) (op := op) (rw := rw) (h := h1)
  have fo := ma_opening (I := I) (O := O) (l := l) (op := op) (rw := rw) (h := h1)
  refine en_seq ?_
  refine' en_if (v := decide (l > 0)) ?e ?_ ?_
  case e => exact ev_T (by walk_at "ev")
  · intro z
    have z : 0 < l := by simpa using z
    have s1 : fSl false (.ref h.length) (some l) none h1 = .ok (.fl (nums ((wtake (em rw w) 0 ls.length).drop l.toNat))) h1 := by rw [f_slR c1, cut_lo (by omega)]; rfl
    have ho : op = [] := by
      apply List.length_eq_zero_iff.mp
      rw [if_neg (by omega)] at v6
      omega
    refine' en_ret ?e ?_
    case e => walk_at "ev"
    refine ⟨_, _, rfl, ?_, old1⟩
    rw [ho]
    rfl
  · intro z
    have z : ¬ 0 < l := by simpa using z
    refine en_nil ?_
    have lo := (SeqV.T (ns := op)).sq.list (h := h1)
    have ad : fAdd false (.fl (nums op)) (.ref h.length) h1 = .ok (.fl (nums (op ++ (wtake (em rw w) 0 ls.length).drop l.toNat))) h1 := by
      unfold fAdd
      simp only [wlst]
      rw [c1]
      simp only
      have : l.toNat = 0 := by omega
      rw [this, List.drop_zero, if_pos (sz_small (by simp only [List.length_map, wtake_len]; split at v6 <;> omega)), ← List.map_append]
      rfl
    refine' en_ret ?e ?_
    case e => walk_at "ev"
    exact ⟨_, _, rfl, rfl, old1⟩
end Mn
/-! ## MnMD -/
set_option Elab.async false
set_option linter.all false
set_option maxRecDepth 100000
namespace Mn
open PySem PySem.Spec PyProof.Rows L2
local macro_rules | `(tactic| walk_at "hp") => `(tactic| first
  | assumption
  | exact set_same (by assumption)
  | exact app_same
  | exact app_old (by assumption))
local macro_rules | `(tactic| walk_at "op") => `(tactic| with_reducible first
  | assumption
  | exact f_add | exact f_ii0 | exact f_ui | exact f_int | exact f_intB | exact f_max | exact f_min | exact f_ip
  | exact f_eqI | exact f_neI
  | exact f_lenT | exact f_lenF | exact f_lenS | exact f_tupT | exact f_tupF | exact f_tupS
  | exact f_lenR (by walk_at "hp") | exact f_tupR (by walk_at "hp")
  | (refine' f_mod ?_; omega)
  | (refine' f_div ?_ ?_ <;> omega)
  | exact f_pow (by decide)
  | exact f_isN1 | exact f_notN1
  | exact f_isN0 (by with_unfolding_all (intro q; cases q))
  | exact f_notN0 (by with_unfolding_all (intro q; cases q))
  | exact f_addT (by walk_at "sz")
  | exact f_slT | exact f_slF | exact f_slR (by walk_at "hp")
  | exact f_rev (by walk_at "hp"))
local macro_rules | `(tactic| walk_at "sz") => `(tactic| (refine sz_small ?_; simp only [List.length_cons, List.length_nil, List.length_append, List.length_map]; omega))
local macro_rules | `(tactic| walk_at "ev") => `(tactic| with_reducible first
  | assumption
  | exact ev_C
  | exact ev_V (by with_unfolding_all rfl)
  | exact ev_N
  | exact ev_oN
  | (refine' ev_2 ?a ?b ?c; (case a => walk_at "ev"); (case b => walk_at "ev"); (case c => walk_at "op"))
  | (refine' ev_1 ?a ?b; (case a => walk_at "ev"); (case b => walk_at "op"))
  | (refine' ev_F ?a ?b; (case a => walk_at "ev"); (case b => walk_at "op"))
  | (refine' ev_Cs ?a ?b; (case a => walk_at "ev"); (case b => walk_at "ev"))
  | (refine' ev_call ?a ?n ?b; (case a => walk_at "ev"); (case n => with_unfolding_all rfl); (case b => walk_at "op"))
  | (refine' ev_T ?a; (case a => walk_at "ev"))
  | (refine' ev_tnot ?a; (case a => walk_at "ev"))
  | (refine' ev_tup ?a ?b; (case a => walk_at "ev"); (case b => walk_at "sz"))
  | (refine' ev_lstF ?a ?b; (case a => walk_at "ev"); (case b => walk_at "sz"))
  | (refine' ev_lstT ?a ?b; (case a => walk_at "ev"); (case b => walk_at "sz"))
  | (refine' ev_oS ?a; (case a => walk_at "ev"))
  | (refine' ev_sl ?a ?b ?c ?d; (case a => walk_at "ev"); (case b => walk_at "ev"); (case c => walk_at "ev"); (case d => walk_at "op"))
  | (refine' ev_not ?a; (case a => walk_at "ev"))
  | (refine' ev_m0 ?a ?b ?c; (case a => walk_at "ev"); (case b => exact tyc_R (by walk_at "hp")); (case c => walk_at "op"))
  | (refine' ev_m ?a ?b ?c ?d; (case a => walk_at "ev"); (case b => exact tyc_R (by walk_at "hp")); (case c => walk_at "ev"); (case d => walk_at "op"))
  | (refine' it_range1 ?a ?b; (case a => walk_at "ev"); (case b => omega))
  | (refine' it_range2 ?a ?b; (case a => walk_at "ev"); (case b => omega))
  | (refine' it_T ?a; (case a => walk_at "ev"))
  | (refine' it_F ?a; (case a => walk_at "ev")))
local macro_rules | `(tactic| walk_at "nf") => `(tactic| (simp (config := { failIfUnchanged := false }) only [List.set_cons_succ, List.set_cons_zero, List.map_cons, List.map_nil, List.length_cons, List.length_nil, List.cons_append, List.nil_append, List.replicate]))
local macro_rules | `(tactic| walk_at "set") => `(tactic| (refine en_seq ?_; refine' en_set ?e ?_; (case e => walk_at "ev"); walk_at "nf"))
local macro_rules | `(tactic| walk_at "expr") => `(tactic| (refine en_seq ?_; refine' en_expr ?e ?_; (case e => walk_at "ev"); walk_at "nf"))

/-- a list of lists of pairs, all of them cells -/
structure MRows (h : MH) (q : Nat) (rw : List (List (Int × Int))) (ps : List Nat) : Prop where
  at_ : h[q]? = some (.lst (ps.map MV.ref))
  len : ps.length = rw.length
  row : ∀ (i p : Nat) r, ps[i]? = some p → rw[i]? = some r → h[p]? = some (.lst (r.map prv))
theorem MRows.keep {h h' : MH} {q : Nat} {rw : List (List (Int × Int))} {ps : List Nat} (M : MRows h q rw ps) (k : ∀ (n : Nat) c, n = q ∨ n ∈ ps → h[n]? = some c → h'[n]? = some c) : MRows h' q rw ps := ⟨k _ _ (.inl rfl) M.at_, M.len, fun i p r e1 e2 => k _ _ (.inr (List.mem_of_getElem? e1)) (M.row i p r e1 e2)⟩
theorem mflat_ok {rw : List (List (Int × Int))} {h : MH} {q : Nat} {ps : List Nat} (M : MRows h q rw ps) (hz : rw.length ≤ 1000) : flatM [.ref q] h = .ok (mrvs false rw) h := by
  unfold flatM
  refine runF_ends (P := fun o => o = _) ?_
  walk_at "nf"
  have e : (ps.map MV.ref).map (fun v => match v with | .ref p => (match h[p]? with | some (.lst xs) => MV.fl xs | _ => v) | v => v) = rw.map (mrv false) := by
    apply List.ext_getElem?
    intro i
    rw [List.getElem?_map, List.getElem?_map, List.getElem?_map]
    by_cases c : i < rw.length
    · obtain ⟨p, hp⟩ : ∃ p, ps[i]? = some p := ⟨_, List.getElem?_eq_getElem (by rw [M.len]; exact c)⟩
      obtain ⟨r, hr⟩ : ∃ r, rw[i]? = some r := ⟨_, List.getElem?_eq_getElem c⟩
      rw [hp, hr]
      simp only [Option.map_some]
      rw [M.row i p r hp hr]
      rfl
    · rw [List.getElem?_eq_none (by rw [M.len]; omega), List.getElem?_eq_none (by omega)]; rfl
  refine' en_ret (d := mrvs false rw) (h1 := h) ?e ?_
  case e =>
    refine' ev_compRF (h1 := h) (n := q) (ys := rw.map (mrv false)) ?i1 ?i2
    case i1 => exact it_R (by walk_at "ev") M.at_
    case i2 =>
      have := compR_map (i := 1) (e := mF (fList false) (maC (mV 1) maN)) (env := [some (.ref q), none]) (fun v => match v with | .ref p => (match h[p]? with | some (.lst xs) => MV.fl xs | _ => v) | v => v) M.at_ (by rw [List.length_map, M.len]; omega) (fun v hv => by
        obtain ⟨p, hp, rfl⟩ := List.mem_map.mp hv
        obtain ⟨i, hi⟩ := List.getElem?_of_mem hp
        obtain ⟨r, hr⟩ : ∃ r, rw[i]? = some r := ⟨_, List.getElem?_eq_getElem (by rw [← M.len]; exact (List.getElem?_eq_some_iff.mp hi).1)⟩
        have e := M.row i p r hi hr
        refine ev_F (ev_Cs (ev_V rfl) ev_N) ?_
        simp only
        rw [e]
        exact f_listF (seq_R e))
      rw [e] at this
      exact this
  rfl
def mdrawM : MF := runF 13 (sSeq (sSet 5 (m2 (fAdd false) (mC (.int 1)) (mCall 2 takeM (maC (mV 0) (maC (mV 4) (maN)))))) (sSeq (sSet 6 (mComp false (iRange1 (maC (mF fMax2 (maC (mC (.int 0)) (maC (m1 fNeg (mV 3)) (maN)))) (maN))) (gNm 7) (tYesM) (mCall 2 takeM (maC (mV 0) (maC (mV 2) (maN)))) [7])) (sSeq (sSet 8 (mLst true (maN))) (sSeq (sFor (iRange1 (maC (mV 5) (maN))) (gNm 9) (sSeq (sSet 10 (mLst true (maN))) (sSeq (sFor (iRange1 (maC (mV 1) (maN))) (gNm 11) (sSeq (sSet 12 (mCall 2 takeM (maC (mV 0) (maC (mV 5) (maN))))) (sExpr (mM "list" fAppend (mV 10) (maC (mTup (maC (mV 12) (maC (mCall 2 takeM (maC (mV 0) (maC (mV 2) (maN)))) (maN)))) (maN)))))) (sExpr (mM "list" fAppend (mV 8) (maC (mV 10) (maN))))))) (sRet (mTup (maC (mV 6) (maC (mV 8) (maN)))))))))
theorem mdrawM_ok {d : Nat} {I O l M : Int} {h : MH} (D : Dr h d) (hI : 1 ≤ I ∧ I ≤ 100) (hO : 1 ≤ O) (hl : -3 ≤ l ∧ l ≤ 2) (hM : 1 ≤ M ∧ M ≤ 100) : ∃ op rw q ps h', mdrawM [.ref d, .int I, .int O, .int l, .int M] h = .ok (.tup [.fl (nums op), .ref q]) h' ∧ MRows h' q rw ps ∧ VM I O l op rw ∧ (rw.length : Int) ≤ M ∧ q ≠ d ∧ d ∉ ps ∧ Dr h' d := by
  suffices g : Does (fun v h' => ∃ op rw q ps, v = .tup [.fl (nums op), .ref q] ∧ MRows h' q rw ps ∧ VM I O l op rw ∧ (rw.length : Int) ≤ M ∧ q ≠ d ∧ d ∉ ps ∧ Dr h' d) (mdrawM [.ref d, .int I, .int O, .int l, .int M] h) by
    obtain ⟨v, h', e, op, rw, q, ps, rfl, r⟩ := g
    exact ⟨op, rw, q, ps, h', e, r⟩
  unfold mdrawM
  refine runF_does ?_
  walk_at "nf"
  obtain ⟨c, h1, t1, c0, c1, D1, _⟩ := takeM_ok D (k := M) (by omega)
  walk_at "set"
  have ngl : fNeg (.int l) h1 = .ok (.int (-l)) h1 := rfl
  obtain ⟨op, h3, cP, lP, bP, D3, _⟩ := comp_take (e := mCall 2 takeM (maC (mV 0) (maC (mV 2) (maN)))) (env := [some (.ref d), some (.int I), some (.int O), some (.int l), some (.int M), some (.int (1 + c)), none, none, none, none, none, none, none]) (i := 7) (xs := rangeM 0 (if -l > 0 then -l else 0).toNat) (kk := O) (acc := []) (fun v => 0 ≤ v ∧ v < O) (by
    intro x h hx Dx
    obtain ⟨v, h1, t1, v0, v1, D1, k1⟩ := takeM_ok Dx (k := O) (by omega)
    refine ⟨v, h1, ?_, ⟨v0, v1⟩, D1, k1⟩
    walk_at "nf"
    walk_at "ev") D1 (by rw [rangeM_len]; split <;> omega)
  rw [rangeM_len] at lP
  refine en_seq ?_
  refine' en_set ?e ?_
  case e =>
    refine' ev_compF ?q1 cP
    case q1 => refine' it_range1 ?i1 ?i2; (case i1 => walk_at "ev"); (case i2 => split <;> omega)
  walk_at "nf"
  walk_at "set"
  have p0 : (h3 ++ [Cell.lst []])[h3.length]? = some (.lst []) := app_same
  have D4 : Dr (h3 ++ [Cell.lst []]) d := D3.app
  have pd : h3.length ≠ d := by have := D3.lt; omega
  generalize h3 ++ [Cell.lst []] = h4 at *
  generalize h3.length = q at *
  refine en_seq ?_
  refine' en_for ?e ?_
  case e => refine' it_range1 ?i1 ?i2; (case i1 => walk_at "ev"); (case i2 => omega)
  refine en_forL (fun j env hh => (∃ o9 o10 o11 o12, env = [some (.ref d), some (.int I), some (.int O), some (.int l), some (.int M), some (.int (1 + c)), some (.fl (nums op)), none, some (.ref q), o9, o10, o11, o12]) ∧ Dr hh d ∧ ∃ (rw : List (List (Int × Int))) (ps : List Nat), MRows hh q rw ps ∧ rw.length = j ∧ d ∉ ps ∧ q ∉ ps ∧ ∀ r ∈ rw, (r.length : Int) = I ∧ ∀ x ∈ r, (0 ≤ x.1 ∧ x.1 < 1 + c) ∧ 0 ≤ x.2 ∧ x.2 < O) ?_ ?_ ?_
  · exact ⟨⟨_, _, _, _, rfl⟩, D4, [], [], ⟨p0, rfl, fun i p r e => nomatch e⟩, rfl, by simp, by simp, fun r hr => nomatch hr⟩
  · rintro j v env hh hx ⟨⟨o9, o10, o11, o12, rfl⟩, Dj, rw, ps, Mj, hlen, nd, nq, hr⟩
    obtain ⟨rfl, hj⟩ := rangeM_get hx
    show Ends _ (sSeq _ _ [some (.ref d), some (.int I), some (.int O), some (.int l), some (.int M), some (.int (1 + c)), some (.fl (nums op)), none, some (.ref q), some (.int (0 + j)), o10, o11, o12] hh)
    walk_at "set"
    have np : (hh ++ [Cell.lst []])[hh.length]? = some (.lst []) := app_same
    have D5 : Dr (hh ++ [Cell.lst []]) d := Dj.app
    have pnd : hh.length ≠ d := by have := Dj.lt; omega
    have pnq : hh.length ≠ q := by have := lt_of_get Mj.at_; omega
    have pnp : hh.length ∉ ps := fun hm => by
      obtain ⟨i, hi⟩ := List.getElem?_of_mem hm
      obtain ⟨r, hr⟩ : ∃ r, rw[i]? = some r := ⟨_, List.getElem?_eq_getElem (by rw [← Mj.len]; exact (List.getElem?_eq_some_iff.mp hi).1)⟩
      have := lt_of_get (Mj.row i _ r hi hr)
      omega
    have M5 : MRows (hh ++ [Cell.lst []]) q rw ps := Mj.keep fun n c _ e => app_old e
    generalize hh ++ [Cell.lst []] = h5 at *
    generalize hh.length = p at *
    refine en_seq ?_
    refine' en_for ?e ?_
    case e => refine' it_range1 ?i1 ?i2; (case i1 => walk_at "ev"); (case i2 => omega)
    refine en_forL (fun i env h' => (∃ o11 o12, env = [some (.ref d), some (.int I), some (.int O), some (.int l), some (.int M), some (.int (1 + c)), some (.fl (nums op)), none, some (.ref q), some (.int (0 + j)), some (.ref p), o11, o12]) ∧ Dr h' d ∧ MRows h' q rw ps ∧ ∃ r : List (Int × Int), h'[p]? = some (.lst (r.map prv)) ∧ r.length = i ∧ ∀ x ∈ r, (0 ≤ x.1 ∧ x.1 < 1 + c) ∧ 0 ≤ x.2 ∧ x.2 < O) ?_ ?_ ?_
    · exact ⟨⟨_, _, rfl⟩, D5, M5, [], np, rfl, fun x hx => nomatch hx⟩
    · rintro i v env h' hx ⟨⟨o11, o12, rfl⟩, Di, Mi, r, hp, hri, hrx⟩
      obtain ⟨rfl, hi⟩ := rangeM_get hx
      show Ends _ (sSeq _ _ [some (.ref d), some (.int I), some (.int O), some (.int l), some (.int M), some (.int (1 + c)), some (.fl (nums op)), none, some (.ref q), some (.int (0 + j)), some (.ref p), some (.int (0 + i)), o12] h')
      obtain ⟨s, h6, t6, s0, s1, D6, k6⟩ := takeM_ok Di (k := 1 + c) (by omega)
      walk_at "set"
      obtain ⟨u, h7, t7, u0, u1, D7, k7⟩ := takeM_ok D6 (k := O) (by omega)
      have k67 := k6.trans k7
      have hp6 := k6.old _ _ pnd hp
      have hp7 := k67.old _ _ pnd hp
      have M7 : MRows h7 q rw ps := Mi.keep fun n c hn e => k67.old n c (by rcases hn with rfl | hn; exact pd; exact fun z => nd (z ▸ hn)) e
      have ap := f_app (y := prv (s, u)) hp7 (sz_lt (by rw [List.length_map]; omega))
      refine' en_expr (h1 := h7.set p (.lst (r.map prv ++ [prv (s, u)]))) (d := .non) ?e ?_
      case e =>
        refine' ev_m (h1 := h6) (h2 := h7) (x := .ref p) (xs := [prv (s, u)]) ?e1 ?e2 (ev_Cs (h1 := h7) ?e3 ev_N) ap
        case e1 => walk_at "ev"
        case e2 => exact tyc_R hp6
        case e3 => exact ev_tup (ev_Cs (h1 := h6) (by walk_at "ev") (ev_Cs (h1 := h7) (by walk_at "ev") ev_N)) (sz_small (by simp))
      refine ⟨⟨_, _, rfl⟩, ?_, M7.keep fun n c hn e => set_other (by rcases hn with rfl | hn; exact pnq; exact fun z => pnp (z ▸ hn)) e, r ++ [(s, u)], ?_, by simp [hri], fun x hx => ?_⟩
      · obtain ⟨xs, e, hx⟩ := D7; exact ⟨xs, set_other pnd e, hx⟩
      · rw [set_same hp7]; simp
      · rcases List.mem_append.mp hx with hx | hx
        · exact hrx x hx
        · have : x = (s, u) := by simpa using hx
          subst this
          exact ⟨⟨s0, s1⟩, u0, u1⟩
    · rintro env h' ⟨⟨o11, o12, rfl⟩, Di, Mi, r, hp, hri, hrx⟩
      rw [rangeM_len] at hri
      have ap := f_app (y := .ref p) Mi.at_ (sz_lt (by rw [List.length_map, Mi.len]; omega))
      refine' en_expr (h1 := h'.set q (.lst (ps.map MV.ref ++ [.ref p]))) (d := .non) ?e ?_
      case e =>
        refine' ev_m (h1 := h') (h2 := h') (x := .ref q) (xs := [.ref p]) ?e1 ?e2 ?e3 ap
        case e1 => walk_at "ev"
        case e2 => exact tyc_R Mi.at_
        case e3 => walk_at "ev"
      refine ⟨⟨_, _, _, _, rfl⟩, ?_, rw ++ [r], ps ++ [p], ⟨?_, by simp [Mi.len], fun i p' r' e1 e2 => ?_⟩, by simp [hlen], ?_, ?_, fun z hz => ?_⟩
      · obtain ⟨xs, e, hx⟩ := Di; exact ⟨xs, set_other pd e, hx⟩
      · rw [set_same Mi.at_]; simp
      · by_cases ci : i < ps.length
        · rw [List.getElem?_append_left ci] at e1
          rw [List.getElem?_append_left (by rw [← Mi.len]; exact ci)] at e2
          exact set_other (fun z => nq (z ▸ List.mem_of_getElem? e1)) (Mi.row i p' r' e1 e2)
        · rw [List.getElem?_append_right (by omega)] at e1
          rw [List.getElem?_append_right (by rw [← Mi.len]; omega)] at e2
          have hi : i = ps.length := by
            have := (List.getElem?_eq_some_iff.mp e1).1
            simp at this
            omega
          subst hi
          rw [Nat.sub_self] at e1
          rw [Mi.len, Nat.sub_self] at e2
          simp only [List.getElem?_cons_zero, Option.some.injEq] at e1 e2
          subst e1 e2
          exact set_other (Ne.symm pnq) hp
      · intro hm
        rcases List.mem_append.mp hm with hm | hm
        · exact nd hm
        · exact pnd ((by simpa using hm : d = p).symm)
      · intro hm
        rcases List.mem_append.mp hm with hm | hm
        · exact nq hm
        · exact pnq ((by simpa using hm : q = p).symm)
      · rcases List.mem_append.mp hz with hz | hz
        · exact hr z hz
        · have : z = r := by simpa using hz
          subst this
          exact ⟨by omega, hrx⟩
  · rintro env hh ⟨⟨o9, o10, o11, o12, rfl⟩, Dj, rw, ps, Mj, hlen, nd, nq, hr⟩
    rw [rangeM_len] at hlen
    refine' en_ret ?e ?_
    case e => walk_at "ev"
    refine ⟨_, _, rfl, op, rw, q, ps, rfl, Mj, ⟨hI.1, hO, hl.1, hl.2, by omega, ⟨by omega, by omega⟩, by rw [lP]; split <;> omega, bP, fun r h => ⟨(hr r h).1, fun x hx => ⟨⟨((hr r h).2 x hx).1.1, by have := ((hr r h).2 x hx).1.2; omega⟩, ((hr r h).2 x hx).2⟩⟩⟩, by omega, pd, nd, Dj⟩
end Mn
/-! ## MnME -/
set_option Elab.async false
set_option linter.all false
set_option maxRecDepth 100000
namespace K39
open PySem PySem.Spec PyProof.Rows L2 Mn
local macro_rules | `(tactic| walk_at "hp") => `(tactic| first
  | assumption
  | exact set_same (by assumption)
  | exact app_same
  | exact app_old (by assumption))
local macro_rules | `(tactic| walk_at "op") => `(tactic| with_reducible first
  | assumption
  | exact f_add | exact f_ii0 | exact f_ui | exact f_int | exact f_intB | exact f_max | exact f_min | exact f_ip
  | exact f_eqI | exact f_neI
  | exact f_lenT | exact f_lenF | exact f_lenS | exact f_tupT | exact f_tupF | exact f_tupS
  | exact f_lenR (by walk_at "hp") | exact f_tupR (by walk_at "hp")
  | (refine' f_mod ?_; omega)
  | (refine' f_div ?_ ?_ <;> omega)
  | exact f_pow (by decide)
  | exact f_isN1 | exact f_notN1
  | exact f_isN0 (by with_unfolding_all (intro q; cases q))
  | exact f_notN0 (by with_unfolding_all (intro q; cases q))
  | exact f_addT (by walk_at "sz")
  | exact f_slT | exact f_slF | exact f_slR (by walk_at "hp")
  | exact f_rev (by walk_at "hp"))
local macro_rules | `(tactic| walk_at "sz") => `(tactic| (refine sz_small ?_; simp only [List.length_cons, List.length_nil, List.length_append, List.length_map]; omega))
local macro_rules | `(tactic| walk_at "ev") => `(tactic| with_reducible first
  | assumption
  | exact ev_C
  | exact ev_V (by with_unfolding_all rfl)
  | exact ev_N
  | exact ev_oN
  | (refine' ev_2 ?a ?b ?c; (case a => walk_at "ev"); (case b => walk_at "ev"); (case c => walk_at "op"))
  | (refine' ev_1 ?a ?b; (case a => walk_at "ev"); (case b => walk_at "op"))
  | (refine' ev_F ?a ?b; (case a => walk_at "ev"); (case b => walk_at "op"))
  | (refine' ev_Cs ?a ?b; (case a => walk_at "ev"); (case b => walk_at "ev"))
  | (refine' ev_call ?a ?n ?b; (case a => walk_at "ev"); (case n => with_unfolding_all rfl); (case b => walk_at "op"))
  | (refine' ev_T ?a; (case a => walk_at "ev"))
  | (refine' ev_tnot ?a; (case a => walk_at "ev"))
  | (refine' ev_tup ?a ?b; (case a => walk_at "ev"); (case b => walk_at "sz"))
  | (refine' ev_lstF ?a ?b; (case a => walk_at "ev"); (case b => walk_at "sz"))
  | (refine' ev_lstT ?a ?b; (case a => walk_at "ev"); (case b => walk_at "sz"))
  | (refine' ev_oS ?a; (case a => walk_at "ev"))
  | (refine' ev_sl ?a ?b ?c ?d; (case a => walk_at "ev"); (case b => walk_at "ev"); (case c => walk_at "ev"); (case d => walk_at "op"))
  | (refine' ev_not ?a; (case a => walk_at "ev"))
  | (refine' ev_m0 ?a ?b ?c; (case a => walk_at "ev"); (case b => exact tyc_R (by walk_at "hp")); (case c => walk_at "op"))
  | (refine' ev_m ?a ?b ?c ?d; (case a => walk_at "ev"); (case b => exact tyc_R (by walk_at "hp")); (case c => walk_at "ev"); (case d => walk_at "op"))
  | (refine' it_range1 ?a ?b; (case a => walk_at "ev"); (case b => omega))
  | (refine' it_range2 ?a ?b; (case a => walk_at "ev"); (case b => omega))
  | (refine' it_T ?a; (case a => walk_at "ev"))
  | (refine' it_F ?a; (case a => walk_at "ev")))
local macro_rules | `(tactic| walk_at "nf") => `(tactic| (simp (config := { failIfUnchanged := false }) only [List.set_cons_succ, List.set_cons_zero, List.map_cons, List.map_nil, List.length_cons, List.length_nil, List.cons_append, List.nil_append, List.replicate]))
local macro_rules | `(tactic| walk_at "set") => `(tactic| (refine en_seq ?_; refine' en_set ?e ?_; (case e => walk_at "ev"); walk_at "nf"))
local macro_rules | `(tactic| walk_at "expr") => `(tactic| (refine en_seq ?_; refine' en_expr ?e ?_; (case e => walk_at "ev"); walk_at "nf"))

theorem mixR {I O l : Int} {op : List Int} {rw : List (List (Int × Int))} (V : VM I O l op rw) {h : MH} {q : Nat} {ps : List Nat} (M : MRows h q rw ps) {s a : Int} (h0 : 0 ≤ s) (h1 : s < rw.length) (a0 : 0 ≤ a) (a1 : a < I) : ∃ p, fIx (.ref q) (.int s) h = .ok (.ref p) h ∧ fIx (.ref p) (.int a) h = .ok (prv (mst rw s a)) h := by
  have hk : s.toNat < rw.length := by omega
  obtain ⟨p, hp⟩ : ∃ p, ps[s.toNat]? = some p := ⟨_, List.getElem?_eq_getElem (by rw [M.len]; exact hk)⟩
  have hr0 : rw[s.toNat]? = some (rw.getD s.toNat []) := by simp [List.getD, List.getElem?_eq_getElem hk]
  have hr : rw.getD s.toNat [] ∈ rw := List.mem_of_getElem? hr0
  obtain ⟨r1, _⟩ := V.row _ hr
  have hc := M.row _ p _ hp hr0
  refine ⟨p, f_ix (seq_R M.at_) (atI_z h0 (by rw [List.getElem?_map, hp]; rfl)), ?_⟩
  unfold mst
  generalize rw.getD s.toNat [] = r at *
  have hk2 : a.toNat < r.length := by omega
  refine f_ix (seq_R hc) (atI_z a0 ?_)
  rw [List.getElem?_map, List.getElem?_eq_getElem hk2]
  simp [List.getD, List.getElem?_eq_getElem hk2]
theorem wslice {e : Nat → Int} {F b p : Nat} {h : MH} (kf : h[F]? = some (.lst (nums (wtake e 0 (b + p))))) : fSl false (.ref F) none (some (b : Int)) h = .ok (.fl (nums (wtake e 0 b))) h ∧ fSl false (.ref F) (some (b : Int)) none h = .ok (.fl (nums (wtake e b p))) h := by
  constructor
  · rw [f_slR kf, cut_hi (by omega), Int.toNat_natCast]
    have : (wtake e 0 (b + p)).take b = wtake e 0 b := eq_wtake (by rw [List.length_take, wtake_len]; omega) fun j hj => by
      have := wtake_get (w := e) (a := 0) (n := b + p) (i := j) (by omega)
      rw [← this]
      simp only [List.getD, List.getElem?_take, if_pos hj]
    rw [this]; rfl
  · rw [f_slR kf, cut_lo (by omega), Int.toNat_natCast]
    have : (wtake e 0 (b + p)).drop b = wtake e b p := eq_wtake (by rw [List.length_drop, wtake_len]; omega) fun j hj => by
      have := wtake_get (w := e) (a := 0) (n := b + p) (i := b + j) (by omega)
      rw [Nat.zero_add] at this
      rw [← this]
      simp only [List.getD, List.getElem?_drop]
    rw [this]; rfl
def mlemM : MF := runF 7 (sSeq (sSet 2 (mLst true (maN))) (sSeq (sSet 3 (mC (.int 0))) (sSeq (sFor (iSeq (m2 fIx (mV 1) (mC (.int 0)))) (gNm 4) (sSeq (sExpr (mM "list" fAppend (mV 2) (maC (m2 fIx (m2 fIx (m2 fIx (mV 0) (mV 3)) (mV 4)) (mC (.int 1))) (maN)))) (sSet 3 (m2 fIx (m2 fIx (m2 fIx (mV 0) (mV 3)) (mV 4)) (mC (.int 0)))))) (sSeq (sSet 5 (m2 (fMul true) (mLst false (maC (m1 fNeg (mC (.int 1))) (maN))) (mF fLen (maC (mV 0) (maN))))) (sSeq (sFor (iRange1 (maC (m2 (fAdd false) (mF fLen (maC (mV 0) (maN))) (mC (.int 1))) (maN))) (gNm 6) (sSeq (sIf (mT (m2 fGe (m2 fIx (mV 5) (mV 3)) (mC (.int 0)))) (sBreak) (sNil)) (sSeq (sAsg (mF fLen (maC (mV 2) (maN))) (gSb (mV 5) (mV 3) fSetL)) (sFor (iSeq (m2 fIx (mV 1) (mC (.int 1)))) (gNm 4) (sSeq (sExpr (mM "list" fAppend (mV 2) (maC (m2 fIx (m2 fIx (m2 fIx (mV 0) (mV 3)) (mV 4)) (mC (.int 1))) (maN)))) (sSet 3 (m2 fIx (m2 fIx (m2 fIx (mV 0) (mV 3)) (mV 4)) (mC (.int 0))))))))) (sRet (mTup (maC (mF fTuple (maC (mSl (fSl false) (mV 2) (moN) (moS (m2 fIx (mV 5) (mV 3)))) (maN))) (maC (mF fTuple (maC (mSl (fSl false) (mV 2) (moS (m2 fIx (mV 5) (mV 3))) (moN)) (maN))) (maN))))))))))
theorem mlemM_ok {I O l : Int} {op : List Int} {rw : List (List (Int × Int))} {hs ls : List Int} {h : MH} {q : Nat} {ps : List Nat} (V : VM I O l op rw) (M : MRows h q rw ps) (hl : ls ≠ []) (hz : hs.length ≤ 100 ∧ ls.length ≤ 100) (hN : rw.length ≤ 100) (hr : ∀ x ∈ hs ++ ls, 0 ≤ x ∧ x < I) :
    ∃ b p h', mlemM [.ref q, lasso hs ls] h = .ok (lasso (wtake (em rw (lw hs ls)) 0 b) (wtake (em rw (lw hs ls)) b p)) h' ∧ 1 ≤ p ∧ PerW (em rw (lw hs ls)) b p ∧ b + p ≤ hs.length + ls.length * rw.length ∧ ∀ (n : Nat) c, h[n]? = some c → h'[n]? = some c := by
  suffices g : Does (fun v h' => ∃ b p, v = lasso (wtake (em rw (lw hs ls)) 0 b) (wtake (em rw (lw hs ls)) b p) ∧ 1 ≤ p ∧ PerW (em rw (lw hs ls)) b p ∧ b + p ≤ hs.length + ls.length * rw.length ∧ ∀ (n : Nat) c, h[n]? = some c → h'[n]? = some c) (mlemM [.ref q, lasso hs ls] h) by
    obtain ⟨v, h', e, b, p, rfl, r⟩ := g
    exact ⟨b, p, h', e, r⟩
  have hl2 : 0 < ls.length := List.length_pos_iff.mpr hl
  have hw : ∀ t, 0 ≤ lw hs ls t ∧ lw hs ls t < I := lw_all hl hr
  have hin : ∀ t, 0 ≤ est rw (lw hs ls) t ∧ est rw (lw hs ls) t < rw.length := fun t => est_in V (n := t) (fun u _ => hw u) t (Nat.le_refl _)
  have hper := lw_per (hs := hs) (ls := ls)
  have h1w : ∀ t a, hs[t]? = some a → a = lw hs ls t := fun t a e => by
    have ht := (List.getElem?_eq_some_iff.mp e).1
    rw [lw_lt ht, List.getD, e]; rfl
  have h2w : ∀ k t a, ls[t]? = some a → a = lw hs ls (hs.length + ls.length * k + t) := fun k t a e => by
    have ht := (List.getElem?_eq_some_iff.mp e).1
    rw [lw_ge (by omega), show hs.length + ls.length * k + t - hs.length = t + ls.length * k by omega, Nat.add_mul_mod_self_left, Nat.mod_eq_of_lt ht, List.getD, e]; rfl
  generalize hW : lw hs ls = w at *
  unfold mlemM
  refine runF_does ?_
  walk_at "nf"
  walk_at "set"
  walk_at "set"
  have cf : (h ++ [Cell.lst []])[h.length]? = some (.lst []) := app_same
  have old2 : ∀ (n : Nat) c, h[n]? = some c → (h ++ [Cell.lst []])[n]? = some c := fun n c e => app_old e
  generalize h ++ [Cell.lst []] = h2 at *
  have e0 := fun h => @la_0 hs ls h
  have e1 := fun h => @la_1 hs ls h
  have e02 := e0 h2
  -- the head
  refine en_seq ?_
  refine' en_for (xs := nums hs) (h1 := h2) ?e ?_
  case e => walk_at "ev"
  refine en_forL (fun j env hh => (∃ o, env = [some (.ref q), some (lasso hs ls), some (.ref h.length), some (.int (est rw w j)), o, none, none]) ∧ hh[h.length]? = some (.lst (nums (wtake (em rw w) 0 j))) ∧ ∀ (n : Nat) c, h[n]? = some c → hh[n]? = some c) ⟨⟨_, rfl⟩, cf, old2⟩ ?_ ?_
  · rintro j v env hh hx ⟨⟨o, rfl⟩, jf, jold⟩
    rw [List.getElem?_map] at hx
    obtain ⟨a, ha, rfl⟩ := Option.map_eq_some_iff.mp hx
    have hj := (List.getElem?_eq_some_iff.mp ha).1
    have ea := h1w j a ha
    obtain ⟨a0, a1⟩ := hw j
    rw [← ea] at a0 a1
    obtain ⟨q0, q1⟩ := hin j
    have hem : em rw w j = (mst rw (est rw w j) a).2 := by rw [ea]; rfl
    have hes : est rw w (j + 1) = (mst rw (est rw w j) a).1 := by rw [ea]; rfl
    rw [hes, wt_succ, nums_snoc, hem]
    show Ends _ (sSeq _ _ [some (.ref q), some (lasso hs ls), some (.ref h.length), some (.int (est rw w j)), some (.int a), none, none] hh)
    have Mh := M.keep fun n c _ e => jold n c e
    obtain ⟨p, f1, f2⟩ := mixR V Mh q0 q1 a0 a1
    have f3 := @prv_1 hh (mst rw (est rw w j) a)
    have ap := f_app (y := .int (mst rw (est rw w j) a).2) jf (sz_lt (by rw [List.length_map, wtake_len]; omega))
    have nold : ∀ (n : Nat) c, h[n]? = some c → (hh.set h.length (.lst (nums (wtake (em rw w) 0 j) ++ [.int (mst rw (est rw w j) a).2])))[n]? = some c := fun n c e => set_other (by have := lt_of_get e; omega) (jold n c e)
    have jf2 := set_same (c' := .lst (nums (wtake (em rw w) 0 j) ++ [.int (mst rw (est rw w j) a).2])) jf
    refine en_seq ?_
    refine' en_expr ?e ?_
    case e => walk_at "ev"
    show Ends _ (sSet _ _ [some (.ref q), some (lasso hs ls), some (.ref h.length), some (.int (est rw w j)), some (.int a), none, none] (hh.set h.length (.lst (nums (wtake (em rw w) 0 j) ++ [.int (mst rw (est rw w j) a).2]))))
    generalize hh.set h.length (.lst (nums (wtake (em rw w) 0 j) ++ [.int (mst rw (est rw w j) a).2])) = g at *
    have Mg := M.keep fun n c _ e => nold n c e
    obtain ⟨p, f1, f2⟩ := mixR V Mg q0 q1 a0 a1
    have f3 := @prv_0 g (mst rw (est rw w j) a)
    refine' en_set ?e ?_
    case e => walk_at "ev"
    exact ⟨⟨_, rfl⟩, jf2, nold⟩
  rintro env h3 ⟨⟨o, rfl⟩, kf, kold⟩
  rw [List.length_map] at kf ⊢
  -- begins
  have Mh := M.keep fun n c _ e => kold n c e
  have nr : fLen [.ref q] h3 = .ok (.int (rw.length : Int)) h3 := by rw [f_lenR Mh.at_]; simp [M.len]
  have ng : fNeg (.int 1) h3 = .ok (.int (-1)) h3 := rfl
  have ml : fMul true (.fl [.int (-1)]) (.int (rw.length : Int)) h3 = .ok (.ref h3.length) (h3 ++ [.lst (nums (List.replicate rw.length (-1)))]) := by
    unfold fMul
    simp only [wlst]
    rw [if_pos ⟨by omega, by omega, sz_small (by simp; omega)⟩, Int.toNat_natCast]
    have : (List.replicate rw.length [MV.int (-1)]).flatten = nums (List.replicate rw.length (-1)) := by
      unfold nums
      rw [List.map_replicate]
      induction rw.length with
      | zero => rfl
      | succ n ih => rw [List.replicate_succ, List.replicate_succ, List.flatten_cons, ih]; rfl
    rw [this]; rfl
  refine en_seq ?_
  refine' en_set (d := .ref h3.length) (h1 := h3 ++ [.lst (nums (List.replicate rw.length (-1)))]) ?e ?_
  case e =>
    refine' ev_2 (h1 := h3) (h2 := h3) ?e1 ?e2 ml
    case e1 => walk_at "ev"
    case e2 => walk_at "ev"
  walk_at "nf"
  have ne : h.length ≠ h3.length := by have := lt_of_get kf; omega
  have nle : h.length ≤ h3.length := by have := lt_of_get kf; omega
  have kf4 : (h3 ++ [Cell.lst (nums (List.replicate rw.length (-1)))])[h.length]? = some (.lst (nums (wtake (em rw w) 0 hs.length))) := app_old kf
  have kb4 : (h3 ++ [Cell.lst (nums (List.replicate rw.length (-1)))])[h3.length]? = some (.lst (nums (List.replicate rw.length (-1)))) := app_same
  have kold4 : ∀ (n : Nat) c, h[n]? = some c → (h3 ++ [Cell.lst (nums (List.replicate rw.length (-1)))])[n]? = some c := fun n c e => app_old (kold n c e)
  generalize h3 ++ [Cell.lst (nums (List.replicate rw.length (-1)))] = h4 at *
  generalize h3.length = G at *
  have Mh4 := M.keep fun n c _ e => kold4 n c e
  have nr4 : fLen [.ref q] h4 = .ok (.int (rw.length : Int)) h4 := by rw [f_lenR Mh4.at_]; simp [M.len]
  refine en_seq ?_
  refine' en_for (xs := rangeM 0 (rw.length + 1)) (h1 := h4) ?e ?_
  case e =>
    rw [show rw.length + 1 = ((rw.length : Int) + 1).toNat by omega]
    refine' it_range1 ?i1 ?i2; (case i1 => walk_at "ev"); (case i2 => omega)
  refine en_forL (fun k env hh => (∃ o o', env = [some (.ref q), some (lasso hs ls), some (.ref h.length), some (.int (est rw w (hs.length + ls.length * k))), o, some (.ref G), o']) ∧ hh[h.length]? = some (.lst (nums (wtake (em rw w) 0 (hs.length + ls.length * k)))) ∧ (∀ (n : Nat) c, h[n]? = some c → hh[n]? = some c) ∧ (∀ i j, i < j → j < k → est rw w (hs.length + ls.length * i) ≠ est rw w (hs.length + ls.length * j)) ∧
      ∃ B : List Int, hh[G]? = some (.lst (nums B)) ∧ B.length = rw.length ∧ (∀ i, i < k → B.getD (est rw w (hs.length + ls.length * i)).toNat 0 = ((hs.length + ls.length * i : Nat) : Int)) ∧ ∀ s, s < rw.length → (∀ i, i < k → (est rw w (hs.length + ls.length * i)).toNat ≠ s) → B.getD s 0 = -1) ?_ ?_ ?_
  · refine ⟨⟨_, _, rfl⟩, kf4, kold4, fun i j _ h => absurd h (Nat.not_lt_zero _), List.replicate rw.length (-1), kb4, by simp, fun i hi => absurd hi (Nat.not_lt_zero _), fun s hs _ => ?_⟩
    simp [List.getD, hs]
  · rintro k v env hh hx ⟨⟨o, o', rfl⟩, jf, jold, jdis, B, jb, Bl, Bin, Bout⟩
    obtain ⟨rfl, hk⟩ := rangeM_get hx
    have hkL : ls.length * k ≤ 100 * 101 := Nat.mul_le_mul (by omega) (by omega)
    show Ends _ (sSeq _ _ [some (.ref q), some (lasso hs ls), some (.ref h.length), some (.int (est rw w (hs.length + ls.length * k))), o, some (.ref G), some (.int (0 + k))] hh)
    obtain ⟨q0, q1⟩ := hin (hs.length + ls.length * k)
    have fb : fIx (.ref G) (.int (est rw w (hs.length + ls.length * k))) hh = .ok (.int (B.getD (est rw w (hs.length + ls.length * k)).toNat 0)) hh := f_ix (seq_R jb) (atI_z q0 (nums_get (getD_of (by omega))))
    refine en_seq ?_
    by_cases c : ∃ i, i < k ∧ est rw w (hs.length + ls.length * i) = est rw w (hs.length + ls.length * k)
    · obtain ⟨i, hi, e⟩ := c
      have hb := Bin i hi
      rw [e] at hb
      rw [hb] at fb
      have ge : fGe (.int ((hs.length + ls.length * i : Nat) : Int)) (.int 0) hh = .ok (.bl true) hh := cmpT (P := ((hs.length + ls.length * i : Nat) : Int) ≥ 0) f_ii0 (by omega)
      refine' en_if (v := true) ?e ?_ (fun z => nomatch z)
      case e => walk_at "ev"
      intro _
      refine en_break ?_
      have hkd : hs.length + ls.length * k = (hs.length + ls.length * i) + ls.length * (k - i) := by
        obtain ⟨d, rfl⟩ : ∃ d, k = i + d := ⟨k - i, by omega⟩
        rw [Nat.mul_add, Nat.add_sub_cancel_left]
        omega
      have hp : 1 ≤ ls.length * (k - i) := Nat.mul_pos hl2 (by omega)
      have P : PerW w (hs.length + ls.length * i) (ls.length * (k - i)) := fun t ht => hper.mul (k - i) t (by omega)
      have E : est rw w (hs.length + ls.length * i + ls.length * (k - i)) = est rw w (hs.length + ls.length * i) := by rw [← hkd]; exact e.symm
      rw [hkd] at jf
      obtain ⟨s1, s2⟩ := wslice jf
      have hkN : ls.length * k ≤ ls.length * rw.length := Nat.mul_le_mul_left _ (by omega)
      show Ends _ (sRet _ [some (.ref q), some (lasso hs ls), some (.ref h.length), some (.int (est rw w (hs.length + ls.length * k))), o, some (.ref G), some (.int (0 + k))] hh)
      refine' en_ret ?e ?_
      case e => walk_at "ev"
      exact ⟨_, _, rfl, hs.length + ls.length * i, ls.length * (k - i), rfl, hp, em_per P E, by omega, jold⟩
    · have nin : ∀ i, i < k → est rw w (hs.length + ls.length * i) ≠ est rw w (hs.length + ls.length * k) := fun i hi e => c ⟨i, hi, e⟩
      have nin2 : ∀ i, i < k → (est rw w (hs.length + ls.length * i)).toNat ≠ (est rw w (hs.length + ls.length * k)).toNat := fun i hi e => nin i hi (by have := hin (hs.length + ls.length * i); omega)
      rw [Bout _ (by omega) nin2] at fb
      have ge : fGe (.int (-1)) (.int 0) hh = .ok (.bl false) hh := rfl
      refine' en_if (v := false) ?e (fun z => nomatch z) ?_
      case e => walk_at "ev"
      intro _
      refine en_nil ?_
      have nfl : fLen [.ref h.length] hh = .ok (.int ((hs.length + ls.length * k : Nat) : Int)) hh := by rw [f_lenR jf]; simp [wtake_len]
      have sl := f_setL (d := .int ((hs.length + ls.length * k : Nat) : Int)) jb q0 (by rw [List.length_map, Bl]; exact q1)
      refine en_seq ?_
      refine' en_asg ?e ?g ?_
      case e => walk_at "ev"
      case g => refine' ev_gSb ?s1 ?s2 sl; (case s1 => walk_at "ev"); (case s2 => walk_at "ev")
      rw [nums_set]
      have jf5 := set_other (c' := .lst (nums (B.set (est rw w (hs.length + ls.length * k)).toNat ((hs.length + ls.length * k : Nat) : Int)))) (Ne.symm ne) jf
      have jb5 := set_same (c' := .lst (nums (B.set (est rw w (hs.length + ls.length * k)).toNat ((hs.length + ls.length * k : Nat) : Int)))) jb
      have jold5 : ∀ (n : Nat) c, h[n]? = some c → (hh.set G (.lst (nums (B.set (est rw w (hs.length + ls.length * k)).toNat ((hs.length + ls.length * k : Nat) : Int)))))[n]? = some c := fun n c e => set_other (by have := lt_of_get e; omega) (jold n c e)
      generalize hB : B.set (est rw w (hs.length + ls.length * k)).toNat ((hs.length + ls.length * k : Nat) : Int) = B' at *
      show Ends _ (sFor _ _ _ [some (.ref q), some (lasso hs ls), some (.ref h.length), some (.int (est rw w (hs.length + ls.length * k))), o, some (.ref G), some (.int (0 + k))] (hh.set G (.lst (nums B'))))
      generalize hh.set G (.lst (nums B')) = g5 at *
      have e15 := e1 g5
      refine' en_for (xs := nums ls) (h1 := g5) ?e ?_
      case e => walk_at "ev"
      refine en_forL (fun j env h' => (∃ o, env = [some (.ref q), some (lasso hs ls), some (.ref h.length), some (.int (est rw w (hs.length + ls.length * k + j))), o, some (.ref G), some (.int (0 + k))]) ∧ h'[h.length]? = some (.lst (nums (wtake (em rw w) 0 (hs.length + ls.length * k + j)))) ∧ h'[G]? = some (.lst (nums B')) ∧ ∀ (n : Nat) c, h[n]? = some c → h'[n]? = some c) ⟨⟨_, rfl⟩, jf5, jb5, jold5⟩ ?_ ?_
      · rintro j v env h' hx ⟨⟨o, rfl⟩, if_, ib, iold⟩
        rw [List.getElem?_map] at hx
        obtain ⟨a, ha, rfl⟩ := Option.map_eq_some_iff.mp hx
        have hj := (List.getElem?_eq_some_iff.mp ha).1
        have ea := h2w k j a ha
        obtain ⟨a0, a1⟩ := hw (hs.length + ls.length * k + j)
        rw [← ea] at a0 a1
        obtain ⟨q0, q1⟩ := hin (hs.length + ls.length * k + j)
        have hem : em rw w (hs.length + ls.length * k + j) = (mst rw (est rw w (hs.length + ls.length * k + j)) a).2 := by rw [ea]; rfl
        have hes : est rw w (hs.length + ls.length * k + (j + 1)) = (mst rw (est rw w (hs.length + ls.length * k + j)) a).1 := by rw [ea]; rfl
        rw [hes, show hs.length + ls.length * k + (j + 1) = hs.length + ls.length * k + j + 1 by omega, wt_succ, nums_snoc, hem]
        have hTb : hs.length + ls.length * k + j < 16777216 := by omega
        generalize hs.length + ls.length * k + j = T at *
        show Ends _ (sSeq _ _ [some (.ref q), some (lasso hs ls), some (.ref h.length), some (.int (est rw w T)), some (.int a), some (.ref G), some (.int (0 + k))] h')
        have Mi := M.keep fun n c _ e => iold n c e
        obtain ⟨p, f1, f2⟩ := mixR V Mi q0 q1 a0 a1
        have f3 := @prv_1 h' (mst rw (est rw w T) a)
        have ap := f_app (y := .int (mst rw (est rw w T) a).2) if_ (sz_lt (by rw [List.length_map, wtake_len]; exact hTb))
        have nold : ∀ (n : Nat) c, h[n]? = some c → (h'.set h.length (.lst (nums (wtake (em rw w) 0 T) ++ [.int (mst rw (est rw w T) a).2])))[n]? = some c := fun n c e => set_other (by have := lt_of_get e; omega) (iold n c e)
        have if2 := set_same (c' := .lst (nums (wtake (em rw w) 0 T) ++ [.int (mst rw (est rw w T) a).2])) if_
        have ib2 := set_other (c' := .lst (nums (wtake (em rw w) 0 T) ++ [.int (mst rw (est rw w T) a).2])) ne ib
        refine en_seq ?_
        refine' en_expr ?e ?_
        case e => walk_at "ev"
        show Ends _ (sSet _ _ [some (.ref q), some (lasso hs ls), some (.ref h.length), some (.int (est rw w T)), some (.int a), some (.ref G), some (.int (0 + k))] (h'.set h.length (.lst (nums (wtake (em rw w) 0 T) ++ [.int (mst rw (est rw w T) a).2]))))
        generalize h'.set h.length (.lst (nums (wtake (em rw w) 0 T) ++ [.int (mst rw (est rw w T) a).2])) = g at *
        have Mg := M.keep fun n c _ e => nold n c e
        obtain ⟨p, f1, f2⟩ := mixR V Mg q0 q1 a0 a1
        have f3 := @prv_0 g (mst rw (est rw w T) a)
        refine' en_set ?e ?_
        case e => walk_at "ev"
        exact ⟨⟨_, rfl⟩, if2, ib2, nold⟩
      · rintro env h' ⟨⟨o, rfl⟩, if_, ib, iold⟩
        rw [List.length_map] at if_ ⊢
        have e : hs.length + ls.length * k + ls.length = hs.length + ls.length * (k + 1) := by rw [Nat.mul_succ]; omega
        rw [e] at if_ ⊢
        refine ⟨⟨_, _, rfl⟩, if_, iold, fun i j ij jk => ?_, B', ib, by rw [← hB, List.length_set]; exact Bl, fun i hi => ?_, fun s hs1 hs2 => ?_⟩
        · rcases Nat.lt_succ_iff_lt_or_eq.mp jk with jk | rfl
          · exact jdis i j ij jk
          · exact nin i ij
        · rcases Nat.lt_succ_iff_lt_or_eq.mp hi with hi | rfl
          · rw [← hB, List.getD, List.getElem?_set_ne (Ne.symm (nin2 i hi))]
            exact Bin i hi
          · rw [← hB, List.getD, List.getElem?_set_self (by omega)]; rfl
        · rw [← hB, List.getD, List.getElem?_set_ne (hs2 k (Nat.lt_succ_self _))]
          exact Bout s hs1 fun i hi => hs2 i (by omega)
  · rintro env hh ⟨⟨o, o', rfl⟩, jf, jold, jdis, _⟩
    rw [rangeM_len] at jdis
    exfalso
    obtain ⟨x, y, xy, yN, e⟩ := php rw.length (fun i => (est rw w (hs.length + ls.length * i)).toNat) (fun i _ => by have := hin (hs.length + ls.length * i); omega)
    refine jdis x y xy (by omega) ?_
    have a := hin (hs.length + ls.length * x)
    have b := hin (hs.length + ls.length * y)
    have : (est rw w (hs.length + ls.length * x)).toNat = (est rw w (hs.length + ls.length * y)).toNat := e
    omega
end K39
/-! ## MnMF -/
set_option Elab.async false
set_option linter.all false
set_option maxRecDepth 100000
namespace K39
open PySem PySem.Spec PyProof.Rows L2 Mn
local macro_rules | `(tactic| walk_at "hp") => `(tactic| first
  | assumption
  | exact set_same (by assumption)
  | exact app_same
  | exact app_old (by assumption))
local macro_rules | `(tactic| walk_at "op") => `(tactic| with_reducible first
  | assumption
  | exact f_add | exact f_ii0 | exact f_ui | exact f_int | exact f_intB | exact f_max | exact f_min | exact f_ip
  | exact f_eqI | exact f_neI
  | exact f_lenT | exact f_lenF | exact f_lenS | exact f_tupT | exact f_tupF | exact f_tupS
  | exact f_lenR (by walk_at "hp") | exact f_tupR (by walk_at "hp")
  | (refine' f_mod ?_; omega)
  | (refine' f_div ?_ ?_ <;> omega)
  | exact f_pow (by decide)
  | exact f_isN1 | exact f_notN1
  | exact f_isN0 (by with_unfolding_all (intro q; cases q))
  | exact f_notN0 (by with_unfolding_all (intro q; cases q))
  | exact f_addT (by walk_at "sz")
  | exact f_slT | exact f_slF | exact f_slR (by walk_at "hp")
  | exact f_rev (by walk_at "hp"))
local macro_rules | `(tactic| walk_at "sz") => `(tactic| (refine sz_small ?_; simp only [List.length_cons, List.length_nil, List.length_append, List.length_map]; omega))
local macro_rules | `(tactic| walk_at "ev") => `(tactic| with_reducible first
  | assumption
  | exact ev_C
  | exact ev_V (by with_unfolding_all rfl)
  | exact ev_N
  | exact ev_oN
  | (refine' ev_2 ?a ?b ?c; (case a => walk_at "ev"); (case b => walk_at "ev"); (case c => walk_at "op"))
  | (refine' ev_1 ?a ?b; (case a => walk_at "ev"); (case b => walk_at "op"))
  | (refine' ev_F ?a ?b; (case a => walk_at "ev"); (case b => walk_at "op"))
  | (refine' ev_Cs ?a ?b; (case a => walk_at "ev"); (case b => walk_at "ev"))
  | (refine' ev_call ?a ?n ?b; (case a => walk_at "ev"); (case n => with_unfolding_all rfl); (case b => walk_at "op"))
  | (refine' ev_T ?a; (case a => walk_at "ev"))
  | (refine' ev_tnot ?a; (case a => walk_at "ev"))
  | (refine' ev_tup ?a ?b; (case a => walk_at "ev"); (case b => walk_at "sz"))
  | (refine' ev_lstF ?a ?b; (case a => walk_at "ev"); (case b => walk_at "sz"))
  | (refine' ev_lstT ?a ?b; (case a => walk_at "ev"); (case b => walk_at "sz"))
  | (refine' ev_oS ?a; (case a => walk_at "ev"))
  | (refine' ev_sl ?a ?b ?c ?d; (case a => walk_at "ev"); (case b => walk_at "ev"); (case c => walk_at "ev"); (case d => walk_at "op"))
  | (refine' ev_not ?a; (case a => walk_at "ev"))
  | (refine' ev_m0 ?a ?b ?c; (case a => walk_at "ev"); (case b => exact tyc_R (by walk_at "hp")); (case c => walk_at "op"))
  | (refine' ev_m ?a ?b ?c ?d; (case a => walk_at "ev"); (case b => exact tyc_R (by walk_at "hp")); (case c => walk_at "ev"); (case d => walk_at "op"))
  | (refine' it_range1 ?a ?b; (case a => walk_at "ev"); (case b => omega))
  | (refine' it_range2 ?a ?b; (case a => walk_at "ev"); (case b => omega))
  | (refine' it_T ?a; (case a => walk_at "ev"))
  | (refine' it_F ?a; (case a => walk_at "ev")))
local macro_rules | `(tactic| walk_at "nf") => `(tactic| (simp (config := { failIfUnchanged := false }) only [List.set_cons_succ, List.set_cons_zero, List.map_cons, List.map_nil, List.length_cons, List.length_nil, List.cons_append, List.nil_append, List.replicate]))
local macro_rules | `(tactic| walk_at "set") => `(tactic| (refine en_seq ?_; refine' en_set ?e ?_; (case e => walk_at "ev"); walk_at "nf"))
local macro_rules | `(tactic| walk_at "expr") => `(tactic| (refine en_seq ?_; refine' en_expr ?e ?_; (case e => walk_at "ev"); walk_at "nf"))

theorem f_mulXI {m n : Int} {h : MH} (hj : (-(2 ^ 64) < m ∧ m < 2 ^ 64) ∨ (-(2 ^ 64) < n ∧ n < 2 ^ 64)) : fMulX false (.int m) (.int n) h = .ok (.int (m * n)) h := f_mulI hj
def combM : MF := runF 7 (sSeq (sSet 3 (mF fMax2 (maC (mF fLen (maC (m2 fIx (mV 0) (mC (.int 0))) (maN))) (maC (mF fLen (maC (m2 fIx (mV 1) (mC (.int 0))) (maN))) (maN))))) (sSeq (sSet 4 (mF fLcm (maC (mF fLen (maC (m2 fIx (mV 0) (mC (.int 1))) (maN))) (maC (mF fLen (maC (m2 fIx (mV 1) (mC (.int 1))) (maN))) (maN))))) (sSeq (sSet 5 (mLst true (maN))) (sSeq (sFor (iRange1 (maC (m2 (fAdd false) (mV 3) (mV 4)) (maN))) (gNm 6) (sExpr (mM "list" fAppend (mV 5) (maC (m2 (fAdd false) (mCall 2 letterM (maC (mV 0) (maC (mV 6) (maN)))) (m2 (fMul false) (mV 2) (mCall 2 letterM (maC (mV 1) (maC (mV 6) (maN)))))) (maN))))) (sRet (mCall 2 shortM (maC (mSl (fSl false) (mV 5) (moN) (moS (mV 3))) (maC (mSl (fSl false) (mV 5) (moS (mV 3)) (moN)) (maN)))))))))
def jointM : MF := runF 7 (sSeq (sSet 3 (mF fMax2 (maC (mF fLen (maC (m2 fIx (mV 0) (mC (.int 0))) (maN))) (maC (mF fLen (maC (m2 fIx (mV 1) (mC (.int 0))) (maN))) (maN))))) (sSeq (sSet 4 (m2 (fMul false) (mF fLen (maC (m2 fIx (mV 0) (mC (.int 1))) (maN))) (mF fLen (maC (m2 fIx (mV 1) (mC (.int 1))) (maN))))) (sSeq (sSet 5 (mLst true (maN))) (sSeq (sFor (iRange1 (maC (m2 (fAdd false) (mV 3) (mV 4)) (maN))) (gNm 6) (sExpr (mM "list" fAppend (mV 5) (maC (m2 (fAdd false) (mCall 2 atM (maC (mV 0) (maC (mV 6) (maN)))) (m2 (fMul false) (mV 2) (mCall 2 atM (maC (mV 1) (maC (mV 6) (maN)))))) (maN))))) (sRet (mTup (maC (mF fTuple (maC (mSl (fSl false) (mV 5) (moN) (moS (mV 3))) (maN))) (maC (mF fTuple (maC (mSl (fSl false) (mV 5) (moS (mV 3)) (moN)) (maN))) (maN)))))))))
def cw (a b c d : List Int) (k : Int) (t : Nat) : Int := lw a b t + k * lw c d t
theorem cw_per {a b c d : List Int} {k : Int} {P m n : Nat} (hm : P = b.length * m) (hn : P = d.length * n) : PerW (cw a b c d k) (max a.length c.length) P := by
  intro t ht
  unfold cw
  have e1 : lw a b (t + P) = lw a b t := by rw [hm]; exact lw_per.mul m t (by omega)
  have e2 : lw c d (t + P) = lw c d t := by rw [hn]; exact lw_per.mul n t (by omega)
  rw [e1, e2]
theorem wtake_take {w : Nat → Int} {n m : Nat} (h : n ≤ m) : (wtake w 0 m).take n = wtake w 0 n := eq_wtake (by rw [List.length_take, wtake_len]; omega) fun i hi => by
  have := wtake_get (w := w) (a := 0) (n := m) (i := i) (by omega)
  rw [← this]
  simp only [List.getD, List.getElem?_take, if_pos hi]
theorem wtake_drop {w : Nat → Int} {n m : Nat} : (wtake w 0 (n + m)).drop n = wtake w n m := eq_wtake (by rw [List.length_drop, wtake_len]; omega) fun i hi => by
  have := wtake_get (w := w) (a := 0) (n := n + m) (i := n + i) (by omega)
  rw [Nat.zero_add] at this
  rw [← this]
  simp only [List.getD, List.getElem?_drop]
theorem wtake_succ {w : Nat → Int} {n : Nat} : wtake w 0 (n + 1) = wtake w 0 n ++ [w n] := by
  unfold wtake
  rw [List.range_succ, List.map_append]
  simp
theorem combM_ok {a b c d : List Int} {k : Int} {h : MH} (hb : b ≠ []) (hd : d ≠ []) (b1 : a.length < 100) (b2 : b.length < 100) (b3 : c.length < 100) (b4 : d.length < 100) (hs : ∀ x ∈ c ++ d, 0 ≤ x ∧ x < 100) :
    ∃ v h', Short (cw a b c d k) v (max a.length c.length) (Nat.lcm b.length d.length) ∧ (∀ (n : Nat) x, h[n]? = some x → h'[n]? = some x) ∧ combM [lasso a b, lasso c d, .int k] h = .ok v h' := by
  suffices g : Does (fun v h' => Short (cw a b c d k) v (max a.length c.length) (Nat.lcm b.length d.length) ∧ (∀ (n : Nat) x, h[n]? = some x → h'[n]? = some x)) (combM [lasso a b, lasso c d, .int k] h) by
    obtain ⟨v, h', e, q1, q2⟩ := g
    exact ⟨v, h', q1, q2, e⟩
  have hb2 : 0 < b.length := List.length_pos_iff.mpr hb
  have hd2 : 0 < d.length := List.length_pos_iff.mpr hd
  have hlw : ∀ t, 0 ≤ lw c d t ∧ lw c d t < 100 := lw_all hd hs
  have hP0 : 0 < Nat.lcm b.length d.length := Nat.lcm_pos hb2 hd2
  have hP1 : Nat.lcm b.length d.length ≤ b.length * d.length := Nat.le_of_dvd (Nat.mul_pos hb2 hd2) (Nat.lcm_dvd (Nat.dvd_mul_right ..) (Nat.dvd_mul_left ..))
  have hP2 : b.length * d.length ≤ 99 * 99 := Nat.mul_le_mul (by omega) (by omega)
  obtain ⟨m, hm⟩ := Nat.dvd_lcm_left b.length d.length
  obtain ⟨n, hn⟩ := Nat.dvd_lcm_right b.length d.length
  have per := cw_per (a := a) (c := c) (k := k) hm hn
  unfold combM
  refine runF_does ?_
  walk_at "nf"
  have e0 := fun h => @la_0 a b h
  have e1 := fun h => @la_1 a b h
  have e2 := fun h => @la_0 c d h
  have e3 := fun h => @la_1 c d h
  have x0 := e0 h
  have x1 := e1 h
  have x2 := e2 h
  have x3 := e3 h
  have n0 := SeqV.len (h := h) (SeqV.T (ns := a))
  have n1 := SeqV.len (h := h) (SeqV.T (ns := b))
  have n2 := SeqV.len (h := h) (SeqV.T (ns := c))
  have n3 := SeqV.len (h := h) (SeqV.T (ns := d))
  walk_at "set"
  have hB : (if (c.length : Int) > (a.length : Int) then (c.length : Int) else (a.length : Int)) = ((max a.length c.length : Nat) : Int) := by split <;> omega
  rw [hB]
  have fl : fLcm [.int (b.length : Int), .int (d.length : Int)] h = .ok (.int ((Nat.lcm b.length d.length : Nat) : Int)) h := by
    unfold fLcm
    simp only
    rw [if_pos ⟨by rw [Int.natAbs_natCast]; omega, by rw [Int.natAbs_natCast]; omega⟩, Int.natAbs_natCast, Int.natAbs_natCast]
  walk_at "set"
  generalize hPP : Nat.lcm b.length d.length = P at *
  generalize hBB : max a.length c.length = B at *
  walk_at "set"
  refine en_seq ?_
  refine' en_for ?e ?_
  case e => walk_at "ev"
  refine en_forL (fun j env hh => (∃ o, env = [some (lasso a b), some (lasso c d), some (.int k), some (.int B), some (.int P), some (.ref h.length), o]) ∧ hh[h.length]? = some (.lst (nums (wtake (cw a b c d k) 0 j))) ∧ ∀ (n : Nat) x, h[n]? = some x → hh[n]? = some x) ?_ ?_ ?_
  · exact ⟨⟨_, rfl⟩, app_same, fun n x e => app_old e⟩
  · rintro j v env hh hx ⟨⟨o, rfl⟩, hc, hold⟩
    obtain ⟨rfl, hj⟩ := rangeM_get hx
    show Ends _ (sExpr _ [some (lasso a b), some (lasso c d), some (.int k), some (.int B), some (.int P), some (.ref h.length), some (.int (0 + j))] hh)
    have l1 := letterM_ok (hs := a) (ls := b) (t := 0 + (j : Int)) (h := hh) (by omega) hb
    have l2 := letterM_ok (hs := c) (ls := d) (t := 0 + (j : Int)) (h := hh) (by omega) hd
    have z : (0 + (j : Int)).toNat = j := by omega
    rw [z] at l1 l2
    have m1 := f_mulI (m := k) (n := lw c d j) (h := hh) (.inr (by have := hlw j; omega))
    have ap := f_app (y := .int (lw a b j + k * lw c d j)) hc (sz_lt (by rw [List.length_map, wtake_len]; omega))
    refine' en_expr ?e ?_
    case e => walk_at "ev"
    refine ⟨⟨_, rfl⟩, ?_, fun n x e => set_other (by have := lt_of_get e; omega) (hold n x e)⟩
    rw [wtake_succ]
    have : nums (wtake (cw a b c d k) 0 j ++ [cw a b c d k j]) = nums (wtake (cw a b c d k) 0 j) ++ [.int (lw a b j + k * lw c d j)] := by unfold nums; rw [List.map_append]; rfl
    rw [this]
    exact set_same hc
  · rintro env hh ⟨⟨o, rfl⟩, hc, hold⟩
    rw [rangeM_len, show ((B : Int) + (P : Int)).toNat = B + P by omega] at hc
    have s1 : fSl false (.ref h.length) none (some (B : Int)) hh = .ok (.fl (nums (wtake (cw a b c d k) 0 B))) hh := by rw [f_slR hc, cut_hi (by omega), Int.toNat_natCast, wtake_take (by omega)]; rfl
    have s2 : fSl false (.ref h.length) (some (B : Int)) none hh = .ok (.fl (nums (wtake (cw a b c d k) B P))) hh := by rw [f_slR hc, cut_lo (by omega), Int.toNat_natCast, wtake_drop]; rfl
    obtain ⟨v, S, e⟩ := shortM_ok (h := hh) (SeqV.F (ns := wtake (cw a b c d k) 0 B)) (SeqV.F (ns := wtake (cw a b c d k) B P)) (ne_of_len (by rw [wtake_len]; omega)) (by rw [wtake_len]; omega) (by rw [wtake_len]; omega)
    refine' en_ret ?e ?_
    case e => walk_at "ev"
    exact ⟨_, _, rfl, S.congr (lw_wtake per (by omega)) (by rw [wtake_len]; omega) (by rw [wtake_len]; omega), hold⟩
theorem jointM_ok {a b c d : List Int} {k : Int} {h : MH} (hb : b ≠ []) (hd : d ≠ []) (b1 : a.length < 100) (b2 : b.length < 100) (b3 : c.length < 100) (b4 : d.length < 100) (hs : ∀ x ∈ c ++ d, 0 ≤ x ∧ x < 100) :
    ∃ h', jointM [lasso a b, lasso c d, .int k] h = .ok (lasso (wtake (cw a b c d k) 0 (max a.length c.length)) (wtake (cw a b c d k) (max a.length c.length) (b.length * d.length))) h' ∧ ∀ (n : Nat) x, h[n]? = some x → h'[n]? = some x := by
  suffices g : Does (fun v h' => v = lasso (wtake (cw a b c d k) 0 (max a.length c.length)) (wtake (cw a b c d k) (max a.length c.length) (b.length * d.length)) ∧ ∀ (n : Nat) x, h[n]? = some x → h'[n]? = some x) (jointM [lasso a b, lasso c d, .int k] h) by
    obtain ⟨v, h', e, rfl, r⟩ := g
    exact ⟨h', e, r⟩
  have hlw : ∀ t, 0 ≤ lw c d t ∧ lw c d t < 100 := lw_all hd hs
  have hP2 : b.length * d.length ≤ 99 * 99 := Nat.mul_le_mul (by omega) (by omega)
  unfold jointM
  refine runF_does ?_
  walk_at "nf"
  have x0 := @la_0 a b h
  have x1 := @la_1 a b h
  have x2 := @la_0 c d h
  have x3 := @la_1 c d h
  have n0 := SeqV.len (h := h) (SeqV.T (ns := a))
  have n1 := SeqV.len (h := h) (SeqV.T (ns := b))
  have n2 := SeqV.len (h := h) (SeqV.T (ns := c))
  have n3 := SeqV.len (h := h) (SeqV.T (ns := d))
  walk_at "set"
  have hB : (if (c.length : Int) > (a.length : Int) then (c.length : Int) else (a.length : Int)) = ((max a.length c.length : Nat) : Int) := by split <;> omega
  rw [hB]
  have fl : fMul false (.int (b.length : Int)) (.int (d.length : Int)) h = .ok (.int ((b.length * d.length : Nat) : Int)) h := by
    rw [f_mulI (.inl (by omega)), Int.natCast_mul]
  walk_at "set"
  generalize hPP : b.length * d.length = P at *
  generalize hBB : max a.length c.length = B at *
  walk_at "set"
  refine en_seq ?_
  refine' en_for ?e ?_
  case e => walk_at "ev"
  refine en_forL (fun j env hh => (∃ o, env = [some (lasso a b), some (lasso c d), some (.int k), some (.int B), some (.int P), some (.ref h.length), o]) ∧ hh[h.length]? = some (.lst (nums (wtake (cw a b c d k) 0 j))) ∧ ∀ (n : Nat) x, h[n]? = some x → hh[n]? = some x) ?_ ?_ ?_
  · exact ⟨⟨_, rfl⟩, app_same, fun n c e => app_old e⟩
  · rintro j v env hh hx ⟨⟨o, rfl⟩, hc, hold⟩
    obtain ⟨rfl, hj⟩ := rangeM_get hx
    show Ends _ (sExpr _ [some (lasso a b), some (lasso c d), some (.int k), some (.int B), some (.int P), some (.ref h.length), some (.int (0 + j))] hh)
    have l1 := atM_ok (hs := a) (ls := b) (t := 0 + (j : Int)) (h := hh) (by omega) hb
    have l2 := atM_ok (hs := c) (ls := d) (t := 0 + (j : Int)) (h := hh) (by omega) hd
    have z : (0 + (j : Int)).toNat = j := by omega
    rw [z] at l1 l2
    have m1 := f_mulI (m := k) (n := lw c d j) (h := hh) (.inr (by have := hlw j; omega))
    have ap := f_app (y := .int (lw a b j + k * lw c d j)) hc (sz_lt (by rw [List.length_map, wtake_len]; omega))
    refine' en_expr ?e ?_
    case e => walk_at "ev"
    refine ⟨⟨_, rfl⟩, ?_, fun n x e => set_other (by have := lt_of_get e; omega) (hold n x e)⟩
    rw [wtake_succ]
    have : nums (wtake (cw a b c d k) 0 j ++ [cw a b c d k j]) = nums (wtake (cw a b c d k) 0 j) ++ [.int (lw a b j + k * lw c d j)] := by unfold nums; rw [List.map_append]; rfl
    rw [this]
    exact set_same hc
  · rintro env hh ⟨⟨o, rfl⟩, hc, hold⟩
    rw [rangeM_len, show ((B : Int) + (P : Int)).toNat = B + P by omega] at hc
    have s1 : fSl false (.ref h.length) none (some (B : Int)) hh = .ok (.fl (nums (wtake (cw a b c d k) 0 B))) hh := by rw [f_slR hc, cut_hi (by omega), Int.toNat_natCast, wtake_take (by omega)]; rfl
    have s2 : fSl false (.ref h.length) (some (B : Int)) none hh = .ok (.fl (nums (wtake (cw a b c d k) B P))) hh := by rw [f_slR hc, cut_lo (by omega), Int.toNat_natCast, wtake_drop]; rfl
    refine' en_ret ?e ?_
    case e => walk_at "ev"
    exact ⟨_, _, rfl, rfl, hold⟩

def msaidM : MF := runF 6 (sSeq (sSet 4 (mCall 2 mlemM (maC (mV 0) (maC (mV 3) (maN))))) (sSeq (sIf (mT (m2 fLe (mV 2) (mC (.int 0)))) (sRet (mTup (maC (m2 (fAdd false) (mF fTuple (maC (mV 1) (maN))) (m2 fIx (mV 4) (mC (.int 0)))) (maC (m2 fIx (mV 4) (mC (.int 1))) (maN))))) (sNil)) (sSeq (sSet 5 (m2 (fAdd false) (m2 fIx (mV 4) (mC (.int 0))) (m2 (fMulX false) (m2 fIx (mV 4) (mC (.int 1))) (mV 2)))) (sRet (mTup (maC (mSl (fSl false) (mV 5) (moS (mV 2)) (moN)) (maC (m2 fIx (mV 4) (mC (.int 1))) (maN))))))))
theorem msaidM_ok {I O l : Int} {op : List Int} {rw : List (List (Int × Int))} {hs ls : List Int} {h : MH} {q : Nat} {ps : List Nat} (V : VM I O l op rw) (M : MRows h q rw ps) (hl : ls ≠ []) (hz : hs.length ≤ 4 ∧ ls.length ≤ 4) (hN : rw.length ≤ 4) (hr : ∀ x ∈ hs ++ ls, 0 ≤ x ∧ x < I) :
    ∃ X Y h', msaidM [.ref q, .fl (nums op), .int l, lasso hs ls] h = .ok (lasso X Y) h' ∧ Y ≠ [] ∧ (∀ t, lw X Y t = rsp l op (em rw (lw hs ls)) t) ∧ X.length < 100 ∧ Y.length < 100 ∧ ∀ (n : Nat) c, h[n]? = some c → h'[n]? = some c := by
  suffices g : Does (fun v h' => ∃ X Y, v = lasso X Y ∧ Y ≠ [] ∧ (∀ t, lw X Y t = rsp l op (em rw (lw hs ls)) t) ∧ X.length < 100 ∧ Y.length < 100 ∧ ∀ (n : Nat) c, h[n]? = some c → h'[n]? = some c) (msaidM [.ref q, .fl (nums op), .int l, lasso hs ls] h) by
    obtain ⟨v, h', e, X, Y, rfl, r⟩ := g
    exact ⟨X, Y, h', e, r⟩
  have v6 := V.opl
  have v3 := V.l0
  have v4 := V.l1
  obtain ⟨b, p, h1, e1, hp, P, bp, old⟩ := mlemM_ok (h := h) V M hl (by omega) (by omega) hr
  have hB : ls.length * rw.length ≤ 4 * 4 := Nat.mul_le_mul (by omega) (by omega)
  generalize ls.length * rw.length = B at *
  generalize em rw (lw hs ls) = e at *
  unfold msaidM
  refine runF_does ?_
  walk_at "nf"
  walk_at "set"
  have x0 := @la_0 (wtake e 0 b) (wtake e b p) h1
  have x1 := @la_1 (wtake e 0 b) (wtake e b p) h1
  refine en_seq ?_
  refine' en_if (v := decide (l ≤ 0)) ?e ?_ ?_
  case e => exact ev_T (by walk_at "ev")
  · intro z
    have z : l ≤ 0 := by simpa using z
    have tp := (SeqV.F (ns := op)).tup (h := h1)
    have ad : fAdd false (.tup (nums op)) (.tup (nums (wtake e 0 b))) h1 = .ok (.tup (nums (op ++ wtake e 0 b))) h1 := by
      rw [f_addT (sz_small (by simp only [List.length_map, wtake_len]; split at v6 <;> omega))]; simp
    refine' en_ret (d := lasso (op ++ wtake e 0 b) (wtake e b p)) (h1 := h1) ?e ?_
    case e => exact ev_tup (ev_Cs (h1 := h1) (by walk_at "ev") (ev_Cs (h1 := h1) (by walk_at "ev") ev_N)) (sz_small (by simp))
    have hw := rsp_word v6 P hp (show l ≤ (b : Int) by omega)
    rw [show l.toNat = 0 by omega, List.drop_zero] at hw
    exact ⟨_, _, rfl, _, _, rfl, ne_of_len (by rw [wtake_len]; exact hp), hw, by rw [List.length_append, wtake_len]; split at v6 <;> omega, by rw [wtake_len]; omega, old⟩
  · intro z
    have z : ¬ l ≤ 0 := by simpa using z
    refine en_nil ?_
    have ho : op = [] := by
      apply List.length_eq_zero_iff.mp
      rw [if_neg (by omega)] at v6
      omega
    obtain ⟨m, rfl⟩ : ∃ m : Nat, l = m := ⟨l.toNat, by omega⟩
    have hm : m = 1 ∨ m = 2 := by omega
    have ml : fMulX false (.tup (nums (wtake e b p))) (.int (m : Int)) h1 = .ok (.tup (nums (wtake e b (p * m)))) h1 := by
      rcases hm with rfl | rfl
      · rw [Nat.mul_one]; rfl
      · have hne : nums (wtake e b p) ≠ [] := by
          intro z
          have := congrArg List.length z
          rw [List.length_map, wtake_len, List.length_nil] at this
          omega
        have e2 : (List.replicate 2 (nums (wtake e b p))).flatten = nums (wtake e b (p * 2)) := by
          rw [flat_nums]
          congr 1
          show wtake e b p ++ (wtake e b p ++ []) = _
          rw [List.append_nil]
          refine eq_wtake (by rw [List.length_append, wtake_len]; omega) fun i hi => ?_
          rw [getD_app, wtake_len]
          split
          · rename_i c; exact wtake_get c
          · rename_i c
            rw [wtake_get (by omega), show b + i = b + (i - p) + p by omega, P _ (by omega)]
        unfold fMulX
        simp only
        rw [if_neg (by omega)]
        unfold fMul
        simp only
        rw [if_pos ⟨hne, by omega, by omega, by rw [List.length_map, wtake_len]; omega⟩]
        show Out.ok (MV.tup (List.replicate 2 (nums (wtake e b p))).flatten) h1 = _
        rw [e2]
    have hpm : p * m ≤ 40 := by rcases hm with rfl | rfl <;> omega
    have hpm1 : m ≤ p * m := by rcases hm with rfl | rfl <;> omega
    have ad : fAdd false (.tup (nums (wtake e 0 b))) (.tup (nums (wtake e b (p * m)))) h1 = .ok (.tup (nums (wtake e 0 (b + p * m)))) h1 := by
      rw [f_addT (sz_small (by simp only [List.length_map, wtake_len]; omega)), ← wtake_app]; simp
    walk_at "set"
    have s1 : fSl false (.tup (nums (wtake e 0 (b + p * m)))) (some (m : Int)) none h1 = .ok (.tup (nums ((wtake e 0 (b + p * m)).drop m))) h1 := by rw [f_slT, cut_lo (by omega), Int.toNat_natCast]
    refine' en_ret (d := lasso ((wtake e 0 (b + p * m)).drop m) (wtake e b p)) (h1 := h1) ?e ?_
    case e => exact ev_tup (ev_Cs (h1 := h1) (by walk_at "ev") (ev_Cs (h1 := h1) (by walk_at "ev") ev_N)) (sz_small (by simp))
    have sh : wtake e b p = wtake e (b + p * m) p := eq_wtake wtake_len fun i hi => by
      rw [wtake_get hi, show b + p * m + i = b + i + p * m by omega, P.mul m _ (by omega)]
    have hw := rsp_word (l := (m : Int)) v6 (P.mono (show b ≤ b + p * m by omega)) hp (show (m : Int) ≤ ((b + p * m : Nat) : Int) by omega)
    rw [Int.toNat_natCast, ← sh, ho, List.nil_append] at hw
    refine ⟨_, _, rfl, _, _, rfl, ne_of_len (by rw [wtake_len]; exact hp), fun t => by rw [hw t, ho], by rw [List.length_drop, wtake_len]; omega, by rw [wtake_len]; omega, old⟩
def traceM : MF := runF 2 (sRet (mCall 3 combM (maC (mV 1) (maC (mCall 2 respM (maC (mV 0) (maC (mV 1) (maN)))) (maC (m1 (fFld tabMa "inputs") (mV 0)) (maN))))))
theorem traceM_ok {I O l : Int} {op : List Int} {rw : List (List (Int × Int))} {hs ls : List Int} {h : MH} (V : VM I O l op rw) (hO : O ≤ 50) (hl : ls ≠ []) (hz : hs.length ≤ 4 ∧ ls.length ≤ 4) (hN : rw.length ≤ 4) (hr : ∀ x ∈ hs ++ ls, 0 ≤ x ∧ x < I) :
    ∃ v h', traceM [ma I O l op rw, lasso hs ls] h = .ok v h' ∧ Short (fun t => lw hs ls t + I * rsp l op (em rw (lw hs ls)) t) v 100 400 ∧ ∀ (n : Nat) c, h[n]? = some c → h'[n]? = some c := by
  have hw : ∀ t, 0 ≤ lw hs ls t ∧ lw hs ls t < I := lw_all hl hr
  have v6 := V.opl
  obtain ⟨v1, h1, r1, S1, k1⟩ := respM_ok (hs := hs) (ls := ls) (h := h) V hl (by omega) (by omega) hr
  have hB : ls.length * rw.length ≤ 4 * 4 := Nat.mul_le_mul (by omega) (by omega)
  obtain ⟨n, p, nf, nl, pl, rfl⟩ := S1.ex
  have rng : ∀ t, 0 ≤ rsp l op (em rw (lw hs ls)) t ∧ rsp l op (em rw (lw hs ls)) t < O := fun t => by
    unfold rsp
    split
    · rename_i c
      have : t < op.length := by split at v6 <;> omega
      rw [List.getD, List.getElem?_eq_getElem this]
      exact V.opr _ (List.getElem_mem this)
    · obtain ⟨q0, q1⟩ := est_in V (w := lw hs ls) (n := ((t : Int) + l).toNat) (fun u _ => hw u) _ (Nat.le_refl _)
      exact (mst_in V q0 q1 (hw _).1 (hw _).2).2
  generalize hR : rsp l op (em rw (lw hs ls)) = R at *
  obtain ⟨v, h2, S2, k2, cE⟩ := combM_ok (a := hs) (b := ls) (c := wtake R 0 n) (d := wtake R n p) (k := I) (h := h1) hl (ne_of_len (by rw [wtake_len]; exact nf.pos)) (by omega) (by omega) (by rw [wtake_len]; omega) (by rw [wtake_len]; omega) (fun x hx => by
    rcases List.mem_append.mp hx with hx | hx
    · obtain ⟨i, _, rfl⟩ := wtake_mem hx; have := rng (0 + i); omega
    · obtain ⟨i, _, rfl⟩ := wtake_mem hx; have := rng (n + i); omega)
  refine ⟨v, h2, ?_, S2.congr (fun t => by show lw hs ls t + I * lw (wtake R 0 n) (wtake R n p) t = _; rw [lw_wtake nf.per nf.pos]) (by rw [wtake_len]; omega) ?_, fun n c e => k2 _ _ (k1 _ _ e)⟩
  · unfold traceM
    refine runF_ends (P := fun o => o = _) ?_
    walk_at "nf"
    have fI := ma_inputs (I := I) (O := O) (l := l) (op := op) (rw := rw) (h := h1)
    refine' en_ret ?e ?_
    case e => walk_at "ev"
    rfl
  · rw [wtake_len]
    have h1 : Nat.lcm ls.length p ≤ ls.length * p := Nat.le_of_dvd (Nat.mul_pos (List.length_pos_iff.mpr hl) nf.pos) (Nat.lcm_dvd (Nat.dvd_mul_right ..) (Nat.dvd_mul_left ..))
    have h2 : ls.length * p ≤ 4 * 100 := Nat.mul_le_mul (by omega) (by omega)
    omega
end K39
/-! ## K39 -/
set_option Elab.async false
set_option linter.all false
set_option maxRecDepth 100000
set_option maxHeartbeats 4000000
namespace K39
open PySem PySem.Spec PyProof.Rows L2 Mn
def tabC : CTab := [("Machine", ["inputs", "outputs", "lead", "opening", "rows"])]
/-! ### the text -/
def topS (i : Nat) : Stmt := PySem.Challenge.pw_reactivesynth_k39_respond_and_trace.main.body.getD i (.Pass ⟨0, 0, 0, 0⟩)
abbrev s_all_below : Stmt := topS 12
theorem sc_all_below : FnScope ["numbers", "limit", "number"] ["numbers", "limit"] (defScope s_all_below) := ⟨rfl, rfl, rfl, by decide +kernel, rfl, by decide +kernel, by decide +kernel⟩
abbrev s_Machine_init : Stmt := inClass (topS 14) 0
theorem sc_Machine_init : FnScope ["self", "inputs", "outputs", "lead", "opening", "rows", "valid", "row", "pair"] ["self", "inputs", "outputs", "lead", "opening", "rows"] (defScope s_Machine_init) := ⟨rfl, rfl, rfl, by decide +kernel, rfl, by decide +kernel, by decide +kernel⟩
abbrev s_emissions : Stmt := topS 15
theorem sc_emissions : FnScope ["machine", "heard", "state", "found", "letter", "emitted"] ["machine", "heard"] (defScope s_emissions) := ⟨rfl, rfl, rfl, by decide +kernel, rfl, by decide +kernel, by decide +kernel⟩
abbrev s_Machine_call : Stmt := inClass (topS 14) 1
theorem sc_Machine_call : FnScope ["self", "heard", "emitted"] ["self", "heard"] (defScope s_Machine_call) := ⟨rfl, rfl, rfl, by decide +kernel, rfl, by decide +kernel, by decide +kernel⟩
abbrev s_law_draws : Stmt := topS 20
theorem sc_law_draws : FnScope ["_law_script", "_law_count", "_law_cells", "_law_found", "_law_mixed", "_law_k", "_law_j", "_law_cell", "_law_again"] ["_law_script", "_law_count"] (defScope s_law_draws) := ⟨rfl, rfl, rfl, by decide +kernel, rfl, by decide +kernel, by decide +kernel⟩
abbrev s_law_take : Stmt := topS 21
theorem sc_law_take : FnScope ["_law_draws_here", "_law_limit"] ["_law_draws_here", "_law_limit"] (defScope s_law_take) := ⟨rfl, rfl, rfl, by decide +kernel, rfl, by decide +kernel, by decide +kernel⟩
abbrev s_law_is_integer : Stmt := topS 22
theorem sc_law_is_integer : FnScope ["_law_actual"] ["_law_actual"] (defScope s_law_is_integer) := ⟨rfl, rfl, rfl, by decide +kernel, rfl, by decide +kernel, by decide +kernel⟩
abbrev s_law_integers : Stmt := topS 23
theorem sc_law_integers : FnScope ["_law_actual", "_law_low", "_law_high", "_law_item"] ["_law_actual", "_law_low", "_law_high"] (defScope s_law_integers) := ⟨rfl, rfl, rfl, by decide +kernel, rfl, by decide +kernel, by decide +kernel⟩
abbrev s_law_normal : Stmt := topS 24
theorem sc_law_normal : FnScope ["_law_lasso_here", "_law_head", "_law_loop", "_law_period"] ["_law_lasso_here"] (defScope s_law_normal) := ⟨rfl, rfl, rfl, by decide +kernel, rfl, by decide +kernel, by decide +kernel⟩
abbrev s_law_is_lasso : Stmt := topS 25
theorem sc_law_is_lasso : FnScope ["_law_actual", "_law_letters"] ["_law_actual", "_law_letters"] (defScope s_law_is_lasso) := ⟨rfl, rfl, rfl, by decide +kernel, rfl, by decide +kernel, by decide +kernel⟩
abbrev s_law_at : Stmt := topS 26
theorem sc_law_at : FnScope ["_law_lasso_here", "_law_turn"] ["_law_lasso_here", "_law_turn"] (defScope s_law_at) := ⟨rfl, rfl, rfl, by decide +kernel, rfl, by decide +kernel, by decide +kernel⟩
abbrev s_law_same : Stmt := topS 27
theorem sc_law_same : FnScope ["_law_first", "_law_second", "_law_limit", "_law_turn"] ["_law_first", "_law_second"] (defScope s_law_same) := ⟨rfl, rfl, rfl, by decide +kernel, rfl, by decide +kernel, by decide +kernel⟩
abbrev s_law_lasso : Stmt := topS 28
theorem sc_law_lasso : FnScope ["_law_draws_here", "_law_letters", "_law_longest", "_law_head", "_law_k", "_law_loop"] ["_law_draws_here", "_law_letters", "_law_longest"] (defScope s_law_lasso) := ⟨rfl, rfl, rfl, by decide +kernel, rfl, by decide +kernel, by decide +kernel⟩
abbrev s_law_flat : Stmt := topS 29
theorem sc_law_flat : FnScope ["_law_rows", "_law_row"] ["_law_rows"] (defScope s_law_flat) := ⟨rfl, rfl, rfl, by decide +kernel, rfl, by decide +kernel, by decide +kernel⟩
abbrev s_law_machine : Stmt := topS 30
theorem sc_law_machine : FnScope ["_law_draws_here", "_law_inputs", "_law_outputs", "_law_lead", "_law_most", "_law_count", "_law_opening", "_law_k", "_law_rows", "_law_state", "_law_row", "_law_letter", "_law_target"] ["_law_draws_here", "_law_inputs", "_law_outputs", "_law_lead", "_law_most"] (defScope s_law_machine) := ⟨rfl, rfl, rfl, by decide +kernel, rfl, by decide +kernel, by decide +kernel⟩
abbrev s_law_emissions : Stmt := topS 31
theorem sc_law_emissions : FnScope ["_law_rows", "_law_lasso_here", "_law_found", "_law_state", "_law_letter", "_law_begins", "_law_turn"] ["_law_rows", "_law_lasso_here"] (defScope s_law_emissions) := ⟨rfl, rfl, rfl, by decide +kernel, rfl, by decide +kernel, by decide +kernel⟩
abbrev s_law_said : Stmt := topS 32
theorem sc_law_said : FnScope ["_law_rows", "_law_opening", "_law_lead", "_law_lasso_here", "_law_emitted", "_law_head"] ["_law_rows", "_law_opening", "_law_lead", "_law_lasso_here"] (defScope s_law_said) := ⟨rfl, rfl, rfl, by decide +kernel, rfl, by decide +kernel, by decide +kernel⟩
abbrev s_law_joint : Stmt := topS 33
theorem sc_law_joint : FnScope ["_law_first", "_law_second", "_law_factor", "_law_begin", "_law_period", "_law_letters", "_law_turn"] ["_law_first", "_law_second", "_law_factor"] (defScope s_law_joint) := ⟨rfl, rfl, rfl, by decide +kernel, rfl, by decide +kernel, by decide +kernel⟩
abbrev s_repeats : Stmt := topS 6
theorem sc_repeats : FnScope ["loop", "period", "k"] ["loop", "period"] (defScope s_repeats) := ⟨rfl, rfl, rfl, by decide +kernel, rfl, by decide +kernel, by decide +kernel⟩
abbrev s_shortest : Stmt := topS 7
theorem sc_shortest : FnScope ["head", "loop", "period", "rest", "shift", "begin"] ["head", "loop"] (defScope s_shortest) := ⟨rfl, rfl, rfl, by decide +kernel, rfl, by decide +kernel, by decide +kernel⟩
abbrev s_check_letters : Stmt := topS 10
theorem sc_check_letters : FnScope ["lasso", "letters", "letter"] ["lasso", "letters"] (defScope s_check_letters) := ⟨rfl, rfl, rfl, by decide +kernel, rfl, by decide +kernel, by decide +kernel⟩
abbrev s_emission_lasso : Stmt := topS 16
theorem sc_emission_lasso : FnScope ["machine", "lasso", "head", "loop", "found", "begins", "state", "letter", "emitted"] ["machine", "lasso"] (defScope s_emission_lasso) := ⟨rfl, rfl, rfl, by decide +kernel, rfl, by decide +kernel, by decide +kernel⟩
abbrev s_respond : Stmt := topS 17
theorem sc_respond : FnScope ["machine", "lasso", "head", "loop"] ["machine", "lasso"] (defScope s_respond) := ⟨rfl, rfl, rfl, by decide +kernel, rfl, by decide +kernel, by decide +kernel⟩
abbrev s_letter_in : Stmt := topS 8
theorem sc_letter_in : FnScope ["lasso", "turn", "head", "loop"] ["lasso", "turn"] (defScope s_letter_in) := ⟨rfl, rfl, rfl, by decide +kernel, rfl, by decide +kernel, by decide +kernel⟩
abbrev s_combine : Stmt := topS 9
theorem sc_combine : FnScope ["first", "second", "size", "begin", "period", "letters", "turn"] ["first", "second", "size"] (defScope s_combine) := ⟨rfl, rfl, rfl, by decide +kernel, rfl, by decide +kernel, by decide +kernel⟩
abbrev s_trace : Stmt := topS 18
theorem sc_trace : FnScope ["machine", "lasso"] ["machine", "lasso"] (defScope s_trace) := ⟨rfl, rfl, rfl, by decide +kernel, rfl, by decide +kernel, by decide +kernel⟩
abbrev s_law_outcome : Stmt := topS 34
theorem sc_law_outcome : FnScope ["_law_machine_here", "_law_lasso_here", "_law_found"] ["_law_machine_here", "_law_lasso_here"] (defScope s_law_outcome) := ⟨rfl, rfl, rfl, by decide +kernel, rfl, by decide +kernel, by decide +kernel⟩
abbrev s_law : Stmt := topS 35
theorem sc_law : FnScope ["_law_script", "_law_draws_here", "_law_inputs", "_law_outputs", "_law_lead", "_law_opening", "_law_rows", "_law_machine_here", "_law_lasso_here", "_law_found", "_law_said_here", "_law_heard", "_law_turn"] ["_law_script"] (defScope s_law) := ⟨rfl, rfl, rfl, by decide +kernel, rfl, by decide +kernel, by decide +kernel⟩
/-! ### mirrors -/
/-- all_below: 0 numbers, 1 limit, 2 number -/
def m_all_below : MF := runF 3 (sSeq (sFor (iSeq (mV 0)) (gNm 2) (sIf (tOrM (mT (m2 fLt (mV 2) (mC (.int 0)))) (mT (m2 fGe (mV 2) (mV 1)))) (sRet (mC (.bl false))) (sNil))) (sRet (mC (.bl true))))
/-- Machine_init: 0 self, 1 inputs, 2 outputs, 3 lead, 4 opening, 5 rows, 6 valid, 7 row, 8 pair -/
def m_Machine_init : MF := runF 9 (sSeq (sSet 6 (mAnd (m2 fGe (mV 1) (mC (.int 1))) (mAnd (m2 fGe (mV 2) (mC (.int 1))) (mChain fLe fLe (m1 fNeg (mC (.int 3))) (mV 3) (mC (.int 2)))))) (sSeq (sSet 6 (mAnd (mV 6) (mAnd (m2 (fEq false) (mF fLen (maC (mV 4) (maN))) (mF fMax2 (maC (mC (.int 0)) (maC (m1 fNeg (mV 3)) (maN))))) (m2 fGe (mF fLen (maC (mV 5) (maN))) (mC (.int 1)))))) (sSeq (sSet 6 (mAnd (mV 6) (mCall 2 m_all_below (maC (mV 4) (maC (mV 2) (maN)))))) (sSeq (sFor (iSeq (mV 5)) (gNm 7) (sSeq (sSet 6 (mAnd (mV 6) (m2 (fEq false) (mF fLen (maC (mV 7) (maN))) (mV 1)))) (sSeq (sSet 6 (mAnd (mV 6) (mCall 2 m_all_below (maC (mComp false (iSeq (mV 7)) (gNm 8) (tYesM) (m2 fIx (mV 8) (mC (.int 0))) [8]) (maC (mF fLen (maC (mV 5) (maN))) (maN)))))) (sSet 6 (mAnd (mV 6) (mCall 2 m_all_below (maC (mComp false (iSeq (mV 7)) (gNm 8) (tYesM) (m2 fIx (mV 8) (mC (.int 1))) [8]) (maC (mV 2) (maN))))))))) (sSeq (sIf (tNotM (mT (mV 6))) (sRaise "InvalidMachine") (sNil)) (sSeq (sFldM tabC "inputs" (mV 0) (mV 1)) (sSeq (sFldM tabC "outputs" (mV 0) (mV 2)) (sSeq (sFldM tabC "lead" (mV 0) (mV 3)) (sSeq (sFldM tabC "opening" (mV 0) (mF fTuple (maC (mV 4) (maN)))) (sFldM tabC "rows" (mV 0) (mF fTuple (maC (mComp false (iSeq (mV 5)) (gNm 7) (tYesM) (mF fTuple (maC (mComp false (iSeq (mV 7)) (gNm 8) (tYesM) (mTup (maC (m2 fIx (mV 8) (mC (.int 0))) (maC (m2 fIx (mV 8) (mC (.int 1))) (maN)))) [8]) (maN))) [7]) (maN)))))))))))))
/-- emissions: 0 machine, 1 heard, 2 state, 3 found, 4 letter, 5 emitted -/
def m_emissions : MF := runF 6 (sSeq (sSet 2 (mC (.int 0))) (sSeq (sSet 3 (mLst true (maN))) (sSeq (sFor (iSeq (mV 1)) (gNm 4) (sSeq (sAsg (m2 fIx (m2 fIx (m1 (fFld tabC "rows") (mV 0)) (mV 2)) (mV 4)) (gTup [gNm 2, gNm 5])) (sExpr (mM "list" fAppend (mV 3) (maC (mV 5) (maN)))))) (sRet (mV 3)))))
/-- Machine_call: 0 self, 1 heard, 2 emitted -/
def m_Machine_call : MF := runF 3 (sSeq (sIf (tNotM (mT (mCall 2 m_all_below (maC (mV 1) (maC (m1 (fFld tabC "inputs") (mV 0)) (maN)))))) (sRaise "InvalidLetter") (sNil)) (sSeq (sSet 2 (mCall 2 m_emissions (maC (mV 0) (maC (mV 1) (maN))))) (sSeq (sIf (mT (m2 fGt (m1 (fFld tabC "lead") (mV 0)) (mC (.int 0)))) (sRet (mSl (fSl false) (mV 2) (moS (m1 (fFld tabC "lead") (mV 0))) (moN))) (sNil)) (sRet (m2 (fAdd false) (mF (fList false) (maC (m1 (fFld tabC "opening") (mV 0)) (maN))) (mV 2))))))
/-- law_draws: 0 _law_script, 1 _law_count, 2 _law_cells, 3 _law_found, 4 _law_mixed, 5 _law_k, 6 _law_j, 7 _law_cell, 8 _law_again -/
def m_law_draws : MF := runF 9 (sSeq (sSet 2 (mF (fList true) (maC (mV 0) (maN)))) (sSeq (sIf (mT (m2 (fEq false) (mF fLen (maC (mV 2) (maN))) (mC (.int 0)))) (sSet 2 (mLst true (maC (mC (.int 7)) (maN)))) (sNil)) (sSeq (sSet 3 (mLst true (maN))) (sSeq (sSet 4 (mC (.int 12345))) (sSeq (sFor (iRange1 (maC (mV 1) (maN))) (gNm 5) (sSeq (sSet 6 (m2 fMod (mV 5) (mF fLen (maC (mV 2) (maN))))) (sSeq (sSet 7 (m2 fIx (mV 2) (mV 6))) (sSeq (sSet 4 (m2 fMod (mF fInt (maC (m2 (fAdd false) (m2 (fAdd false) (m2 (fAdd false) (m2 (fMul false) (mV 4) (mC (.int 48271))) (m2 (fMul false) (m2 fMod (mF fInt (maC (mV 7) (maN))) (mC (.int 1000003))) (mC (.int 69621)))) (m2 (fMul false) (mV 5) (mC (.int 7919)))) (mC (.int 11))) (maN))) (mC (.int 2147483647)))) (sSeq (sSet 8 (m2 fMod (mF fInt (maC (m2 (fAdd false) (m2 (fAdd false) (m2 (fMul false) (mV 4) (mV 4)) (m2 (fMul false) (mC (.int 31)) (mV 4))) (mV 5)) (maN))) (mC (.int 1000003)))) (sIf (mT (m2 fGe (mV 7) (m2 fPow (mC (.int 10)) (mC (.int 18))))) (sSeq (sExpr (mM "list" fAppend (mV 3) (maC (m2 fMod (mF fInt (maC (mV 7) (maN))) (mC (.int 1000))) (maN)))) (sAsg (m2 fDiv (mV 7) (mC (.int 1000))) (gSb (mV 2) (mV 6) fSetL))) (sExpr (mM "list" fAppend (mV 3) (maC (m2 fMod (mF fInt (maC (mV 8) (maN))) (mC (.int 1000))) (maN)))))))))) (sSeq (sExpr (mM0 "list" fReverse (mV 3))) (sRet (mV 3))))))))
/-- law_take: 0 _law_draws_here, 1 _law_limit -/
def m_law_take : MF := runF 2 (sSeq (sIf (mT (m2 (fEq false) (mF fLen (maC (mV 0) (maN))) (mC (.int 0)))) (sRet (mC (.int 0))) (sNil)) (sRet (m2 fMod (mF fInt (maC (mM0 "list" fPop (mV 0)) (maN))) (mV 1))))
/-- law_is_integer: 0 _law_actual -/
def m_law_is_integer : MF := runF 1 (sRet (mAnd (m1 (fIsi "int") (mV 0)) (mNot (m1 (fIsi "bool") (mV 0)))))
/-- law_integers: 0 _law_actual, 1 _law_low, 2 _law_high, 3 _law_item -/
def m_law_integers : MF := runF 4 (sSeq (sIf (tNotM (mT (m1 (fIsi "tuple") (mV 0)))) (sRet (mC (.bl false))) (sNil)) (sSeq (sFor (iSeq (mV 0)) (gNm 3) (sIf (tOrM (tNotM (mT (mCall 1 m_law_is_integer (maC (mV 3) (maN))))) (tOrM (mT (m2 fLt (mV 3) (mV 1))) (mT (m2 fGe (mV 3) (mV 2))))) (sRet (mC (.bl false))) (sNil))) (sRet (mC (.bl true)))))
/-- law_normal: 0 _law_lasso_here, 1 _law_head, 2 _law_loop, 3 _law_period -/
def m_law_normal : MF := runF 4 (sSeq (sSet 1 (m2 fIx (mV 0) (mC (.int 0)))) (sSeq (sSet 2 (m2 fIx (mV 0) (mC (.int 1)))) (sSeq (sIf (tAndM (mT (m2 fGt (mF fLen (maC (mV 1) (maN))) (mC (.int 0)))) (mT (m2 (fEq false) (m2 fIx (mV 1) (m1 fNeg (mC (.int 1)))) (m2 fIx (mV 2) (m1 fNeg (mC (.int 1))))))) (sRet (mC (.bl false))) (sNil)) (sSeq (sFor (iRange2 (maC (mC (.int 1)) (maC (mF fLen (maC (mV 2) (maN))) (maN)))) (gNm 3) (sIf (tAndM (mT (m2 (fEq false) (m2 fMod (mF fLen (maC (mV 2) (maN))) (mV 3)) (mC (.int 0)))) (mT (m2 (fEq false) (mV 2) (m2 (fMul false) (mSl (fSl false) (mV 2) (moN) (moS (mV 3))) (m2 fDiv (mF fLen (maC (mV 2) (maN))) (mV 3)))))) (sRet (mC (.bl false))) (sNil))) (sRet (mC (.bl true)))))))
/-- law_is_lasso: 0 _law_actual, 1 _law_letters -/
def m_law_is_lasso : MF := runF 2 (sSeq (sIf (tOrM (tNotM (mT (m1 (fIsi "tuple") (mV 0)))) (mT (m2 (fEq true) (mF fLen (maC (mV 0) (maN))) (mC (.int 2))))) (sRet (mC (.bl false))) (sNil)) (sSeq (sIf (tOrM (tNotM (mT (mCall 3 m_law_integers (maC (m2 fIx (mV 0) (mC (.int 0))) (maC (mC (.int 0)) (maC (mV 1) (maN))))))) (tNotM (mT (mCall 3 m_law_integers (maC (m2 fIx (mV 0) (mC (.int 1))) (maC (mC (.int 0)) (maC (mV 1) (maN)))))))) (sRet (mC (.bl false))) (sNil)) (sRet (mAnd (m2 fGt (mF fLen (maC (m2 fIx (mV 0) (mC (.int 1))) (maN))) (mC (.int 0))) (mCall 1 m_law_normal (maC (mV 0) (maN)))))))
/-- law_at: 0 _law_lasso_here, 1 _law_turn -/
def m_law_at : MF := runF 2 (sSeq (sIf (mT (m2 fLt (mV 1) (mF fLen (maC (m2 fIx (mV 0) (mC (.int 0))) (maN))))) (sRet (m2 fIx (m2 fIx (mV 0) (mC (.int 0))) (mV 1))) (sNil)) (sRet (m2 fIx (m2 fIx (mV 0) (mC (.int 1))) (m2 fMod (mF fInt (maC (m2 fSub (mV 1) (mF fLen (maC (m2 fIx (mV 0) (mC (.int 0))) (maN)))) (maN))) (mF fLen (maC (m2 fIx (mV 0) (mC (.int 1))) (maN)))))))
/-- law_same: 0 _law_first, 1 _law_second, 2 _law_limit, 3 _law_turn -/
def m_law_same : MF := runF 4 (sSeq (sSet 2 (m2 (fAdd false) (m2 (fAdd false) (mF fMax2 (maC (mF fLen (maC (m2 fIx (mV 0) (mC (.int 0))) (maN))) (maC (mF fLen (maC (m2 fIx (mV 1) (mC (.int 0))) (maN))) (maN)))) (mF fLen (maC (m2 fIx (mV 0) (mC (.int 1))) (maN)))) (mF fLen (maC (m2 fIx (mV 1) (mC (.int 1))) (maN))))) (sSeq (sFor (iRange1 (maC (mV 2) (maN))) (gNm 3) (sIf (mT (m2 (fEq true) (mCall 2 m_law_at (maC (mV 0) (maC (mV 3) (maN)))) (mCall 2 m_law_at (maC (mV 1) (maC (mV 3) (maN)))))) (sRet (mC (.bl false))) (sNil))) (sRet (mC (.bl true)))))
/-- law_lasso: 0 _law_draws_here, 1 _law_letters, 2 _law_longest, 3 _law_head, 4 _law_k, 5 _law_loop -/
def m_law_lasso : MF := runF 6 (sSeq (sSet 3 (mComp false (iRange1 (maC (mCall 2 m_law_take (maC (mV 0) (maC (m2 (fAdd false) (mV 2) (mC (.int 1))) (maN)))) (maN))) (gNm 4) (tYesM) (mCall 2 m_law_take (maC (mV 0) (maC (mV 1) (maN)))) [4])) (sSeq (sSet 5 (mComp false (iRange1 (maC (m2 (fAdd false) (mC (.int 1)) (mCall 2 m_law_take (maC (mV 0) (maC (mV 2) (maN))))) (maN))) (gNm 4) (tYesM) (mCall 2 m_law_take (maC (mV 0) (maC (mV 1) (maN)))) [4])) (sRet (mTup (maC (mF fTuple (maC (mV 3) (maN))) (maC (mF fTuple (maC (mV 5) (maN))) (maN)))))))
/-- law_flat: 0 _law_rows, 1 _law_row -/
def m_law_flat : MF := runF 2 (sRet (mComp false (iSeq (mV 0)) (gNm 1) (tYesM) (mF (fList false) (maC (mV 1) (maN))) [1]))
/-- law_machine: 0 _law_draws_here, 1 _law_inputs, 2 _law_outputs, 3 _law_lead, 4 _law_most, 5 _law_count, 6 _law_opening, 7 _law_k, 8 _law_rows, 9 _law_state, 10 _law_row, 11 _law_letter, 12 _law_target -/
def m_law_machine : MF := runF 13 (sSeq (sSet 5 (m2 (fAdd false) (mC (.int 1)) (mCall 2 m_law_take (maC (mV 0) (maC (mV 4) (maN)))))) (sSeq (sSet 6 (mComp false (iRange1 (maC (mF fMax2 (maC (mC (.int 0)) (maC (m1 fNeg (mV 3)) (maN)))) (maN))) (gNm 7) (tYesM) (mCall 2 m_law_take (maC (mV 0) (maC (mV 2) (maN)))) [7])) (sSeq (sSet 8 (mLst true (maN))) (sSeq (sFor (iRange1 (maC (mV 5) (maN))) (gNm 9) (sSeq (sSet 10 (mLst true (maN))) (sSeq (sFor (iRange1 (maC (mV 1) (maN))) (gNm 11) (sSeq (sSet 12 (mCall 2 m_law_take (maC (mV 0) (maC (mV 5) (maN))))) (sExpr (mM "list" fAppend (mV 10) (maC (mTup (maC (mV 12) (maC (mCall 2 m_law_take (maC (mV 0) (maC (mV 2) (maN)))) (maN)))) (maN)))))) (sExpr (mM "list" fAppend (mV 8) (maC (mV 10) (maN))))))) (sRet (mTup (maC (mV 6) (maC (mV 8) (maN)))))))))
/-- law_emissions: 0 _law_rows, 1 _law_lasso_here, 2 _law_found, 3 _law_state, 4 _law_letter, 5 _law_begins, 6 _law_turn -/
def m_law_emissions : MF := runF 7 (sSeq (sSet 2 (mLst true (maN))) (sSeq (sSet 3 (mC (.int 0))) (sSeq (sFor (iSeq (m2 fIx (mV 1) (mC (.int 0)))) (gNm 4) (sSeq (sExpr (mM "list" fAppend (mV 2) (maC (m2 fIx (m2 fIx (m2 fIx (mV 0) (mV 3)) (mV 4)) (mC (.int 1))) (maN)))) (sSet 3 (m2 fIx (m2 fIx (m2 fIx (mV 0) (mV 3)) (mV 4)) (mC (.int 0)))))) (sSeq (sSet 5 (m2 (fMul true) (mLst false (maC (m1 fNeg (mC (.int 1))) (maN))) (mF fLen (maC (mV 0) (maN))))) (sSeq (sFor (iRange1 (maC (m2 (fAdd false) (mF fLen (maC (mV 0) (maN))) (mC (.int 1))) (maN))) (gNm 6) (sSeq (sIf (mT (m2 fGe (m2 fIx (mV 5) (mV 3)) (mC (.int 0)))) (sBreak) (sNil)) (sSeq (sAsg (mF fLen (maC (mV 2) (maN))) (gSb (mV 5) (mV 3) fSetL)) (sFor (iSeq (m2 fIx (mV 1) (mC (.int 1)))) (gNm 4) (sSeq (sExpr (mM "list" fAppend (mV 2) (maC (m2 fIx (m2 fIx (m2 fIx (mV 0) (mV 3)) (mV 4)) (mC (.int 1))) (maN)))) (sSet 3 (m2 fIx (m2 fIx (m2 fIx (mV 0) (mV 3)) (mV 4)) (mC (.int 0))))))))) (sRet (mTup (maC (mF fTuple (maC (mSl (fSl false) (mV 2) (moN) (moS (m2 fIx (mV 5) (mV 3)))) (maN))) (maC (mF fTuple (maC (mSl (fSl false) (mV 2) (moS (m2 fIx (mV 5) (mV 3))) (moN)) (maN))) (maN))))))))))
/-- law_said: 0 _law_rows, 1 _law_opening, 2 _law_lead, 3 _law_lasso_here, 4 _law_emitted, 5 _law_head -/
def m_law_said : MF := runF 6 (sSeq (sSet 4 (mCall 2 m_law_emissions (maC (mV 0) (maC (mV 3) (maN))))) (sSeq (sIf (mT (m2 fLe (mV 2) (mC (.int 0)))) (sRet (mTup (maC (m2 (fAdd false) (mF fTuple (maC (mV 1) (maN))) (m2 fIx (mV 4) (mC (.int 0)))) (maC (m2 fIx (mV 4) (mC (.int 1))) (maN))))) (sNil)) (sSeq (sSet 5 (m2 (fAdd false) (m2 fIx (mV 4) (mC (.int 0))) (m2 (fMulX false) (m2 fIx (mV 4) (mC (.int 1))) (mV 2)))) (sRet (mTup (maC (mSl (fSl false) (mV 5) (moS (mV 2)) (moN)) (maC (m2 fIx (mV 4) (mC (.int 1))) (maN))))))))
/-- law_joint: 0 _law_first, 1 _law_second, 2 _law_factor, 3 _law_begin, 4 _law_period, 5 _law_letters, 6 _law_turn -/
def m_law_joint : MF := runF 7 (sSeq (sSet 3 (mF fMax2 (maC (mF fLen (maC (m2 fIx (mV 0) (mC (.int 0))) (maN))) (maC (mF fLen (maC (m2 fIx (mV 1) (mC (.int 0))) (maN))) (maN))))) (sSeq (sSet 4 (m2 (fMul false) (mF fLen (maC (m2 fIx (mV 0) (mC (.int 1))) (maN))) (mF fLen (maC (m2 fIx (mV 1) (mC (.int 1))) (maN))))) (sSeq (sSet 5 (mLst true (maN))) (sSeq (sFor (iRange1 (maC (m2 (fAdd false) (mV 3) (mV 4)) (maN))) (gNm 6) (sExpr (mM "list" fAppend (mV 5) (maC (m2 (fAdd false) (mCall 2 m_law_at (maC (mV 0) (maC (mV 6) (maN)))) (m2 (fMul false) (mV 2) (mCall 2 m_law_at (maC (mV 1) (maC (mV 6) (maN)))))) (maN))))) (sRet (mTup (maC (mF fTuple (maC (mSl (fSl false) (mV 5) (moN) (moS (mV 3))) (maN))) (maC (mF fTuple (maC (mSl (fSl false) (mV 5) (moS (mV 3)) (moN)) (maN))) (maN)))))))))
/-- repeats: 0 loop, 1 period, 2 k -/
def m_repeats : MF := runF 3 (sSeq (sIf (mT (m2 (fEq true) (m2 fMod (mF fLen (maC (mV 0) (maN))) (mV 1)) (mC (.int 0)))) (sRet (mC (.bl false))) (sNil)) (sSeq (sFor (iRange2 (maC (mV 1) (maC (mF fLen (maC (mV 0) (maN))) (maN)))) (gNm 2) (sIf (mT (m2 (fEq true) (m2 fIx (mV 0) (mV 2)) (m2 fIx (mV 0) (m2 fSub (mV 2) (mV 1))))) (sRet (mC (.bl false))) (sNil))) (sRet (mC (.bl true)))))
/-- shortest: 0 head, 1 loop, 2 period, 3 rest, 4 shift, 5 begin -/
def m_shortest : MF := runF 6 (sSeq (sSet 2 (mC (.int 1))) (sSeq (sWhile (tNotM (mT (mCall 2 m_repeats (maC (mV 1) (maC (mV 2) (maN)))))) (sAug 2 fIpAdd (mC (.int 1))) big) (sSeq (sSet 3 (mF fLen (maC (mV 0) (maN)))) (sSeq (sSet 4 (mC (.int 0))) (sSeq (sWhile (tAndM (mT (m2 fGt (mV 3) (mC (.int 0)))) (mT (m2 (fEq false) (m2 fIx (mV 0) (m2 fSub (mV 3) (mC (.int 1)))) (m2 fIx (mV 1) (m2 fMod (m2 fSub (m2 fSub (mV 2) (mC (.int 1))) (mV 4)) (mV 2)))))) (sSeq (sAug 3 fSub (mC (.int 1))) (sSet 4 (m2 fMod (m2 (fAdd false) (mV 4) (mC (.int 1))) (mV 2)))) big) (sSeq (sSet 1 (mF fTuple (maC (mSl (fSl false) (mV 1) (moN) (moS (mV 2))) (maN)))) (sSeq (sSet 5 (m2 fMod (m2 fSub (mV 2) (mV 4)) (mV 2))) (sRet (mTup (maC (mF fTuple (maC (mSl (fSl false) (mV 0) (moN) (moS (mV 3))) (maN))) (maC (m2 (fAdd false) (mSl (fSl false) (mV 1) (moS (mV 5)) (moN)) (mSl (fSl false) (mV 1) (moN) (moS (mV 5)))) (maN))))))))))))
/-- check_letters: 0 lasso, 1 letters, 2 letter -/
def m_check_letters : MF := runF 3 (sFor (iSeq (m2 (fAdd false) (m2 fIx (mV 0) (mC (.int 0))) (m2 fIx (mV 0) (mC (.int 1))))) (gNm 2) (sIf (mT (m2 fGe (mV 2) (mV 1))) (sRaise "InvalidLetter") (sNil)))
/-- emission_lasso: 0 machine, 1 lasso, 2 head, 3 loop, 4 found, 5 begins, 6 state, 7 letter, 8 emitted -/
def m_emission_lasso : MF := runF 9 (sSeq (sAsg (mV 1) (gTup [gNm 2, gNm 3])) (sSeq (sSet 4 (mCall 2 m_emissions (maC (mV 0) (maC (mV 2) (maN))))) (sSeq (sSet 5 (mDict0)) (sSeq (sSet 6 (mC (.int 0))) (sSeq (sFor (iSeq (mV 2)) (gNm 7) (sSet 6 (m2 fIx (m2 fIx (m2 fIx (m1 (fFld tabC "rows") (mV 0)) (mV 6)) (mV 7)) (mC (.int 0))))) (sSeq (sWhile (mT (m2 (fDIn true) (mV 6) (mV 5))) (sSeq (sDPutM (mV 5) (mV 6) (mF fLen (maC (mV 4) (maN)))) (sFor (iSeq (mV 3)) (gNm 7) (sSeq (sAsg (m2 fIx (m2 fIx (m1 (fFld tabC "rows") (mV 0)) (mV 6)) (mV 7)) (gTup [gNm 6, gNm 8])) (sExpr (mM "list" fAppend (mV 4) (maC (mV 8) (maN))))))) big) (sRet (mTup (maC (mF fTuple (maC (mSl (fSl false) (mV 4) (moN) (moS (m2 fDGet (mV 5) (mV 6)))) (maN))) (maC (mF fTuple (maC (mSl (fSl false) (mV 4) (moS (m2 fDGet (mV 5) (mV 6))) (moN)) (maN))) (maN)))))))))))
/-- respond: 0 machine, 1 lasso, 2 head, 3 loop -/
def m_respond : MF := runF 4 (sSeq (sExpr (mCall 2 m_check_letters (maC (mV 1) (maC (m1 (fFld tabC "inputs") (mV 0)) (maN))))) (sSeq (sAsg (mCall 2 m_emission_lasso (maC (mV 0) (maC (mV 1) (maN)))) (gTup [gNm 2, gNm 3])) (sSeq (sWhile (mT (m2 fLt (mF fLen (maC (mV 2) (maN))) (m1 (fFld tabC "lead") (mV 0)))) (sSet 2 (m2 (fAdd false) (mV 2) (mV 3))) big) (sRet (mCall 2 m_shortest (maC (m2 (fAdd false) (m1 (fFld tabC "opening") (mV 0)) (mSl (fSl false) (mV 2) (moS (mF fMax2 (maC (mC (.int 0)) (maC (m1 (fFld tabC "lead") (mV 0)) (maN))))) (moN))) (maC (mV 3) (maN))))))))
/-- letter_in: 0 lasso, 1 turn, 2 head, 3 loop -/
def m_letter_in : MF := runF 4 (sSeq (sAsg (mV 0) (gTup [gNm 2, gNm 3])) (sSeq (sIf (mT (m2 fLt (mV 1) (mF fLen (maC (mV 2) (maN))))) (sRet (m2 fIx (mV 2) (mV 1))) (sNil)) (sRet (m2 fIx (mV 3) (m2 fMod (m2 fSub (mV 1) (mF fLen (maC (mV 2) (maN)))) (mF fLen (maC (mV 3) (maN))))))))
/-- combine: 0 first, 1 second, 2 size, 3 begin, 4 period, 5 letters, 6 turn -/
def m_combine : MF := runF 7 (sSeq (sSet 3 (mF fMax2 (maC (mF fLen (maC (m2 fIx (mV 0) (mC (.int 0))) (maN))) (maC (mF fLen (maC (m2 fIx (mV 1) (mC (.int 0))) (maN))) (maN))))) (sSeq (sSet 4 (mF fLcm (maC (mF fLen (maC (m2 fIx (mV 0) (mC (.int 1))) (maN))) (maC (mF fLen (maC (m2 fIx (mV 1) (mC (.int 1))) (maN))) (maN))))) (sSeq (sSet 5 (mLst true (maN))) (sSeq (sFor (iRange1 (maC (m2 (fAdd false) (mV 3) (mV 4)) (maN))) (gNm 6) (sExpr (mM "list" fAppend (mV 5) (maC (m2 (fAdd false) (mCall 2 m_letter_in (maC (mV 0) (maC (mV 6) (maN)))) (m2 (fMul false) (mV 2) (mCall 2 m_letter_in (maC (mV 1) (maC (mV 6) (maN)))))) (maN))))) (sRet (mCall 2 m_shortest (maC (mSl (fSl false) (mV 5) (moN) (moS (mV 3))) (maC (mSl (fSl false) (mV 5) (moS (mV 3)) (moN)) (maN)))))))))
/-- trace: 0 machine, 1 lasso -/
def m_trace : MF := runF 2 (sRet (mCall 3 m_combine (maC (mV 1) (maC (mCall 2 m_respond (maC (mV 0) (maC (mV 1) (maN)))) (maC (m1 (fFld tabC "inputs") (mV 0)) (maN))))))
/-- law_outcome: 0 _law_machine_here, 1 _law_lasso_here, 2 _law_found -/
noncomputable def m_law_outcome : MF := runF 3 (sSeq (sSet 2 (mLst true (maN))) (sSeq (sTry (sExpr (mM "list" fAppend (mV 2) (maC (mCall 2 m_respond (maC (mV 0) (maC (mV 1) (maN)))) (maN)))) (⟨[("InvalidLetter", true)], none, fun v => sExpr (mM "list" fAppend (mV 2) (maC (mC .non) (maN)))⟩ :: [])) (sSeq (sTry (sExpr (mM "list" fAppend (mV 2) (maC (mCall 2 m_trace (maC (mV 0) (maC (mV 1) (maN)))) (maN)))) (⟨[("InvalidLetter", true)], none, fun v => sExpr (mM "list" fAppend (mV 2) (maC (mC .non) (maN)))⟩ :: [])) (sRet (mV 2)))))
/-- law: 0 _law_script, 1 _law_draws_here, 2 _law_inputs, 3 _law_outputs, 4 _law_lead, 5 _law_opening, 6 _law_rows, 7 _law_machine_here, 8 _law_lasso_here, 9 _law_found, 10 _law_said_here, 11 _law_heard, 12 _law_turn -/
noncomputable def m_law : MF := runF 13 (sSeq (sSet 1 (mCall 2 m_law_draws (maC (mV 0) (maC (mC (.int 100)) (maN))))) (sSeq (sSet 2 (m2 (fAdd false) (mC (.int 1)) (mCall 2 m_law_take (maC (mV 1) (maC (mC (.int 3)) (maN)))))) (sSeq (sSet 3 (m2 (fAdd false) (mC (.int 1)) (mCall 2 m_law_take (maC (mV 1) (maC (mC (.int 3)) (maN)))))) (sSeq (sSet 4 (m2 fSub (mCall 2 m_law_take (maC (mV 1) (maC (mC (.int 6)) (maN)))) (mC (.int 3)))) (sSeq (sAsg (mCall 5 m_law_machine (maC (mV 1) (maC (mV 2) (maC (mV 3) (maC (mV 4) (maC (mC (.int 4)) (maN))))))) (gTup [gNm 5, gNm 6])) (sSeq (sSet 7 (mMake "Machine" true 6 m_Machine_init (maC (mV 2) (maC (mV 3) (maC (mV 4) (maC (mF (fList false) (maC (mV 5) (maN))) (maC (mCall 1 m_law_flat (maC (mV 6) (maN))) (maN)))))))) (sSeq (sSet 8 (mCall 3 m_law_lasso (maC (mV 1) (maC (mV 2) (maC (mC (.int 4)) (maN)))))) (sSeq (sIf (mT (m2 (fEq false) (mCall 2 m_law_take (maC (mV 1) (maC (mC (.int 8)) (maN)))) (mC (.int 0)))) (sRet (m2 (fEq false) (mCall 2 m_law_outcome (maC (mV 7) (maC (mTup (maC (m2 (fAdd false) (m2 fIx (mV 8) (mC (.int 0))) (mTup (maC (mV 2) (maN)))) (maC (m2 fIx (mV 8) (mC (.int 1))) (maN)))) (maN)))) (mLst false (maC (mC .non) (maC (mC .non) (maN)))))) (sNil)) (sSeq (sSet 9 (mCall 2 m_law_outcome (maC (mV 7) (maC (mV 8) (maN))))) (sSeq (sIf (tOrM (mT (m2 (fIsN false) (m2 fIx (mV 9) (mC (.int 0))) (mC .non))) (mT (m2 (fIsN false) (m2 fIx (mV 9) (mC (.int 1))) (mC .non)))) (sRet (mC (.bl false))) (sNil)) (sSeq (sIf (tOrM (tNotM (mT (mCall 2 m_law_is_lasso (maC (m2 fIx (mV 9) (mC (.int 0))) (maC (mV 3) (maN)))))) (tNotM (mT (mCall 2 m_law_is_lasso (maC (m2 fIx (mV 9) (mC (.int 1))) (maC (m2 (fMul false) (mV 2) (mV 3)) (maN))))))) (sRet (mC (.bl false))) (sNil)) (sSeq (sSet 10 (mCall 4 m_law_said (maC (mV 6) (maC (mV 5) (maC (mV 4) (maC (mV 8) (maN))))))) (sSeq (sIf (tOrM (tNotM (mT (mCall 2 m_law_same (maC (m2 fIx (mV 9) (mC (.int 0))) (maC (mV 10) (maN)))))) (tNotM (mT (mCall 2 m_law_same (maC (m2 fIx (mV 9) (mC (.int 1))) (maC (mCall 3 m_law_joint (maC (mV 8) (maC (mV 10) (maC (mV 2) (maN))))) (maN))))))) (sRet (mC (.bl false))) (sNil)) (sSeq (sSet 11 (mComp false (iRange1 (maC (mC (.int 7)) (maN))) (gNm 12) (tYesM) (mCall 2 m_law_at (maC (mV 8) (maC (mV 12) (maN)))) [12])) (sRet (m2 (fEq false) (mCallO "Machine" 2 m_Machine_call (mV 7) (maC (mV 11) (maN))) (mComp false (iRange1 (maC (mF fMax2 (maC (mC (.int 0)) (maC (m2 fSub (mC (.int 7)) (mV 4)) (maN)))) (maN))) (gNm 12) (tYesM) (mCall 2 m_law_at (maC (m2 fIx (mV 9) (mC (.int 0))) (maC (mV 12) (maN)))) [12])))))))))))))))))
/-! ### what the top leaves -/
structure Txt (K : PySem.W.Frag) (mg : Str → Option Value) (Γ : Gm) : Prop where
  b_bool : mg "bool" = none
  b_int : mg "int" = none
  b_isinstance : mg "isinstance" = none
  b_len : mg "len" = none
  b_list : mg "list" = none
  b_max : mg "max" = none
  b_range : mg "range" = none
  b_tuple : mg "tuple" = none
  b_lcm : mg "lcm" = some (.builtin "math.lcm")
  d_all_below : DefOk K mg "all_below" s_all_below ["numbers", "limit"]
  d_Machine_init : MkDef K mg Γ "Machine" "Machine.__init__" s_Machine_init ["self", "inputs", "outputs", "lead", "opening", "rows"]
  d_emissions : DefOk K mg "emissions" s_emissions ["machine", "heard"]
  d_Machine_call : CoDef K mg Γ "Machine" "Machine.__call__" s_Machine_call ["self", "heard"]
  d_law_draws : DefOk K mg "_law_draws" s_law_draws ["_law_script", "_law_count"]
  d_law_take : DefOk K mg "_law_take" s_law_take ["_law_draws_here", "_law_limit"]
  d_law_is_integer : DefOk K mg "_law_is_integer" s_law_is_integer ["_law_actual"]
  d_law_integers : DefOk K mg "_law_integers" s_law_integers ["_law_actual", "_law_low", "_law_high"]
  d_law_normal : DefOk K mg "_law_normal" s_law_normal ["_law_lasso_here"]
  d_law_is_lasso : DefOk K mg "_law_is_lasso" s_law_is_lasso ["_law_actual", "_law_letters"]
  d_law_at : DefOk K mg "_law_at" s_law_at ["_law_lasso_here", "_law_turn"]
  d_law_same : DefOk K mg "_law_same" s_law_same ["_law_first", "_law_second"]
  d_law_lasso : DefOk K mg "_law_lasso" s_law_lasso ["_law_draws_here", "_law_letters", "_law_longest"]
  d_law_flat : DefOk K mg "_law_flat" s_law_flat ["_law_rows"]
  d_law_machine : DefOk K mg "_law_machine" s_law_machine ["_law_draws_here", "_law_inputs", "_law_outputs", "_law_lead", "_law_most"]
  d_law_emissions : DefOk K mg "_law_emissions" s_law_emissions ["_law_rows", "_law_lasso_here"]
  d_law_said : DefOk K mg "_law_said" s_law_said ["_law_rows", "_law_opening", "_law_lead", "_law_lasso_here"]
  d_law_joint : DefOk K mg "_law_joint" s_law_joint ["_law_first", "_law_second", "_law_factor"]
  d_repeats : DefOk K mg "repeats" s_repeats ["loop", "period"]
  d_shortest : DefOk K mg "shortest" s_shortest ["head", "loop"]
  d_check_letters : DefOk K mg "check_letters" s_check_letters ["lasso", "letters"]
  d_emission_lasso : DefOk K mg "emission_lasso" s_emission_lasso ["machine", "lasso"]
  d_respond : DefOk K mg "respond" s_respond ["machine", "lasso"]
  d_letter_in : DefOk K mg "letter_in" s_letter_in ["lasso", "turn"]
  d_combine : DefOk K mg "combine" s_combine ["first", "second", "size"]
  d_trace : DefOk K mg "trace" s_trace ["machine", "lasso"]
  d_law_outcome : DefOk K mg "_law_outcome" s_law_outcome ["_law_machine_here", "_law_lasso_here"]
  d_law : DefOk K mg "law" s_law ["_law_script"]
  x_InvalidLetter : ExcOk Unit K mg Γ "InvalidLetter"
  x_InvalidMachine : ExcOk Unit K mg Γ "InvalidMachine"
  e_InvalidLetter_InvalidLetter : PySem.W.exmOne K (.ref (Γ.cls "InvalidLetter")) (.ref (Γ.cls "InvalidLetter")) = some true
  tab : TabOk Γ K tabC
/-! ### derivations -/
section
variable {P : Program} {w : World} {K : PySem.W.Frag} {mg : Str → Option Value} {base : Heap} {Γ : Gm}
theorem ok_all_below (T : Txt K mg Γ) : DefRun P w K mg base Γ 1 "all_below" ["numbers", "limit"] m_all_below := by
  have sc := sc_all_below
  exact def_ok T.d_all_below sc_all_below (fun f cdv A outer s H E hr => ss_cons (ss_for (passes_of rfl) rfl (si_seq (se_v 0)) (sg_name 2 sc.nd) (ss_one (ss_if ((sw_or (st_cmp op_lt lift_lt (se_v 2) (se_int)) (sw_or1 (st_cmp op_ge lift_ge (se_v 2) (se_v 1)))).st) (ss_one (ss_ret (se_bl))) (ss_nil)))) (ss_one (ss_ret (se_bl))))
theorem ok_Machine_init (T : Txt K mg Γ) : MakeOk P w K mg base Γ 2 "Machine" 6 m_Machine_init := by
  have sc := sc_Machine_init
  have c_all_below := (ok_all_below (P := P) (w := w) (base := base) T).call
  exact mk_ok T.d_Machine_init sc_Machine_init (fun f cdv A outer s H E hr => ss_cons (ss_set 6 sc.nd (se_and (se_cmp op_ge lift_ge (se_v 1) (se_int)) (se_and (se_cmp op_ge lift_ge (se_v 2) (se_int)) (se_one (se_chain op_le lift_le op_le lift_le (se_un un_neg lift_neg (se_int)) (se_v 3) (se_int)))))) (ss_cons (ss_set 6 sc.nd (se_and (se_v 6) (se_and (se_cmp (op_eqD hr.units) lift_eq (sb_len T.b_len (sa_cons (se_v 4) (sa_nil))) (sb_max2 rfl T.b_max (sa_cons (se_int) (sa_cons (se_un un_neg lift_neg (se_v 3)) (sa_nil))))) (se_one (se_cmp op_ge lift_ge (sb_len T.b_len (sa_cons (se_v 5) (sa_nil))) (se_int)))))) (ss_cons (ss_set 6 sc.nd (se_and (se_v 6) (se_one (sc_call (c_all_below.mono (by decide)) hr (takes_of rfl rfl rfl rfl) (sa_cons (se_v 4) (sa_cons (se_v 2) (sa_nil))))))) (ss_cons (ss_for (passes_of rfl) rfl (si_seq (se_v 5)) (sg_name 7 sc.nd) (ss_cons (ss_set 6 sc.nd (se_and (se_v 6) (se_one (se_cmp (op_eqD hr.units) lift_eq (sb_len T.b_len (sa_cons (se_v 7) (sa_nil))) (se_v 1))))) (ss_cons (ss_set 6 sc.nd (se_and (se_v 6) (se_one (sc_call (c_all_below.mono (by decide)) hr (takes_of rfl rfl rfl rfl) (sa_cons (se_comp (own := [("pair", 8)]) false rfl sc.nd (si_seq (se_v 7)) (blkOk_by (own := [("pair", 8)]) (N := ["self", "inputs", "outputs", "lead", "opening", "rows", "valid", "row", "pair"]) (sc := defScope s_Machine_init) (by decide +kernel)) (.nm (by decide) fun _ _ _ _ _ => pg_name (i := 8) sc.nd rfl (Or.inl rfl)) (fun _ _ _ _ _ => sts_nil) (fun _ _ _ _ _ => se_ix ix_seq lift_ix (se_v 8) (se_int))) (sa_cons (sb_len T.b_len (sa_cons (se_v 5) (sa_nil))) (sa_nil))))))) (ss_one (ss_set 6 sc.nd (se_and (se_v 6) (se_one (sc_call (c_all_below.mono (by decide)) hr (takes_of rfl rfl rfl rfl) (sa_cons (se_comp (own := [("pair", 8)]) false rfl sc.nd (si_seq (se_v 7)) (blkOk_by (own := [("pair", 8)]) (N := ["self", "inputs", "outputs", "lead", "opening", "rows", "valid", "row", "pair"]) (sc := defScope s_Machine_init) (by decide +kernel)) (.nm (by decide) fun _ _ _ _ _ => pg_name (i := 8) sc.nd rfl (Or.inl rfl)) (fun _ _ _ _ _ => sts_nil) (fun _ _ _ _ _ => se_ix ix_seq lift_ix (se_v 8) (se_int))) (sa_cons (se_v 2) (sa_nil))))))))))) (ss_cons (ss_if (st_not (st_val (se_v 6))) (ss_one (ss_raise rfl (takes_of rfl rfl rfl rfl) PySem.F.excBase_ValueError T.x_InvalidMachine.q T.x_InvalidMachine.g T.x_InvalidMachine.k (raises_own T.x_InvalidMachine.sb T.x_InvalidMachine.ty))) (ss_nil)) (ss_cons (ss_fld T.tab (se_v 0) (se_v 1)) (ss_cons (ss_fld T.tab (se_v 0) (se_v 2)) (ss_cons (ss_fld T.tab (se_v 0) (se_v 3)) (ss_cons (ss_fld T.tab (se_v 0) (sb_tuple T.b_tuple (sa_cons (se_v 4) (sa_nil)))) (ss_one (ss_fld T.tab (se_v 0) (sb_tuple T.b_tuple (sa_cons (se_comp (own := [("row", 7)]) false rfl sc.nd (si_seq (se_v 5)) (blkOk_by (own := [("row", 7)]) (N := ["self", "inputs", "outputs", "lead", "opening", "rows", "valid", "row", "pair"]) (sc := defScope s_Machine_init) (by decide +kernel)) (.nm (by decide) fun _ _ _ _ _ => pg_name (i := 7) sc.nd rfl (Or.inl rfl)) (fun _ _ _ _ _ => sts_nil) (fun _ _ _ _ _ => sb_tuple T.b_tuple (sa_cons (se_comp (own := [("pair", 8)]) false rfl sc.nd (si_seq (se_v 7)) (blkOk_in (sc := defScope s_Machine_init) rfl (blkOk_by (own := [("pair", 8)]) (N := ["self", "inputs", "outputs", "lead", "opening", "rows", "valid", "row", "pair"]) (by decide +kernel))) (.nm (by decide) fun _ _ _ _ _ => pg_name (i := 8) sc.nd rfl (Or.inl rfl)) (fun _ _ _ _ _ => sts_nil) (fun _ _ _ _ _ => se_tup (sa_cons (se_ix ix_seq lift_ix (se_v 8) (se_int)) (sa_cons (se_ix ix_seq lift_ix (se_v 8) (se_int)) (sa_nil))))) (sa_nil)))) (sa_nil))))))))))))))
theorem ok_emissions (T : Txt K mg Γ) : DefRun P w K mg base Γ 1 "emissions" ["machine", "heard"] m_emissions := by
  have sc := sc_emissions
  exact def_ok T.d_emissions sc_emissions (fun f cdv A outer s H E hr => ss_cons (ss_set 2 sc.nd (se_int)) (ss_cons (ss_set 3 sc.nd (se_lst true (sa_nil))) (ss_cons (ss_for (passes_of rfl) rfl (si_seq (se_v 1)) (sg_name 4 sc.nd) (ss_cons (ss_asg (se_ix ix_seq lift_ix (se_ix ix_seq lift_ix (se_fld T.tab (se_v 0)) (se_v 2)) (se_v 4)) (sg_tup rfl (sgs_cons (sg_name 2 sc.nd) (sgs_cons (sg_name 5 sc.nd) (sgs_nil))))) (ss_one (ss_expr (sm_append (se_v 3) (sa_cons (se_v 5) (sa_nil))))))) (ss_one (ss_ret (se_v 3))))))
theorem ok_Machine_call (T : Txt K mg Γ) : CoOk P w K mg base Γ 2 "Machine" 2 m_Machine_call := by
  have sc := sc_Machine_call
  have c_all_below := (ok_all_below (P := P) (w := w) (base := base) T).call
  have c_emissions := (ok_emissions (P := P) (w := w) (base := base) T).call
  exact co_ok T.d_Machine_call sc_Machine_call (fun f cdv A outer s H E hr => ss_cons (ss_if (st_not (st_val (sc_call (c_all_below.mono (by decide)) hr (takes_of rfl rfl rfl rfl) (sa_cons (se_v 1) (sa_cons (se_fld T.tab (se_v 0)) (sa_nil)))))) (ss_one (ss_raise rfl (takes_of rfl rfl rfl rfl) PySem.F.excBase_ValueError T.x_InvalidLetter.q T.x_InvalidLetter.g T.x_InvalidLetter.k (raises_own T.x_InvalidLetter.sb T.x_InvalidLetter.ty))) (ss_nil)) (ss_cons (ss_set 2 sc.nd (sc_call (c_emissions.mono (by decide)) hr (takes_of rfl rfl rfl rfl) (sa_cons (se_v 0) (sa_cons (se_v 1) (sa_nil))))) (ss_cons (ss_if (st_cmp op_gt lift_gt (se_fld T.tab (se_v 0)) (se_int)) (ss_one (ss_ret (se_slice sl_all lift_sl (se_v 2) (so_some (se_fld T.tab (se_v 0))) (so_none)))) (ss_nil)) (ss_one (ss_ret (se_op op_addAll lift_add (sb_list false T.b_list (sa_cons (se_fld T.tab (se_v 0)) (sa_nil))) (se_v 2)))))))
theorem ok_law_draws (T : Txt K mg Γ) : DefRun P w K mg base Γ 1 "_law_draws" ["_law_script", "_law_count"] m_law_draws := by
  have sc := sc_law_draws
  exact def_ok T.d_law_draws sc_law_draws (fun f cdv A outer s H E hr => ss_cons (ss_set 2 sc.nd (sb_list true T.b_list (sa_cons (se_v 0) (sa_nil)))) (ss_cons (ss_if (st_cmp (op_eqD hr.units) lift_eq (sb_len T.b_len (sa_cons (se_v 2) (sa_nil))) (se_int)) (ss_one (ss_set 2 sc.nd (se_lst true (sa_cons (se_int) (sa_nil))))) (ss_nil)) (ss_cons (ss_set 3 sc.nd (se_lst true (sa_nil))) (ss_cons (ss_set 4 sc.nd (se_int)) (ss_cons (ss_for (passes_of rfl) rfl (si_range1 T.b_range (sa_cons (se_v 1) (sa_nil))) (sg_name 5 sc.nd) (ss_cons (ss_set 6 sc.nd (se_op op_mod lift_mod (se_v 5) (sb_len T.b_len (sa_cons (se_v 2) (sa_nil))))) (ss_cons (ss_set 7 sc.nd (se_ix ix_seq lift_ix (se_v 2) (se_v 6))) (ss_cons (ss_set 4 sc.nd (se_op op_mod lift_mod (sb_int T.b_int (sa_cons (se_op op_addAll lift_add (se_op op_addAll lift_add (se_op op_addAll lift_add (se_op op_mulAll lift_mul (se_v 4) (se_int)) (se_op op_mulAll lift_mul (se_op op_mod lift_mod (sb_int T.b_int (sa_cons (se_v 7) (sa_nil))) (se_int)) (se_int))) (se_op op_mulAll lift_mul (se_v 5) (se_int))) (se_int)) (sa_nil))) (se_int))) (ss_cons (ss_set 8 sc.nd (se_op op_mod lift_mod (sb_int T.b_int (sa_cons (se_op op_addAll lift_add (se_op op_addAll lift_add (se_op op_mulAll lift_mul (se_v 4) (se_v 4)) (se_op op_mulAll lift_mul (se_int) (se_v 4))) (se_v 5)) (sa_nil))) (se_int))) (ss_one (ss_if (st_cmp op_ge lift_ge (se_v 7) (se_op op_pow lift_pow (se_int) (se_int))) (ss_cons (ss_expr (sm_append (se_v 3) (sa_cons (se_op op_mod lift_mod (sb_int T.b_int (sa_cons (se_v 7) (sa_nil))) (se_int)) (sa_nil)))) (ss_one (ss_asg (se_op op_fdiv lift_div (se_v 7) (se_int)) (sg_sub (se_v 2) (se_v 6) set_list lift_setL)))) (ss_one (ss_expr (sm_append (se_v 3) (sa_cons (se_op op_mod lift_mod (sb_int T.b_int (sa_cons (se_v 8) (sa_nil))) (se_int)) (sa_nil)))))))))))) (ss_cons (ss_expr (sm_reverse (se_v 3))) (ss_one (ss_ret (se_v 3)))))))))
theorem ok_law_take (T : Txt K mg Γ) : DefRun P w K mg base Γ 1 "_law_take" ["_law_draws_here", "_law_limit"] m_law_take := by
  have sc := sc_law_take
  exact def_ok T.d_law_take sc_law_take (fun f cdv A outer s H E hr => ss_cons (ss_if (st_cmp (op_eqD hr.units) lift_eq (sb_len T.b_len (sa_cons (se_v 0) (sa_nil))) (se_int)) (ss_one (ss_ret (se_int))) (ss_nil)) (ss_one (ss_ret (se_op op_mod lift_mod (sb_int T.b_int (sa_cons (sm_pop (se_v 0)) (sa_nil))) (se_v 1)))))
theorem ok_law_is_integer (T : Txt K mg Γ) : DefRun P w K mg base Γ 1 "_law_is_integer" ["_law_actual"] m_law_is_integer := by
  have sc := sc_law_is_integer
  exact def_ok T.d_law_is_integer sc_law_is_integer (fun f cdv A outer s H E hr => ss_one (ss_ret (se_and (se_isi (T := "int") (se_v 0) T.b_isinstance T.b_int) (se_one (se_not (se_isi (T := "bool") (se_v 0) T.b_isinstance T.b_bool))))))
theorem ok_law_integers (T : Txt K mg Γ) : DefRun P w K mg base Γ 2 "_law_integers" ["_law_actual", "_law_low", "_law_high"] m_law_integers := by
  have sc := sc_law_integers
  have c_law_is_integer := (ok_law_is_integer (P := P) (w := w) (base := base) T).call
  exact def_ok T.d_law_integers sc_law_integers (fun f cdv A outer s H E hr => ss_cons (ss_if (st_not (st_val (se_isi (T := "tuple") (se_v 0) T.b_isinstance T.b_tuple))) (ss_one (ss_ret (se_bl))) (ss_nil)) (ss_cons (ss_for (passes_of rfl) rfl (si_seq (se_v 0)) (sg_name 3 sc.nd) (ss_one (ss_if ((sw_or (st_not (st_val (sc_call (c_law_is_integer.mono (by decide)) hr (takes_of rfl rfl rfl rfl) (sa_cons (se_v 3) (sa_nil))))) (sw_or (st_cmp op_lt lift_lt (se_v 3) (se_v 1)) (sw_or1 (st_cmp op_ge lift_ge (se_v 3) (se_v 2))))).st) (ss_one (ss_ret (se_bl))) (ss_nil)))) (ss_one (ss_ret (se_bl)))))
theorem ok_law_normal (T : Txt K mg Γ) : DefRun P w K mg base Γ 1 "_law_normal" ["_law_lasso_here"] m_law_normal := by
  have sc := sc_law_normal
  exact def_ok T.d_law_normal sc_law_normal (fun f cdv A outer s H E hr => ss_cons (ss_set 1 sc.nd (se_ix ix_seq lift_ix (se_v 0) (se_int))) (ss_cons (ss_set 2 sc.nd (se_ix ix_seq lift_ix (se_v 0) (se_int))) (ss_cons (ss_if ((sw_and (st_cmp op_gt lift_gt (sb_len T.b_len (sa_cons (se_v 1) (sa_nil))) (se_int)) (sw_and1 (st_cmp (op_eqD hr.units) lift_eq (se_ix ix_seq lift_ix (se_v 1) (se_un un_neg lift_neg (se_int))) (se_ix ix_seq lift_ix (se_v 2) (se_un un_neg lift_neg (se_int)))))).st) (ss_one (ss_ret (se_bl))) (ss_nil)) (ss_cons (ss_for (passes_of rfl) rfl (si_range2 T.b_range (sa_cons (se_int) (sa_cons (sb_len T.b_len (sa_cons (se_v 2) (sa_nil))) (sa_nil)))) (sg_name 3 sc.nd) (ss_one (ss_if ((sw_and (st_cmp (op_eqD hr.units) lift_eq (se_op op_mod lift_mod (sb_len T.b_len (sa_cons (se_v 2) (sa_nil))) (se_v 3)) (se_int)) (sw_and1 (st_cmp (op_eqD hr.units) lift_eq (se_v 2) (se_op op_mulAll lift_mul (se_slice sl_all lift_sl (se_v 2) (so_none) (so_some (se_v 3))) (se_op op_fdiv lift_div (sb_len T.b_len (sa_cons (se_v 2) (sa_nil))) (se_v 3)))))).st) (ss_one (ss_ret (se_bl))) (ss_nil)))) (ss_one (ss_ret (se_bl)))))))
theorem ok_law_is_lasso (T : Txt K mg Γ) : DefRun P w K mg base Γ 3 "_law_is_lasso" ["_law_actual", "_law_letters"] m_law_is_lasso := by
  have sc := sc_law_is_lasso
  have c_law_integers := (ok_law_integers (P := P) (w := w) (base := base) T).call
  have c_law_normal := (ok_law_normal (P := P) (w := w) (base := base) T).call
  exact def_ok T.d_law_is_lasso sc_law_is_lasso (fun f cdv A outer s H E hr => ss_cons (ss_if ((sw_or (st_not (st_val (se_isi (T := "tuple") (se_v 0) T.b_isinstance T.b_tuple))) (sw_or1 (st_cmp (op_neD hr.units) lift_ne (sb_len T.b_len (sa_cons (se_v 0) (sa_nil))) (se_int)))).st) (ss_one (ss_ret (se_bl))) (ss_nil)) (ss_cons (ss_if ((sw_or (st_not (st_val (sc_call (c_law_integers.mono (by decide)) hr (takes_of rfl rfl rfl rfl) (sa_cons (se_ix ix_seq lift_ix (se_v 0) (se_int)) (sa_cons (se_int) (sa_cons (se_v 1) (sa_nil))))))) (sw_or1 (st_not (st_val (sc_call (c_law_integers.mono (by decide)) hr (takes_of rfl rfl rfl rfl) (sa_cons (se_ix ix_seq lift_ix (se_v 0) (se_int)) (sa_cons (se_int) (sa_cons (se_v 1) (sa_nil))))))))).st) (ss_one (ss_ret (se_bl))) (ss_nil)) (ss_one (ss_ret (se_and (se_cmp op_gt lift_gt (sb_len T.b_len (sa_cons (se_ix ix_seq lift_ix (se_v 0) (se_int)) (sa_nil))) (se_int)) (se_one (sc_call (c_law_normal.mono (by decide)) hr (takes_of rfl rfl rfl rfl) (sa_cons (se_v 0) (sa_nil)))))))))
theorem ok_law_at (T : Txt K mg Γ) : DefRun P w K mg base Γ 1 "_law_at" ["_law_lasso_here", "_law_turn"] m_law_at := by
  have sc := sc_law_at
  exact def_ok T.d_law_at sc_law_at (fun f cdv A outer s H E hr => ss_cons (ss_if (st_cmp op_lt lift_lt (se_v 1) (sb_len T.b_len (sa_cons (se_ix ix_seq lift_ix (se_v 0) (se_int)) (sa_nil)))) (ss_one (ss_ret (se_ix ix_seq lift_ix (se_ix ix_seq lift_ix (se_v 0) (se_int)) (se_v 1)))) (ss_nil)) (ss_one (ss_ret (se_ix ix_seq lift_ix (se_ix ix_seq lift_ix (se_v 0) (se_int)) (se_op op_mod lift_mod (sb_int T.b_int (sa_cons (se_op op_sub lift_sub (se_v 1) (sb_len T.b_len (sa_cons (se_ix ix_seq lift_ix (se_v 0) (se_int)) (sa_nil)))) (sa_nil))) (sb_len T.b_len (sa_cons (se_ix ix_seq lift_ix (se_v 0) (se_int)) (sa_nil))))))))
theorem ok_law_same (T : Txt K mg Γ) : DefRun P w K mg base Γ 2 "_law_same" ["_law_first", "_law_second"] m_law_same := by
  have sc := sc_law_same
  have c_law_at := (ok_law_at (P := P) (w := w) (base := base) T).call
  exact def_ok T.d_law_same sc_law_same (fun f cdv A outer s H E hr => ss_cons (ss_set 2 sc.nd (se_op op_addAll lift_add (se_op op_addAll lift_add (sb_max2 rfl T.b_max (sa_cons (sb_len T.b_len (sa_cons (se_ix ix_seq lift_ix (se_v 0) (se_int)) (sa_nil))) (sa_cons (sb_len T.b_len (sa_cons (se_ix ix_seq lift_ix (se_v 1) (se_int)) (sa_nil))) (sa_nil)))) (sb_len T.b_len (sa_cons (se_ix ix_seq lift_ix (se_v 0) (se_int)) (sa_nil)))) (sb_len T.b_len (sa_cons (se_ix ix_seq lift_ix (se_v 1) (se_int)) (sa_nil))))) (ss_cons (ss_for (passes_of rfl) rfl (si_range1 T.b_range (sa_cons (se_v 2) (sa_nil))) (sg_name 3 sc.nd) (ss_one (ss_if (st_cmp (op_neD hr.units) lift_ne (sc_call (c_law_at.mono (by decide)) hr (takes_of rfl rfl rfl rfl) (sa_cons (se_v 0) (sa_cons (se_v 3) (sa_nil)))) (sc_call (c_law_at.mono (by decide)) hr (takes_of rfl rfl rfl rfl) (sa_cons (se_v 1) (sa_cons (se_v 3) (sa_nil))))) (ss_one (ss_ret (se_bl))) (ss_nil)))) (ss_one (ss_ret (se_bl)))))
theorem ok_law_lasso (T : Txt K mg Γ) : DefRun P w K mg base Γ 2 "_law_lasso" ["_law_draws_here", "_law_letters", "_law_longest"] m_law_lasso := by
  have sc := sc_law_lasso
  have c_law_take := (ok_law_take (P := P) (w := w) (base := base) T).call
  exact def_ok T.d_law_lasso sc_law_lasso (fun f cdv A outer s H E hr => ss_cons (ss_setLc (own := [("_law_k", 4)]) false 3 rfl sc.nd (sw_true rfl rfl rfl (by decide +kernel)) (si_range1 T.b_range (sa_cons (sc_call (c_law_take.mono (by decide)) hr (takes_of rfl rfl rfl rfl) (sa_cons (se_v 0) (sa_cons (se_op op_addAll lift_add (se_v 2) (se_int)) (sa_nil)))) (sa_nil))) (blkOk_by (own := [("_law_k", 4)]) (N := ["_law_draws_here", "_law_letters", "_law_longest", "_law_head", "_law_k", "_law_loop"]) (sc := defScope s_law_lasso) (by decide +kernel)) (.nm (by decide) fun _ _ _ _ _ => pg_name (i := 4) sc.nd rfl (Or.inl rfl)) (fun _ _ _ _ _ => sts_nil) (fun _ _ _ _ _ => sc_call (c_law_take.mono (by decide)) hr takes0 (sa_cons (se_v 0) (sa_cons (se_v 1) (sa_nil))))) (ss_cons (ss_setLc (own := [("_law_k", 4)]) false 5 rfl sc.nd (sw_true rfl rfl rfl (by decide +kernel)) (si_range1 T.b_range (sa_cons (se_op op_addAll lift_add (se_int) (sc_call (c_law_take.mono (by decide)) hr (takes_of rfl rfl rfl rfl) (sa_cons (se_v 0) (sa_cons (se_v 2) (sa_nil))))) (sa_nil))) (blkOk_by (own := [("_law_k", 4)]) (N := ["_law_draws_here", "_law_letters", "_law_longest", "_law_head", "_law_k", "_law_loop"]) (sc := defScope s_law_lasso) (by decide +kernel)) (.nm (by decide) fun _ _ _ _ _ => pg_name (i := 4) sc.nd rfl (Or.inl rfl)) (fun _ _ _ _ _ => sts_nil) (fun _ _ _ _ _ => sc_call (c_law_take.mono (by decide)) hr takes0 (sa_cons (se_v 0) (sa_cons (se_v 1) (sa_nil))))) (ss_one (ss_ret (se_tup (sa_cons (sb_tuple T.b_tuple (sa_cons (se_v 3) (sa_nil))) (sa_cons (sb_tuple T.b_tuple (sa_cons (se_v 5) (sa_nil))) (sa_nil))))))))
theorem ok_law_flat (T : Txt K mg Γ) : DefRun P w K mg base Γ 1 "_law_flat" ["_law_rows"] m_law_flat := by
  have sc := sc_law_flat
  exact def_ok T.d_law_flat sc_law_flat (fun f cdv A outer s H E hr => ss_one (ss_ret (se_comp (own := [("_law_row", 1)]) false rfl sc.nd (si_seq (se_v 0)) (blkOk_by (own := [("_law_row", 1)]) (N := ["_law_rows", "_law_row"]) (sc := defScope s_law_flat) (by decide +kernel)) (.nm (by decide) fun _ _ _ _ _ => pg_name (i := 1) sc.nd rfl (Or.inl rfl)) (fun _ _ _ _ _ => sts_nil) (fun _ _ _ _ _ => sb_list false T.b_list (sa_cons (se_v 1) (sa_nil))))))
theorem ok_law_machine (T : Txt K mg Γ) : DefRun P w K mg base Γ 2 "_law_machine" ["_law_draws_here", "_law_inputs", "_law_outputs", "_law_lead", "_law_most"] m_law_machine := by
  have sc := sc_law_machine
  have c_law_take := (ok_law_take (P := P) (w := w) (base := base) T).call
  exact def_ok T.d_law_machine sc_law_machine (fun f cdv A outer s H E hr => ss_cons (ss_set 5 sc.nd (se_op op_addAll lift_add (se_int) (sc_call (c_law_take.mono (by decide)) hr (takes_of rfl rfl rfl rfl) (sa_cons (se_v 0) (sa_cons (se_v 4) (sa_nil)))))) (ss_cons (ss_setLc (own := [("_law_k", 7)]) false 6 rfl sc.nd (sw_true rfl rfl rfl (by decide +kernel)) (si_range1 T.b_range (sa_cons (sb_max2 rfl T.b_max (sa_cons (se_int) (sa_cons (se_un un_neg lift_neg (se_v 3)) (sa_nil)))) (sa_nil))) (blkOk_by (own := [("_law_k", 7)]) (N := ["_law_draws_here", "_law_inputs", "_law_outputs", "_law_lead", "_law_most", "_law_count", "_law_opening", "_law_k", "_law_rows", "_law_state", "_law_row", "_law_letter", "_law_target"]) (sc := defScope s_law_machine) (by decide +kernel)) (.nm (by decide) fun _ _ _ _ _ => pg_name (i := 7) sc.nd rfl (Or.inl rfl)) (fun _ _ _ _ _ => sts_nil) (fun _ _ _ _ _ => sc_call (c_law_take.mono (by decide)) hr takes0 (sa_cons (se_v 0) (sa_cons (se_v 2) (sa_nil))))) (ss_cons (ss_set 8 sc.nd (se_lst true (sa_nil))) (ss_cons (ss_for (passes_of rfl) rfl (si_range1 T.b_range (sa_cons (se_v 5) (sa_nil))) (sg_name 9 sc.nd) (ss_cons (ss_set 10 sc.nd (se_lst true (sa_nil))) (ss_cons (ss_for (passes_of rfl) rfl (si_range1 T.b_range (sa_cons (se_v 1) (sa_nil))) (sg_name 11 sc.nd) (ss_cons (ss_set 12 sc.nd (sc_call (c_law_take.mono (by decide)) hr (takes_of rfl rfl rfl rfl) (sa_cons (se_v 0) (sa_cons (se_v 5) (sa_nil))))) (ss_one (ss_expr (sm_append (se_v 10) (sa_cons (se_tup (sa_cons (se_v 12) (sa_cons (sc_call (c_law_take.mono (by decide)) hr (takes_of rfl rfl rfl rfl) (sa_cons (se_v 0) (sa_cons (se_v 2) (sa_nil)))) (sa_nil)))) (sa_nil))))))) (ss_one (ss_expr (sm_append (se_v 8) (sa_cons (se_v 10) (sa_nil)))))))) (ss_one (ss_ret (se_tup (sa_cons (se_v 6) (sa_cons (se_v 8) (sa_nil))))))))))
theorem ok_law_emissions (T : Txt K mg Γ) : DefRun P w K mg base Γ 1 "_law_emissions" ["_law_rows", "_law_lasso_here"] m_law_emissions := by
  have sc := sc_law_emissions
  exact def_ok T.d_law_emissions sc_law_emissions (fun f cdv A outer s H E hr => ss_cons (ss_set 2 sc.nd (se_lst true (sa_nil))) (ss_cons (ss_set 3 sc.nd (se_int)) (ss_cons (ss_for (passes_of rfl) rfl (si_seq (se_ix ix_seq lift_ix (se_v 1) (se_int))) (sg_name 4 sc.nd) (ss_cons (ss_expr (sm_append (se_v 2) (sa_cons (se_ix ix_seq lift_ix (se_ix ix_seq lift_ix (se_ix ix_seq lift_ix (se_v 0) (se_v 3)) (se_v 4)) (se_int)) (sa_nil)))) (ss_one (ss_set 3 sc.nd (se_ix ix_seq lift_ix (se_ix ix_seq lift_ix (se_ix ix_seq lift_ix (se_v 0) (se_v 3)) (se_v 4)) (se_int)))))) (ss_cons (ss_set 5 sc.nd (se_op op_mulAll lift_mul (se_lst false (sa_cons (se_un un_neg lift_neg (se_int)) (sa_nil))) (sb_len T.b_len (sa_cons (se_v 0) (sa_nil))))) (ss_cons (ss_for (passes_of rfl) rfl (si_range1 T.b_range (sa_cons (se_op op_addAll lift_add (sb_len T.b_len (sa_cons (se_v 0) (sa_nil))) (se_int)) (sa_nil))) (sg_name 6 sc.nd) (ss_cons (ss_if (st_cmp op_ge lift_ge (se_ix ix_seq lift_ix (se_v 5) (se_v 3)) (se_int)) (ss_one (ss_break)) (ss_nil)) (ss_cons (ss_asg (sb_len T.b_len (sa_cons (se_v 2) (sa_nil))) (sg_sub (se_v 5) (se_v 3) set_list lift_setL)) (ss_one (ss_for (passes_of rfl) rfl (si_seq (se_ix ix_seq lift_ix (se_v 1) (se_int))) (sg_name 4 sc.nd) (ss_cons (ss_expr (sm_append (se_v 2) (sa_cons (se_ix ix_seq lift_ix (se_ix ix_seq lift_ix (se_ix ix_seq lift_ix (se_v 0) (se_v 3)) (se_v 4)) (se_int)) (sa_nil)))) (ss_one (ss_set 3 sc.nd (se_ix ix_seq lift_ix (se_ix ix_seq lift_ix (se_ix ix_seq lift_ix (se_v 0) (se_v 3)) (se_v 4)) (se_int)))))))))) (ss_one (ss_ret (se_tup (sa_cons (sb_tuple T.b_tuple (sa_cons (se_slice sl_all lift_sl (se_v 2) (so_none) (so_some (se_ix ix_seq lift_ix (se_v 5) (se_v 3)))) (sa_nil))) (sa_cons (sb_tuple T.b_tuple (sa_cons (se_slice sl_all lift_sl (se_v 2) (so_some (se_ix ix_seq lift_ix (se_v 5) (se_v 3))) (so_none)) (sa_nil))) (sa_nil)))))))))))
theorem ok_law_said (T : Txt K mg Γ) : DefRun P w K mg base Γ 2 "_law_said" ["_law_rows", "_law_opening", "_law_lead", "_law_lasso_here"] m_law_said := by
  have sc := sc_law_said
  have c_law_emissions := (ok_law_emissions (P := P) (w := w) (base := base) T).call
  exact def_ok T.d_law_said sc_law_said (fun f cdv A outer s H E hr => ss_cons (ss_set 4 sc.nd (sc_call (c_law_emissions.mono (by decide)) hr (takes_of rfl rfl rfl rfl) (sa_cons (se_v 0) (sa_cons (se_v 3) (sa_nil))))) (ss_cons (ss_if (st_cmp op_le lift_le (se_v 2) (se_int)) (ss_one (ss_ret (se_tup (sa_cons (se_op op_addAll lift_add (sb_tuple T.b_tuple (sa_cons (se_v 1) (sa_nil))) (se_ix ix_seq lift_ix (se_v 4) (se_int))) (sa_cons (se_ix ix_seq lift_ix (se_v 4) (se_int)) (sa_nil)))))) (ss_nil)) (ss_cons (ss_set 5 sc.nd (se_op op_addAll lift_add (se_ix ix_seq lift_ix (se_v 4) (se_int)) (se_op op_mulX lift_mulX (se_ix ix_seq lift_ix (se_v 4) (se_int)) (se_v 2)))) (ss_one (ss_ret (se_tup (sa_cons (se_slice sl_all lift_sl (se_v 5) (so_some (se_v 2)) (so_none)) (sa_cons (se_ix ix_seq lift_ix (se_v 4) (se_int)) (sa_nil)))))))))
theorem ok_law_joint (T : Txt K mg Γ) : DefRun P w K mg base Γ 2 "_law_joint" ["_law_first", "_law_second", "_law_factor"] m_law_joint := by
  have sc := sc_law_joint
  have c_law_at := (ok_law_at (P := P) (w := w) (base := base) T).call
  exact def_ok T.d_law_joint sc_law_joint (fun f cdv A outer s H E hr => ss_cons (ss_set 3 sc.nd (sb_max2 rfl T.b_max (sa_cons (sb_len T.b_len (sa_cons (se_ix ix_seq lift_ix (se_v 0) (se_int)) (sa_nil))) (sa_cons (sb_len T.b_len (sa_cons (se_ix ix_seq lift_ix (se_v 1) (se_int)) (sa_nil))) (sa_nil))))) (ss_cons (ss_set 4 sc.nd (se_op op_mulAll lift_mul (sb_len T.b_len (sa_cons (se_ix ix_seq lift_ix (se_v 0) (se_int)) (sa_nil))) (sb_len T.b_len (sa_cons (se_ix ix_seq lift_ix (se_v 1) (se_int)) (sa_nil))))) (ss_cons (ss_set 5 sc.nd (se_lst true (sa_nil))) (ss_cons (ss_for (passes_of rfl) rfl (si_range1 T.b_range (sa_cons (se_op op_addAll lift_add (se_v 3) (se_v 4)) (sa_nil))) (sg_name 6 sc.nd) (ss_one (ss_expr (sm_append (se_v 5) (sa_cons (se_op op_addAll lift_add (sc_call (c_law_at.mono (by decide)) hr (takes_of rfl rfl rfl rfl) (sa_cons (se_v 0) (sa_cons (se_v 6) (sa_nil)))) (se_op op_mulAll lift_mul (se_v 2) (sc_call (c_law_at.mono (by decide)) hr (takes_of rfl rfl rfl rfl) (sa_cons (se_v 1) (sa_cons (se_v 6) (sa_nil)))))) (sa_nil)))))) (ss_one (ss_ret (se_tup (sa_cons (sb_tuple T.b_tuple (sa_cons (se_slice sl_all lift_sl (se_v 5) (so_none) (so_some (se_v 3))) (sa_nil))) (sa_cons (sb_tuple T.b_tuple (sa_cons (se_slice sl_all lift_sl (se_v 5) (so_some (se_v 3)) (so_none)) (sa_nil))) (sa_nil))))))))))
theorem ok_repeats (T : Txt K mg Γ) : DefRun P w K mg base Γ 1 "repeats" ["loop", "period"] m_repeats := by
  have sc := sc_repeats
  exact def_ok T.d_repeats sc_repeats (fun f cdv A outer s H E hr => ss_cons (ss_if (st_cmp (op_neD hr.units) lift_ne (se_op op_mod lift_mod (sb_len T.b_len (sa_cons (se_v 0) (sa_nil))) (se_v 1)) (se_int)) (ss_one (ss_ret (se_bl))) (ss_nil)) (ss_cons (ss_for (passes_of rfl) rfl (si_range2 T.b_range (sa_cons (se_v 1) (sa_cons (sb_len T.b_len (sa_cons (se_v 0) (sa_nil))) (sa_nil)))) (sg_name 2 sc.nd) (ss_one (ss_if (st_cmp (op_neD hr.units) lift_ne (se_ix ix_seq lift_ix (se_v 0) (se_v 2)) (se_ix ix_seq lift_ix (se_v 0) (se_op op_sub lift_sub (se_v 2) (se_v 1)))) (ss_one (ss_ret (se_bl))) (ss_nil)))) (ss_one (ss_ret (se_bl)))))
theorem ok_shortest (T : Txt K mg Γ) : DefRun P w K mg base Γ 2 "shortest" ["head", "loop"] m_shortest := by
  have sc := sc_shortest
  have c_repeats := (ok_repeats (P := P) (w := w) (base := base) T).call
  exact def_ok T.d_shortest sc_shortest (fun f cdv A outer s H E hr => ss_cons (ss_set 2 sc.nd (se_int)) (ss_cons (ss_while (passes_of rfl) (st_not (st_val (sc_call (c_repeats.mono (by decide)) hr (takes_of rfl rfl rfl rfl) (sa_cons (se_v 1) (sa_cons (se_v 2) (sa_nil)))))) (ss_one (ss_aug 2 sc.nd (se_int) ip_add lift_ipadd))) (ss_cons (ss_set 3 sc.nd (sb_len T.b_len (sa_cons (se_v 0) (sa_nil)))) (ss_cons (ss_set 4 sc.nd (se_int)) (ss_cons (ss_while (passes_of rfl) ((sw_and (st_cmp op_gt lift_gt (se_v 3) (se_int)) (sw_and1 (st_cmp (op_eqD hr.units) lift_eq (se_ix ix_seq lift_ix (se_v 0) (se_op op_sub lift_sub (se_v 3) (se_int))) (se_ix ix_seq lift_ix (se_v 1) (se_op op_mod lift_mod (se_op op_sub lift_sub (se_op op_sub lift_sub (se_v 2) (se_int)) (se_v 4)) (se_v 2)))))).st) (ss_cons (ss_aug 3 sc.nd (se_int) ip_sub lift_ipsub) (ss_one (ss_set 4 sc.nd (se_op op_mod lift_mod (se_op op_addAll lift_add (se_v 4) (se_int)) (se_v 2)))))) (ss_cons (ss_set 1 sc.nd (sb_tuple T.b_tuple (sa_cons (se_slice sl_all lift_sl (se_v 1) (so_none) (so_some (se_v 2))) (sa_nil)))) (ss_cons (ss_set 5 sc.nd (se_op op_mod lift_mod (se_op op_sub lift_sub (se_v 2) (se_v 4)) (se_v 2))) (ss_one (ss_ret (se_tup (sa_cons (sb_tuple T.b_tuple (sa_cons (se_slice sl_all lift_sl (se_v 0) (so_none) (so_some (se_v 3))) (sa_nil))) (sa_cons (se_op op_addAll lift_add (se_slice sl_all lift_sl (se_v 1) (so_some (se_v 5)) (so_none)) (se_slice sl_all lift_sl (se_v 1) (so_none) (so_some (se_v 5)))) (sa_nil)))))))))))))
theorem ok_check_letters (T : Txt K mg Γ) : DefRun P w K mg base Γ 1 "check_letters" ["lasso", "letters"] m_check_letters := by
  have sc := sc_check_letters
  exact def_ok T.d_check_letters sc_check_letters (fun f cdv A outer s H E hr => ss_one (ss_for (passes_of rfl) rfl (si_seq (se_op op_addAll lift_add (se_ix ix_seq lift_ix (se_v 0) (se_int)) (se_ix ix_seq lift_ix (se_v 0) (se_int)))) (sg_name 2 sc.nd) (ss_one (ss_if (st_cmp op_ge lift_ge (se_v 2) (se_v 1)) (ss_one (ss_raise rfl (takes_of rfl rfl rfl rfl) PySem.F.excBase_ValueError T.x_InvalidLetter.q T.x_InvalidLetter.g T.x_InvalidLetter.k (raises_own T.x_InvalidLetter.sb T.x_InvalidLetter.ty))) (ss_nil)))))
theorem ok_emission_lasso (T : Txt K mg Γ) : DefRun P w K mg base Γ 2 "emission_lasso" ["machine", "lasso"] m_emission_lasso := by
  have sc := sc_emission_lasso
  have c_emissions := (ok_emissions (P := P) (w := w) (base := base) T).call
  exact def_ok T.d_emission_lasso sc_emission_lasso (fun f cdv A outer s H E hr => ss_cons (ss_asg (se_v 1) (sg_tup rfl (sgs_cons (sg_name 2 sc.nd) (sgs_cons (sg_name 3 sc.nd) (sgs_nil))))) (ss_cons (ss_set 4 sc.nd (sc_call (c_emissions.mono (by decide)) hr (takes_of rfl rfl rfl rfl) (sa_cons (se_v 0) (sa_cons (se_v 2) (sa_nil))))) (ss_cons (ss_set 5 sc.nd (se_dict0)) (ss_cons (ss_set 6 sc.nd (se_int)) (ss_cons (ss_for (passes_of rfl) rfl (si_seq (se_v 2)) (sg_name 7 sc.nd) (ss_one (ss_set 6 sc.nd (se_ix ix_seq lift_ix (se_ix ix_seq lift_ix (se_ix ix_seq lift_ix (se_fld T.tab (se_v 0)) (se_v 6)) (se_v 7)) (se_int))))) (ss_cons (ss_while (passes_of rfl) (st_dnotin hr.units (se_v 6) (se_v 5)) (ss_cons (ss_dput hr.units (se_v 5) (se_v 6) (sb_len T.b_len (sa_cons (se_v 4) (sa_nil)))) (ss_one (ss_for (passes_of rfl) rfl (si_seq (se_v 3)) (sg_name 7 sc.nd) (ss_cons (ss_asg (se_ix ix_seq lift_ix (se_ix ix_seq lift_ix (se_fld T.tab (se_v 0)) (se_v 6)) (se_v 7)) (sg_tup rfl (sgs_cons (sg_name 6 sc.nd) (sgs_cons (sg_name 8 sc.nd) (sgs_nil))))) (ss_one (ss_expr (sm_append (se_v 4) (sa_cons (se_v 8) (sa_nil)))))))))) (ss_one (ss_ret (se_tup (sa_cons (sb_tuple T.b_tuple (sa_cons (se_slice sl_all lift_sl (se_v 4) (so_none) (so_some (se_dget hr.units (se_v 5) (se_v 6)))) (sa_nil))) (sa_cons (sb_tuple T.b_tuple (sa_cons (se_slice sl_all lift_sl (se_v 4) (so_some (se_dget hr.units (se_v 5) (se_v 6))) (so_none)) (sa_nil))) (sa_nil))))))))))))
theorem ok_respond (T : Txt K mg Γ) : DefRun P w K mg base Γ 3 "respond" ["machine", "lasso"] m_respond := by
  have sc := sc_respond
  have c_check_letters := (ok_check_letters (P := P) (w := w) (base := base) T).call
  have c_emission_lasso := (ok_emission_lasso (P := P) (w := w) (base := base) T).call
  have c_shortest := (ok_shortest (P := P) (w := w) (base := base) T).call
  exact def_ok T.d_respond sc_respond (fun f cdv A outer s H E hr => ss_cons (ss_expr (sc_call (c_check_letters.mono (by decide)) hr (takes_of rfl rfl rfl rfl) (sa_cons (se_v 1) (sa_cons (se_fld T.tab (se_v 0)) (sa_nil))))) (ss_cons (ss_asg (sc_call (c_emission_lasso.mono (by decide)) hr (takes_of rfl rfl rfl rfl) (sa_cons (se_v 0) (sa_cons (se_v 1) (sa_nil)))) (sg_tup rfl (sgs_cons (sg_name 2 sc.nd) (sgs_cons (sg_name 3 sc.nd) (sgs_nil))))) (ss_cons (ss_while (passes_of rfl) (st_cmp op_lt lift_lt (sb_len T.b_len (sa_cons (se_v 2) (sa_nil))) (se_fld T.tab (se_v 0))) (ss_one (ss_set 2 sc.nd (se_op op_addAll lift_add (se_v 2) (se_v 3))))) (ss_one (ss_ret (sc_call (c_shortest.mono (by decide)) hr (takes_of rfl rfl rfl rfl) (sa_cons (se_op op_addAll lift_add (se_fld T.tab (se_v 0)) (se_slice sl_all lift_sl (se_v 2) (so_some (sb_max2 rfl T.b_max (sa_cons (se_int) (sa_cons (se_fld T.tab (se_v 0)) (sa_nil))))) (so_none))) (sa_cons (se_v 3) (sa_nil)))))))))
theorem ok_letter_in (T : Txt K mg Γ) : DefRun P w K mg base Γ 1 "letter_in" ["lasso", "turn"] m_letter_in := by
  have sc := sc_letter_in
  exact def_ok T.d_letter_in sc_letter_in (fun f cdv A outer s H E hr => ss_cons (ss_asg (se_v 0) (sg_tup rfl (sgs_cons (sg_name 2 sc.nd) (sgs_cons (sg_name 3 sc.nd) (sgs_nil))))) (ss_cons (ss_if (st_cmp op_lt lift_lt (se_v 1) (sb_len T.b_len (sa_cons (se_v 2) (sa_nil)))) (ss_one (ss_ret (se_ix ix_seq lift_ix (se_v 2) (se_v 1)))) (ss_nil)) (ss_one (ss_ret (se_ix ix_seq lift_ix (se_v 3) (se_op op_mod lift_mod (se_op op_sub lift_sub (se_v 1) (sb_len T.b_len (sa_cons (se_v 2) (sa_nil)))) (sb_len T.b_len (sa_cons (se_v 3) (sa_nil)))))))))
theorem ok_combine (T : Txt K mg Γ) : DefRun P w K mg base Γ 3 "combine" ["first", "second", "size"] m_combine := by
  have sc := sc_combine
  have c_letter_in := (ok_letter_in (P := P) (w := w) (base := base) T).call
  have c_shortest := (ok_shortest (P := P) (w := w) (base := base) T).call
  exact def_ok T.d_combine sc_combine (fun f cdv A outer s H E hr => ss_cons (ss_set 3 sc.nd (sb_max2 rfl T.b_max (sa_cons (sb_len T.b_len (sa_cons (se_ix ix_seq lift_ix (se_v 0) (se_int)) (sa_nil))) (sa_cons (sb_len T.b_len (sa_cons (se_ix ix_seq lift_ix (se_v 1) (se_int)) (sa_nil))) (sa_nil))))) (ss_cons (ss_set 4 sc.nd (sb_lcm T.b_lcm (sa_cons (sb_len T.b_len (sa_cons (se_ix ix_seq lift_ix (se_v 0) (se_int)) (sa_nil))) (sa_cons (sb_len T.b_len (sa_cons (se_ix ix_seq lift_ix (se_v 1) (se_int)) (sa_nil))) (sa_nil))))) (ss_cons (ss_set 5 sc.nd (se_lst true (sa_nil))) (ss_cons (ss_for (passes_of rfl) rfl (si_range1 T.b_range (sa_cons (se_op op_addAll lift_add (se_v 3) (se_v 4)) (sa_nil))) (sg_name 6 sc.nd) (ss_one (ss_expr (sm_append (se_v 5) (sa_cons (se_op op_addAll lift_add (sc_call (c_letter_in.mono (by decide)) hr (takes_of rfl rfl rfl rfl) (sa_cons (se_v 0) (sa_cons (se_v 6) (sa_nil)))) (se_op op_mulAll lift_mul (se_v 2) (sc_call (c_letter_in.mono (by decide)) hr (takes_of rfl rfl rfl rfl) (sa_cons (se_v 1) (sa_cons (se_v 6) (sa_nil)))))) (sa_nil)))))) (ss_one (ss_ret (sc_call (c_shortest.mono (by decide)) hr (takes_of rfl rfl rfl rfl) (sa_cons (se_slice sl_all lift_sl (se_v 5) (so_none) (so_some (se_v 3))) (sa_cons (se_slice sl_all lift_sl (se_v 5) (so_some (se_v 3)) (so_none)) (sa_nil))))))))))
theorem ok_trace (T : Txt K mg Γ) : DefRun P w K mg base Γ 4 "trace" ["machine", "lasso"] m_trace := by
  have sc := sc_trace
  have c_combine := (ok_combine (P := P) (w := w) (base := base) T).call
  have c_respond := (ok_respond (P := P) (w := w) (base := base) T).call
  exact def_ok T.d_trace sc_trace (fun f cdv A outer s H E hr => ss_one (ss_ret (sc_call (c_combine.mono (by decide)) hr (takes_of rfl rfl rfl rfl) (sa_cons (se_v 1) (sa_cons (sc_call (c_respond.mono (by decide)) hr (takes_of rfl rfl rfl rfl) (sa_cons (se_v 0) (sa_cons (se_v 1) (sa_nil)))) (sa_cons (se_fld T.tab (se_v 0)) (sa_nil)))))))
theorem ok_law_outcome (T : Txt K mg Γ) : DefRun P w K mg base Γ 5 "_law_outcome" ["_law_machine_here", "_law_lasso_here"] m_law_outcome := by
  have sc := sc_law_outcome
  have c_respond := (ok_respond (P := P) (w := w) (base := base) T).call
  have c_trace := (ok_trace (P := P) (w := w) (base := base) T).call
  exact def_ok T.d_law_outcome sc_law_outcome (fun f cdv A outer s H E hr => ss_cons (ss_set 2 sc.nd (se_lst true (sa_nil))) (ss_cons (ss_try rfl rfl (takes_of rfl rfl rfl rfl) (fun W' pn xe t1 t2 => ss_one (ss_expr (sm_append (se_v 2) (sa_cons (sc_call (c_respond.mono (by decide)) hr t1 (sa_cons (se_v 0) (sa_cons (se_v 1) (sa_nil)))) (sa_nil))))) (.cons ⟨rfl, by decide, .inl T.x_InvalidLetter.g⟩ (fun p hp => by simp only [List.mem_cons, List.not_mem_nil, or_false] at hp; subst hp; exact T.e_InvalidLetter_InvalidLetter) (fun a oe C d pn hz hf => ss_one (ss_expr (sm_append (se_v 2) (sa_cons (se_non) (sa_nil))))) (.nil))) (ss_cons (ss_try rfl rfl (takes_of rfl rfl rfl rfl) (fun W' pn xe t1 t2 => ss_one (ss_expr (sm_append (se_v 2) (sa_cons (sc_call (c_trace.mono (by decide)) hr t1 (sa_cons (se_v 0) (sa_cons (se_v 1) (sa_nil)))) (sa_nil))))) (.cons ⟨rfl, by decide, .inl T.x_InvalidLetter.g⟩ (fun p hp => by simp only [List.mem_cons, List.not_mem_nil, or_false] at hp; subst hp; exact T.e_InvalidLetter_InvalidLetter) (fun a oe C d pn hz hf => ss_one (ss_expr (sm_append (se_v 2) (sa_cons (se_non) (sa_nil))))) (.nil))) (ss_one (ss_ret (se_v 2))))))
theorem ok_law (T : Txt K mg Γ) : DefRun P w K mg base Γ 6 "law" ["_law_script"] m_law := by
  have sc := sc_law
  have c_Machine_call := ok_Machine_call (P := P) (w := w) (base := base) T
  have c_Machine_init := ok_Machine_init (P := P) (w := w) (base := base) T
  have c_law_at := (ok_law_at (P := P) (w := w) (base := base) T).call
  have c_law_draws := (ok_law_draws (P := P) (w := w) (base := base) T).call
  have c_law_flat := (ok_law_flat (P := P) (w := w) (base := base) T).call
  have c_law_is_lasso := (ok_law_is_lasso (P := P) (w := w) (base := base) T).call
  have c_law_joint := (ok_law_joint (P := P) (w := w) (base := base) T).call
  have c_law_lasso := (ok_law_lasso (P := P) (w := w) (base := base) T).call
  have c_law_machine := (ok_law_machine (P := P) (w := w) (base := base) T).call
  have c_law_outcome := (ok_law_outcome (P := P) (w := w) (base := base) T).call
  have c_law_said := (ok_law_said (P := P) (w := w) (base := base) T).call
  have c_law_same := (ok_law_same (P := P) (w := w) (base := base) T).call
  have c_law_take := (ok_law_take (P := P) (w := w) (base := base) T).call
  exact def_ok T.d_law sc_law (fun f cdv A outer s H E hr => ss_cons (ss_set 1 sc.nd (sc_call (c_law_draws.mono (by decide)) hr (takes_of rfl rfl rfl rfl) (sa_cons (se_v 0) (sa_cons (se_int) (sa_nil))))) (ss_cons (ss_set 2 sc.nd (se_op op_addAll lift_add (se_int) (sc_call (c_law_take.mono (by decide)) hr (takes_of rfl rfl rfl rfl) (sa_cons (se_v 1) (sa_cons (se_int) (sa_nil)))))) (ss_cons (ss_set 3 sc.nd (se_op op_addAll lift_add (se_int) (sc_call (c_law_take.mono (by decide)) hr (takes_of rfl rfl rfl rfl) (sa_cons (se_v 1) (sa_cons (se_int) (sa_nil)))))) (ss_cons (ss_set 4 sc.nd (se_op op_sub lift_sub (sc_call (c_law_take.mono (by decide)) hr (takes_of rfl rfl rfl rfl) (sa_cons (se_v 1) (sa_cons (se_int) (sa_nil)))) (se_int))) (ss_cons (ss_asg (sc_call (c_law_machine.mono (by decide)) hr (takes_of rfl rfl rfl rfl) (sa_cons (se_v 1) (sa_cons (se_v 2) (sa_cons (se_v 3) (sa_cons (se_v 4) (sa_cons (se_int) (sa_nil))))))) (sg_tup rfl (sgs_cons (sg_name 5 sc.nd) (sgs_cons (sg_name 6 sc.nd) (sgs_nil))))) (ss_cons (ss_set 7 sc.nd (sc_make true (c_Machine_init.mono (by decide)) hr (takes_of rfl rfl rfl rfl) (sa_cons (se_v 2) (sa_cons (se_v 3) (sa_cons (se_v 4) (sa_cons (sb_list false T.b_list (sa_cons (se_v 5) (sa_nil))) (sa_cons (sc_call (c_law_flat.mono (by decide)) hr (takes_of rfl rfl rfl rfl) (sa_cons (se_v 6) (sa_nil))) (sa_nil)))))))) (ss_cons (ss_set 8 sc.nd (sc_call (c_law_lasso.mono (by decide)) hr (takes_of rfl rfl rfl rfl) (sa_cons (se_v 1) (sa_cons (se_v 2) (sa_cons (se_int) (sa_nil)))))) (ss_cons (ss_if (st_cmp (op_eqD hr.units) lift_eq (sc_call (c_law_take.mono (by decide)) hr (takes_of rfl rfl rfl rfl) (sa_cons (se_v 1) (sa_cons (se_int) (sa_nil)))) (se_int)) (ss_one (ss_ret (se_cmp (op_eqD hr.units) lift_eq (sc_call (c_law_outcome.mono (by decide)) hr (takes_of rfl rfl rfl rfl) (sa_cons (se_v 7) (sa_cons (se_tup (sa_cons (se_op op_addAll lift_add (se_ix ix_seq lift_ix (se_v 8) (se_int)) (se_tup (sa_cons (se_v 2) (sa_nil)))) (sa_cons (se_ix ix_seq lift_ix (se_v 8) (se_int)) (sa_nil)))) (sa_nil)))) (se_lst false (sa_cons (se_non) (sa_cons (se_non) (sa_nil))))))) (ss_nil)) (ss_cons (ss_set 9 sc.nd (sc_call (c_law_outcome.mono (by decide)) hr (takes_of rfl rfl rfl rfl) (sa_cons (se_v 7) (sa_cons (se_v 8) (sa_nil))))) (ss_cons (ss_if ((sw_or (st_cmp op_isN lift_isN (se_ix ix_seq lift_ix (se_v 9) (se_int)) (se_non)) (sw_or1 (st_cmp op_isN lift_isN (se_ix ix_seq lift_ix (se_v 9) (se_int)) (se_non)))).st) (ss_one (ss_ret (se_bl))) (ss_nil)) (ss_cons (ss_if ((sw_or (st_not (st_val (sc_call (c_law_is_lasso.mono (by decide)) hr (takes_of rfl rfl rfl rfl) (sa_cons (se_ix ix_seq lift_ix (se_v 9) (se_int)) (sa_cons (se_v 3) (sa_nil)))))) (sw_or1 (st_not (st_val (sc_call (c_law_is_lasso.mono (by decide)) hr (takes_of rfl rfl rfl rfl) (sa_cons (se_ix ix_seq lift_ix (se_v 9) (se_int)) (sa_cons (se_op op_mulAll lift_mul (se_v 2) (se_v 3)) (sa_nil)))))))).st) (ss_one (ss_ret (se_bl))) (ss_nil)) (ss_cons (ss_set 10 sc.nd (sc_call (c_law_said.mono (by decide)) hr (takes_of rfl rfl rfl rfl) (sa_cons (se_v 6) (sa_cons (se_v 5) (sa_cons (se_v 4) (sa_cons (se_v 8) (sa_nil))))))) (ss_cons (ss_if ((sw_or (st_not (st_val (sc_call (c_law_same.mono (by decide)) hr (takes_of rfl rfl rfl rfl) (sa_cons (se_ix ix_seq lift_ix (se_v 9) (se_int)) (sa_cons (se_v 10) (sa_nil)))))) (sw_or1 (st_not (st_val (sc_call (c_law_same.mono (by decide)) hr (takes_of rfl rfl rfl rfl) (sa_cons (se_ix ix_seq lift_ix (se_v 9) (se_int)) (sa_cons (sc_call (c_law_joint.mono (by decide)) hr (takes_of rfl rfl rfl rfl) (sa_cons (se_v 8) (sa_cons (se_v 10) (sa_cons (se_v 2) (sa_nil))))) (sa_nil)))))))).st) (ss_one (ss_ret (se_bl))) (ss_nil)) (ss_cons (ss_setLc (own := [("_law_turn", 12)]) false 11 rfl sc.nd (sw_true rfl rfl rfl (by decide +kernel)) (si_range1 T.b_range (sa_cons (se_int) (sa_nil))) (blkOk_by (own := [("_law_turn", 12)]) (N := ["_law_script", "_law_draws_here", "_law_inputs", "_law_outputs", "_law_lead", "_law_opening", "_law_rows", "_law_machine_here", "_law_lasso_here", "_law_found", "_law_said_here", "_law_heard", "_law_turn"]) (sc := defScope s_law) (by decide +kernel)) (.nm (by decide) fun _ _ _ _ _ => pg_name (i := 12) sc.nd rfl (Or.inl rfl)) (fun _ _ _ _ _ => sts_nil) (fun _ _ _ _ _ => sc_call (c_law_at.mono (by decide)) hr takes0 (sa_cons (se_v 8) (sa_cons (se_v 12) (sa_nil))))) (ss_one (ss_ret (se_cmp (op_eqD hr.units) lift_eq (sc_callO (c_Machine_call.mono (by decide)) hr (takes_of rfl rfl rfl rfl) (se_v 7) (sa_cons (se_v 11) (sa_nil))) (se_comp (own := [("_law_turn", 12)]) false rfl sc.nd (si_range1 T.b_range (sa_cons (sb_max2 rfl T.b_max (sa_cons (se_int) (sa_cons (se_op op_sub lift_sub (se_int) (se_v 4)) (sa_nil)))) (sa_nil))) (blkOk_by (own := [("_law_turn", 12)]) (N := ["_law_script", "_law_draws_here", "_law_inputs", "_law_outputs", "_law_lead", "_law_opening", "_law_rows", "_law_machine_here", "_law_lasso_here", "_law_found", "_law_said_here", "_law_heard", "_law_turn"]) (sc := defScope s_law) (by decide +kernel)) (.nm (by decide) fun _ _ _ _ _ => pg_name (i := 12) sc.nd rfl (Or.inl rfl)) (fun _ _ _ _ _ => sts_nil) (fun _ _ _ _ _ => sc_call (c_law_at.mono (by decide)) hr takes0 (sa_cons (se_ix ix_seq lift_ix (se_v 9) (se_int)) (sa_cons (se_v 12) (sa_nil))))))))))))))))))))))
end
/-! ### the end -/
def gm (l : List (Str × Addr)) : Gm := ⟨fun s => (l.lookup s).getD 0, fun _ => ""⟩
theorem txt_mk {K : PySem.W.Frag} {h : Heap} {mg : Str → Option Value} (X : K.In h) (G : h.Ns mainGlobals mg)
    {C_Machine : Addr}
    {f_all_below : Addr} {od_all_below an_all_below : Option Addr} {sl_all_below : Array (Option Value)} {oc_all_below kV_all_below dc_all_below pm_all_below cd_all_below ct_all_below : Value}
    {f_Machine_init : Addr} {od_Machine_init an_Machine_init : Option Addr} {sl_Machine_init : Array (Option Value)} {oc_Machine_init kV_Machine_init dc_Machine_init pm_Machine_init cd_Machine_init ct_Machine_init : Value}
    {f_emissions : Addr} {od_emissions an_emissions : Option Addr} {sl_emissions : Array (Option Value)} {oc_emissions kV_emissions dc_emissions pm_emissions cd_emissions ct_emissions : Value}
    {f_Machine_call : Addr} {od_Machine_call an_Machine_call : Option Addr} {sl_Machine_call : Array (Option Value)} {oc_Machine_call kV_Machine_call dc_Machine_call pm_Machine_call cd_Machine_call ct_Machine_call : Value}
    {f_law_draws : Addr} {od_law_draws an_law_draws : Option Addr} {sl_law_draws : Array (Option Value)} {oc_law_draws kV_law_draws dc_law_draws pm_law_draws cd_law_draws ct_law_draws : Value}
    {f_law_take : Addr} {od_law_take an_law_take : Option Addr} {sl_law_take : Array (Option Value)} {oc_law_take kV_law_take dc_law_take pm_law_take cd_law_take ct_law_take : Value}
    {f_law_is_integer : Addr} {od_law_is_integer an_law_is_integer : Option Addr} {sl_law_is_integer : Array (Option Value)} {oc_law_is_integer kV_law_is_integer dc_law_is_integer pm_law_is_integer cd_law_is_integer ct_law_is_integer : Value}
    {f_law_integers : Addr} {od_law_integers an_law_integers : Option Addr} {sl_law_integers : Array (Option Value)} {oc_law_integers kV_law_integers dc_law_integers pm_law_integers cd_law_integers ct_law_integers : Value}
    {f_law_normal : Addr} {od_law_normal an_law_normal : Option Addr} {sl_law_normal : Array (Option Value)} {oc_law_normal kV_law_normal dc_law_normal pm_law_normal cd_law_normal ct_law_normal : Value}
    {f_law_is_lasso : Addr} {od_law_is_lasso an_law_is_lasso : Option Addr} {sl_law_is_lasso : Array (Option Value)} {oc_law_is_lasso kV_law_is_lasso dc_law_is_lasso pm_law_is_lasso cd_law_is_lasso ct_law_is_lasso : Value}
    {f_law_at : Addr} {od_law_at an_law_at : Option Addr} {sl_law_at : Array (Option Value)} {oc_law_at kV_law_at dc_law_at pm_law_at cd_law_at ct_law_at : Value}
    {f_law_same : Addr} {od_law_same an_law_same : Option Addr} {sl_law_same : Array (Option Value)} {oc_law_same kV_law_same dc_law_same pm_law_same cd_law_same ct_law_same : Value}
    {f_law_lasso : Addr} {od_law_lasso an_law_lasso : Option Addr} {sl_law_lasso : Array (Option Value)} {oc_law_lasso kV_law_lasso dc_law_lasso pm_law_lasso cd_law_lasso ct_law_lasso : Value}
    {f_law_flat : Addr} {od_law_flat an_law_flat : Option Addr} {sl_law_flat : Array (Option Value)} {oc_law_flat kV_law_flat dc_law_flat pm_law_flat cd_law_flat ct_law_flat : Value}
    {f_law_machine : Addr} {od_law_machine an_law_machine : Option Addr} {sl_law_machine : Array (Option Value)} {oc_law_machine kV_law_machine dc_law_machine pm_law_machine cd_law_machine ct_law_machine : Value}
    {f_law_emissions : Addr} {od_law_emissions an_law_emissions : Option Addr} {sl_law_emissions : Array (Option Value)} {oc_law_emissions kV_law_emissions dc_law_emissions pm_law_emissions cd_law_emissions ct_law_emissions : Value}
    {f_law_said : Addr} {od_law_said an_law_said : Option Addr} {sl_law_said : Array (Option Value)} {oc_law_said kV_law_said dc_law_said pm_law_said cd_law_said ct_law_said : Value}
    {f_law_joint : Addr} {od_law_joint an_law_joint : Option Addr} {sl_law_joint : Array (Option Value)} {oc_law_joint kV_law_joint dc_law_joint pm_law_joint cd_law_joint ct_law_joint : Value}
    {f_repeats : Addr} {od_repeats an_repeats : Option Addr} {sl_repeats : Array (Option Value)} {oc_repeats kV_repeats dc_repeats pm_repeats cd_repeats ct_repeats : Value}
    {f_shortest : Addr} {od_shortest an_shortest : Option Addr} {sl_shortest : Array (Option Value)} {oc_shortest kV_shortest dc_shortest pm_shortest cd_shortest ct_shortest : Value}
    {f_check_letters : Addr} {od_check_letters an_check_letters : Option Addr} {sl_check_letters : Array (Option Value)} {oc_check_letters kV_check_letters dc_check_letters pm_check_letters cd_check_letters ct_check_letters : Value}
    {f_emission_lasso : Addr} {od_emission_lasso an_emission_lasso : Option Addr} {sl_emission_lasso : Array (Option Value)} {oc_emission_lasso kV_emission_lasso dc_emission_lasso pm_emission_lasso cd_emission_lasso ct_emission_lasso : Value}
    {f_respond : Addr} {od_respond an_respond : Option Addr} {sl_respond : Array (Option Value)} {oc_respond kV_respond dc_respond pm_respond cd_respond ct_respond : Value}
    {f_letter_in : Addr} {od_letter_in an_letter_in : Option Addr} {sl_letter_in : Array (Option Value)} {oc_letter_in kV_letter_in dc_letter_in pm_letter_in cd_letter_in ct_letter_in : Value}
    {f_combine : Addr} {od_combine an_combine : Option Addr} {sl_combine : Array (Option Value)} {oc_combine kV_combine dc_combine pm_combine cd_combine ct_combine : Value}
    {f_trace : Addr} {od_trace an_trace : Option Addr} {sl_trace : Array (Option Value)} {oc_trace kV_trace dc_trace pm_trace cd_trace ct_trace : Value}
    {f_law_outcome : Addr} {od_law_outcome an_law_outcome : Option Addr} {sl_law_outcome : Array (Option Value)} {oc_law_outcome kV_law_outcome dc_law_outcome pm_law_outcome cd_law_outcome ct_law_outcome : Value}
    {f_law : Addr} {od_law an_law : Option Addr} {sl_law : Array (Option Value)} {oc_law kV_law dc_law pm_law cd_law ct_law : Value}
    {C_InvalidLetter : Addr}
    {C_InvalidMachine : Addr}
    (oa_Machine : PySem.W.nsIn K mainGlobals "Machine" = some (some (.ref C_Machine)))
    (og_Machine : PySem.W.plainGet K C_Machine Str.empty = true)
    (oh_Machine : PySem.W.hasDictIn K C_Machine = true)
    (oo_Machine : PySem.W.plainOver K C_Machine = true)
    (os_Machine : PySem.W.findIn K (.ref C_Machine) "__setattr__" = some (some (.builtin "object.__setattr__")))
    (om_Machine : PySem.W.makesIn K C_Machine = true)
    (ok_Machine : PySem.W.keepIn K (.ref C_Machine) = true)
    (on_Machine_inputs : PySem.W.findIn K (.ref C_Machine) "inputs" = some none)
    (on_Machine_outputs : PySem.W.findIn K (.ref C_Machine) "outputs" = some none)
    (on_Machine_lead : PySem.W.findIn K (.ref C_Machine) "lead" = some none)
    (on_Machine_opening : PySem.W.findIn K (.ref C_Machine) "opening" = some none)
    (on_Machine_rows : PySem.W.findIn K (.ref C_Machine) "rows" = some none)
    (a_all_below : PySem.W.nsIn K mainGlobals "all_below" = some (some (.ref f_all_below)))
    (l_all_below : K.lookup f_all_below = some ⟨oc_all_below, od_all_below, .func (PySem.W.fnOf "all_below" "all_below" (defArgs s_all_below) (defBody s_all_below) (defScope s_all_below) .none kV_all_below dc_all_below pm_all_below an_all_below cd_all_below ct_all_below), sl_all_below⟩)
    (c_all_below : PySem.W.codeIn K cd_all_below "all_below" = true)
    (k_all_below : PySem.W.keepIn K (.ref f_all_below) = true)
    (a_Machine_init : PySem.W.findIn K (.ref C_Machine) "__init__" = some (some (.ref f_Machine_init)))
    (l_Machine_init : K.lookup f_Machine_init = some ⟨oc_Machine_init, od_Machine_init, .func (PySem.W.fnOf "__init__" "Machine.__init__" (defArgs s_Machine_init) (defBody s_Machine_init) (defScope s_Machine_init) .none kV_Machine_init dc_Machine_init pm_Machine_init an_Machine_init cd_Machine_init ct_Machine_init), sl_Machine_init⟩)
    (c_Machine_init : PySem.W.codeIn K cd_Machine_init "Machine.__init__" = true)
    (k_Machine_init : PySem.W.keepIn K (.ref f_Machine_init) = true)
    (i_Machine_init : PySem.W.isFn K (.ref f_Machine_init) = true)
    (a_emissions : PySem.W.nsIn K mainGlobals "emissions" = some (some (.ref f_emissions)))
    (l_emissions : K.lookup f_emissions = some ⟨oc_emissions, od_emissions, .func (PySem.W.fnOf "emissions" "emissions" (defArgs s_emissions) (defBody s_emissions) (defScope s_emissions) .none kV_emissions dc_emissions pm_emissions an_emissions cd_emissions ct_emissions), sl_emissions⟩)
    (c_emissions : PySem.W.codeIn K cd_emissions "emissions" = true)
    (k_emissions : PySem.W.keepIn K (.ref f_emissions) = true)
    (a_Machine_call : PySem.W.findIn K (.ref C_Machine) "__call__" = some (some (.ref f_Machine_call)))
    (fi_Machine_call : PySem.W.fnIn K f_Machine_call = true)
    (l_Machine_call : K.lookup f_Machine_call = some ⟨oc_Machine_call, od_Machine_call, .func (PySem.W.fnOf "__call__" "Machine.__call__" (defArgs s_Machine_call) (defBody s_Machine_call) (defScope s_Machine_call) .none kV_Machine_call dc_Machine_call pm_Machine_call an_Machine_call cd_Machine_call ct_Machine_call), sl_Machine_call⟩)
    (c_Machine_call : PySem.W.codeIn K cd_Machine_call "Machine.__call__" = true)
    (k_Machine_call : PySem.W.keepIn K (.ref f_Machine_call) = true)
    (i_Machine_call : PySem.W.isFn K (.ref f_Machine_call) = true)
    (a_law_draws : PySem.W.nsIn K mainGlobals "_law_draws" = some (some (.ref f_law_draws)))
    (l_law_draws : K.lookup f_law_draws = some ⟨oc_law_draws, od_law_draws, .func (PySem.W.fnOf "_law_draws" "_law_draws" (defArgs s_law_draws) (defBody s_law_draws) (defScope s_law_draws) .none kV_law_draws dc_law_draws pm_law_draws an_law_draws cd_law_draws ct_law_draws), sl_law_draws⟩)
    (c_law_draws : PySem.W.codeIn K cd_law_draws "_law_draws" = true)
    (k_law_draws : PySem.W.keepIn K (.ref f_law_draws) = true)
    (a_law_take : PySem.W.nsIn K mainGlobals "_law_take" = some (some (.ref f_law_take)))
    (l_law_take : K.lookup f_law_take = some ⟨oc_law_take, od_law_take, .func (PySem.W.fnOf "_law_take" "_law_take" (defArgs s_law_take) (defBody s_law_take) (defScope s_law_take) .none kV_law_take dc_law_take pm_law_take an_law_take cd_law_take ct_law_take), sl_law_take⟩)
    (c_law_take : PySem.W.codeIn K cd_law_take "_law_take" = true)
    (k_law_take : PySem.W.keepIn K (.ref f_law_take) = true)
    (a_law_is_integer : PySem.W.nsIn K mainGlobals "_law_is_integer" = some (some (.ref f_law_is_integer)))
    (l_law_is_integer : K.lookup f_law_is_integer = some ⟨oc_law_is_integer, od_law_is_integer, .func (PySem.W.fnOf "_law_is_integer" "_law_is_integer" (defArgs s_law_is_integer) (defBody s_law_is_integer) (defScope s_law_is_integer) .none kV_law_is_integer dc_law_is_integer pm_law_is_integer an_law_is_integer cd_law_is_integer ct_law_is_integer), sl_law_is_integer⟩)
    (c_law_is_integer : PySem.W.codeIn K cd_law_is_integer "_law_is_integer" = true)
    (k_law_is_integer : PySem.W.keepIn K (.ref f_law_is_integer) = true)
    (a_law_integers : PySem.W.nsIn K mainGlobals "_law_integers" = some (some (.ref f_law_integers)))
    (l_law_integers : K.lookup f_law_integers = some ⟨oc_law_integers, od_law_integers, .func (PySem.W.fnOf "_law_integers" "_law_integers" (defArgs s_law_integers) (defBody s_law_integers) (defScope s_law_integers) .none kV_law_integers dc_law_integers pm_law_integers an_law_integers cd_law_integers ct_law_integers), sl_law_integers⟩)
    (c_law_integers : PySem.W.codeIn K cd_law_integers "_law_integers" = true)
    (k_law_integers : PySem.W.keepIn K (.ref f_law_integers) = true)
    (a_law_normal : PySem.W.nsIn K mainGlobals "_law_normal" = some (some (.ref f_law_normal)))
    (l_law_normal : K.lookup f_law_normal = some ⟨oc_law_normal, od_law_normal, .func (PySem.W.fnOf "_law_normal" "_law_normal" (defArgs s_law_normal) (defBody s_law_normal) (defScope s_law_normal) .none kV_law_normal dc_law_normal pm_law_normal an_law_normal cd_law_normal ct_law_normal), sl_law_normal⟩)
    (c_law_normal : PySem.W.codeIn K cd_law_normal "_law_normal" = true)
    (k_law_normal : PySem.W.keepIn K (.ref f_law_normal) = true)
    (a_law_is_lasso : PySem.W.nsIn K mainGlobals "_law_is_lasso" = some (some (.ref f_law_is_lasso)))
    (l_law_is_lasso : K.lookup f_law_is_lasso = some ⟨oc_law_is_lasso, od_law_is_lasso, .func (PySem.W.fnOf "_law_is_lasso" "_law_is_lasso" (defArgs s_law_is_lasso) (defBody s_law_is_lasso) (defScope s_law_is_lasso) .none kV_law_is_lasso dc_law_is_lasso pm_law_is_lasso an_law_is_lasso cd_law_is_lasso ct_law_is_lasso), sl_law_is_lasso⟩)
    (c_law_is_lasso : PySem.W.codeIn K cd_law_is_lasso "_law_is_lasso" = true)
    (k_law_is_lasso : PySem.W.keepIn K (.ref f_law_is_lasso) = true)
    (a_law_at : PySem.W.nsIn K mainGlobals "_law_at" = some (some (.ref f_law_at)))
    (l_law_at : K.lookup f_law_at = some ⟨oc_law_at, od_law_at, .func (PySem.W.fnOf "_law_at" "_law_at" (defArgs s_law_at) (defBody s_law_at) (defScope s_law_at) .none kV_law_at dc_law_at pm_law_at an_law_at cd_law_at ct_law_at), sl_law_at⟩)
    (c_law_at : PySem.W.codeIn K cd_law_at "_law_at" = true)
    (k_law_at : PySem.W.keepIn K (.ref f_law_at) = true)
    (a_law_same : PySem.W.nsIn K mainGlobals "_law_same" = some (some (.ref f_law_same)))
    (l_law_same : K.lookup f_law_same = some ⟨oc_law_same, od_law_same, .func (PySem.W.fnOf "_law_same" "_law_same" (defArgs s_law_same) (defBody s_law_same) (defScope s_law_same) .none kV_law_same dc_law_same pm_law_same an_law_same cd_law_same ct_law_same), sl_law_same⟩)
    (c_law_same : PySem.W.codeIn K cd_law_same "_law_same" = true)
    (k_law_same : PySem.W.keepIn K (.ref f_law_same) = true)
    (a_law_lasso : PySem.W.nsIn K mainGlobals "_law_lasso" = some (some (.ref f_law_lasso)))
    (l_law_lasso : K.lookup f_law_lasso = some ⟨oc_law_lasso, od_law_lasso, .func (PySem.W.fnOf "_law_lasso" "_law_lasso" (defArgs s_law_lasso) (defBody s_law_lasso) (defScope s_law_lasso) .none kV_law_lasso dc_law_lasso pm_law_lasso an_law_lasso cd_law_lasso ct_law_lasso), sl_law_lasso⟩)
    (c_law_lasso : PySem.W.codeIn K cd_law_lasso "_law_lasso" = true)
    (k_law_lasso : PySem.W.keepIn K (.ref f_law_lasso) = true)
    (a_law_flat : PySem.W.nsIn K mainGlobals "_law_flat" = some (some (.ref f_law_flat)))
    (l_law_flat : K.lookup f_law_flat = some ⟨oc_law_flat, od_law_flat, .func (PySem.W.fnOf "_law_flat" "_law_flat" (defArgs s_law_flat) (defBody s_law_flat) (defScope s_law_flat) .none kV_law_flat dc_law_flat pm_law_flat an_law_flat cd_law_flat ct_law_flat), sl_law_flat⟩)
    (c_law_flat : PySem.W.codeIn K cd_law_flat "_law_flat" = true)
    (k_law_flat : PySem.W.keepIn K (.ref f_law_flat) = true)
    (a_law_machine : PySem.W.nsIn K mainGlobals "_law_machine" = some (some (.ref f_law_machine)))
    (l_law_machine : K.lookup f_law_machine = some ⟨oc_law_machine, od_law_machine, .func (PySem.W.fnOf "_law_machine" "_law_machine" (defArgs s_law_machine) (defBody s_law_machine) (defScope s_law_machine) .none kV_law_machine dc_law_machine pm_law_machine an_law_machine cd_law_machine ct_law_machine), sl_law_machine⟩)
    (c_law_machine : PySem.W.codeIn K cd_law_machine "_law_machine" = true)
    (k_law_machine : PySem.W.keepIn K (.ref f_law_machine) = true)
    (a_law_emissions : PySem.W.nsIn K mainGlobals "_law_emissions" = some (some (.ref f_law_emissions)))
    (l_law_emissions : K.lookup f_law_emissions = some ⟨oc_law_emissions, od_law_emissions, .func (PySem.W.fnOf "_law_emissions" "_law_emissions" (defArgs s_law_emissions) (defBody s_law_emissions) (defScope s_law_emissions) .none kV_law_emissions dc_law_emissions pm_law_emissions an_law_emissions cd_law_emissions ct_law_emissions), sl_law_emissions⟩)
    (c_law_emissions : PySem.W.codeIn K cd_law_emissions "_law_emissions" = true)
    (k_law_emissions : PySem.W.keepIn K (.ref f_law_emissions) = true)
    (a_law_said : PySem.W.nsIn K mainGlobals "_law_said" = some (some (.ref f_law_said)))
    (l_law_said : K.lookup f_law_said = some ⟨oc_law_said, od_law_said, .func (PySem.W.fnOf "_law_said" "_law_said" (defArgs s_law_said) (defBody s_law_said) (defScope s_law_said) .none kV_law_said dc_law_said pm_law_said an_law_said cd_law_said ct_law_said), sl_law_said⟩)
    (c_law_said : PySem.W.codeIn K cd_law_said "_law_said" = true)
    (k_law_said : PySem.W.keepIn K (.ref f_law_said) = true)
    (a_law_joint : PySem.W.nsIn K mainGlobals "_law_joint" = some (some (.ref f_law_joint)))
    (l_law_joint : K.lookup f_law_joint = some ⟨oc_law_joint, od_law_joint, .func (PySem.W.fnOf "_law_joint" "_law_joint" (defArgs s_law_joint) (defBody s_law_joint) (defScope s_law_joint) .none kV_law_joint dc_law_joint pm_law_joint an_law_joint cd_law_joint ct_law_joint), sl_law_joint⟩)
    (c_law_joint : PySem.W.codeIn K cd_law_joint "_law_joint" = true)
    (k_law_joint : PySem.W.keepIn K (.ref f_law_joint) = true)
    (a_repeats : PySem.W.nsIn K mainGlobals "repeats" = some (some (.ref f_repeats)))
    (l_repeats : K.lookup f_repeats = some ⟨oc_repeats, od_repeats, .func (PySem.W.fnOf "repeats" "repeats" (defArgs s_repeats) (defBody s_repeats) (defScope s_repeats) .none kV_repeats dc_repeats pm_repeats an_repeats cd_repeats ct_repeats), sl_repeats⟩)
    (c_repeats : PySem.W.codeIn K cd_repeats "repeats" = true)
    (k_repeats : PySem.W.keepIn K (.ref f_repeats) = true)
    (a_shortest : PySem.W.nsIn K mainGlobals "shortest" = some (some (.ref f_shortest)))
    (l_shortest : K.lookup f_shortest = some ⟨oc_shortest, od_shortest, .func (PySem.W.fnOf "shortest" "shortest" (defArgs s_shortest) (defBody s_shortest) (defScope s_shortest) .none kV_shortest dc_shortest pm_shortest an_shortest cd_shortest ct_shortest), sl_shortest⟩)
    (c_shortest : PySem.W.codeIn K cd_shortest "shortest" = true)
    (k_shortest : PySem.W.keepIn K (.ref f_shortest) = true)
    (a_check_letters : PySem.W.nsIn K mainGlobals "check_letters" = some (some (.ref f_check_letters)))
    (l_check_letters : K.lookup f_check_letters = some ⟨oc_check_letters, od_check_letters, .func (PySem.W.fnOf "check_letters" "check_letters" (defArgs s_check_letters) (defBody s_check_letters) (defScope s_check_letters) .none kV_check_letters dc_check_letters pm_check_letters an_check_letters cd_check_letters ct_check_letters), sl_check_letters⟩)
    (c_check_letters : PySem.W.codeIn K cd_check_letters "check_letters" = true)
    (k_check_letters : PySem.W.keepIn K (.ref f_check_letters) = true)
    (a_emission_lasso : PySem.W.nsIn K mainGlobals "emission_lasso" = some (some (.ref f_emission_lasso)))
    (l_emission_lasso : K.lookup f_emission_lasso = some ⟨oc_emission_lasso, od_emission_lasso, .func (PySem.W.fnOf "emission_lasso" "emission_lasso" (defArgs s_emission_lasso) (defBody s_emission_lasso) (defScope s_emission_lasso) .none kV_emission_lasso dc_emission_lasso pm_emission_lasso an_emission_lasso cd_emission_lasso ct_emission_lasso), sl_emission_lasso⟩)
    (c_emission_lasso : PySem.W.codeIn K cd_emission_lasso "emission_lasso" = true)
    (k_emission_lasso : PySem.W.keepIn K (.ref f_emission_lasso) = true)
    (a_respond : PySem.W.nsIn K mainGlobals "respond" = some (some (.ref f_respond)))
    (l_respond : K.lookup f_respond = some ⟨oc_respond, od_respond, .func (PySem.W.fnOf "respond" "respond" (defArgs s_respond) (defBody s_respond) (defScope s_respond) .none kV_respond dc_respond pm_respond an_respond cd_respond ct_respond), sl_respond⟩)
    (c_respond : PySem.W.codeIn K cd_respond "respond" = true)
    (k_respond : PySem.W.keepIn K (.ref f_respond) = true)
    (a_letter_in : PySem.W.nsIn K mainGlobals "letter_in" = some (some (.ref f_letter_in)))
    (l_letter_in : K.lookup f_letter_in = some ⟨oc_letter_in, od_letter_in, .func (PySem.W.fnOf "letter_in" "letter_in" (defArgs s_letter_in) (defBody s_letter_in) (defScope s_letter_in) .none kV_letter_in dc_letter_in pm_letter_in an_letter_in cd_letter_in ct_letter_in), sl_letter_in⟩)
    (c_letter_in : PySem.W.codeIn K cd_letter_in "letter_in" = true)
    (k_letter_in : PySem.W.keepIn K (.ref f_letter_in) = true)
    (a_combine : PySem.W.nsIn K mainGlobals "combine" = some (some (.ref f_combine)))
    (l_combine : K.lookup f_combine = some ⟨oc_combine, od_combine, .func (PySem.W.fnOf "combine" "combine" (defArgs s_combine) (defBody s_combine) (defScope s_combine) .none kV_combine dc_combine pm_combine an_combine cd_combine ct_combine), sl_combine⟩)
    (c_combine : PySem.W.codeIn K cd_combine "combine" = true)
    (k_combine : PySem.W.keepIn K (.ref f_combine) = true)
    (a_trace : PySem.W.nsIn K mainGlobals "trace" = some (some (.ref f_trace)))
    (l_trace : K.lookup f_trace = some ⟨oc_trace, od_trace, .func (PySem.W.fnOf "trace" "trace" (defArgs s_trace) (defBody s_trace) (defScope s_trace) .none kV_trace dc_trace pm_trace an_trace cd_trace ct_trace), sl_trace⟩)
    (c_trace : PySem.W.codeIn K cd_trace "trace" = true)
    (k_trace : PySem.W.keepIn K (.ref f_trace) = true)
    (a_law_outcome : PySem.W.nsIn K mainGlobals "_law_outcome" = some (some (.ref f_law_outcome)))
    (l_law_outcome : K.lookup f_law_outcome = some ⟨oc_law_outcome, od_law_outcome, .func (PySem.W.fnOf "_law_outcome" "_law_outcome" (defArgs s_law_outcome) (defBody s_law_outcome) (defScope s_law_outcome) .none kV_law_outcome dc_law_outcome pm_law_outcome an_law_outcome cd_law_outcome ct_law_outcome), sl_law_outcome⟩)
    (c_law_outcome : PySem.W.codeIn K cd_law_outcome "_law_outcome" = true)
    (k_law_outcome : PySem.W.keepIn K (.ref f_law_outcome) = true)
    (a_law : PySem.W.nsIn K mainGlobals "law" = some (some (.ref f_law)))
    (l_law : K.lookup f_law = some ⟨oc_law, od_law, .func (PySem.W.fnOf "law" "law" (defArgs s_law) (defBody s_law) (defScope s_law) .none kV_law dc_law pm_law an_law cd_law ct_law), sl_law⟩)
    (c_law : PySem.W.codeIn K cd_law "law" = true)
    (k_law : PySem.W.keepIn K (.ref f_law) = true)
    (z_bool : PySem.W.nsIn K mainGlobals "bool" = some none)
    (z_int : PySem.W.nsIn K mainGlobals "int" = some none)
    (z_isinstance : PySem.W.nsIn K mainGlobals "isinstance" = some none)
    (z_len : PySem.W.nsIn K mainGlobals "len" = some none)
    (z_list : PySem.W.nsIn K mainGlobals "list" = some none)
    (z_max : PySem.W.nsIn K mainGlobals "max" = some none)
    (z_range : PySem.W.nsIn K mainGlobals "range" = some none)
    (z_tuple : PySem.W.nsIn K mainGlobals "tuple" = some none)
    (z_lcm : PySem.W.nsIn K mainGlobals "lcm" = some (some (.builtin "math.lcm")))
    (xa_InvalidLetter : PySem.W.nsIn K mainGlobals "InvalidLetter" = some (some (.ref C_InvalidLetter)))
    (xq_InvalidLetter : PySem.W.excIn K C_InvalidLetter [.type "ValueError", .type "Exception", .type "BaseException", .type "object"] "ValueError.__new__" = true)
    (xk_InvalidLetter : PySem.W.keepIn K (.ref C_InvalidLetter) = true)
    (xb_InvalidLetter : PySem.W.subIn K (.ref C_InvalidLetter) (.type "BaseException") = some true)
    (xt_InvalidLetter : PySem.W.typeIn K (.ref C_InvalidLetter) = some (.type "type"))
    (xa_InvalidMachine : PySem.W.nsIn K mainGlobals "InvalidMachine" = some (some (.ref C_InvalidMachine)))
    (xq_InvalidMachine : PySem.W.excIn K C_InvalidMachine [.type "ValueError", .type "Exception", .type "BaseException", .type "object"] "ValueError.__new__" = true)
    (xk_InvalidMachine : PySem.W.keepIn K (.ref C_InvalidMachine) = true)
    (xb_InvalidMachine : PySem.W.subIn K (.ref C_InvalidMachine) (.type "BaseException") = some true)
    (xt_InvalidMachine : PySem.W.typeIn K (.ref C_InvalidMachine) = some (.type "type"))
    (xi_InvalidLetter : PySem.W.hasDictIn K C_InvalidLetter = true)
    (xs_InvalidLetter_InvalidLetter : PySem.W.subIn K (.ref C_InvalidLetter) (.ref C_InvalidLetter) = some true) :
    Txt K mg (gm [("InvalidLetter", C_InvalidLetter), ("InvalidMachine", C_InvalidMachine), ("Machine", C_Machine)]) :=
  ⟨PySem.W.mg_none_of X G z_bool,
   PySem.W.mg_none_of X G z_int,
   PySem.W.mg_none_of X G z_isinstance,
   PySem.W.mg_none_of X G z_len,
   PySem.W.mg_none_of X G z_list,
   PySem.W.mg_none_of X G z_max,
   PySem.W.mg_none_of X G z_range,
   PySem.W.mg_none_of X G z_tuple,
   PySem.W.mg_of X G z_lcm,
   def_mk l_all_below c_all_below k_all_below (PySem.W.mg_of X G a_all_below) (fun us hl => match us, hl with | [_, _], _ => rfl),
   mkd_mk l_Machine_init c_Machine_init k_Machine_init ⟨om_Machine, a_Machine_init, i_Machine_init, ok_Machine⟩ (PySem.W.mg_of X G oa_Machine) (fun us hl => match us, hl with | [_, _, _, _, _, _], _ => rfl),
   def_mk l_emissions c_emissions k_emissions (PySem.W.mg_of X G a_emissions) (fun us hl => match us, hl with | [_, _], _ => rfl),
   cod_mk l_Machine_call c_Machine_call k_Machine_call ⟨a_Machine_call, i_Machine_call, fi_Machine_call⟩ (fun us hl => match us, hl with | [_, _], _ => rfl),
   def_mk l_law_draws c_law_draws k_law_draws (PySem.W.mg_of X G a_law_draws) (fun us hl => match us, hl with | [_, _], _ => rfl),
   def_mk l_law_take c_law_take k_law_take (PySem.W.mg_of X G a_law_take) (fun us hl => match us, hl with | [_, _], _ => rfl),
   def_mk l_law_is_integer c_law_is_integer k_law_is_integer (PySem.W.mg_of X G a_law_is_integer) (fun us hl => match us, hl with | [_], _ => rfl),
   def_mk l_law_integers c_law_integers k_law_integers (PySem.W.mg_of X G a_law_integers) (fun us hl => match us, hl with | [_, _, _], _ => rfl),
   def_mk l_law_normal c_law_normal k_law_normal (PySem.W.mg_of X G a_law_normal) (fun us hl => match us, hl with | [_], _ => rfl),
   def_mk l_law_is_lasso c_law_is_lasso k_law_is_lasso (PySem.W.mg_of X G a_law_is_lasso) (fun us hl => match us, hl with | [_, _], _ => rfl),
   def_mk l_law_at c_law_at k_law_at (PySem.W.mg_of X G a_law_at) (fun us hl => match us, hl with | [_, _], _ => rfl),
   def_mk l_law_same c_law_same k_law_same (PySem.W.mg_of X G a_law_same) (fun us hl => match us, hl with | [_, _], _ => rfl),
   def_mk l_law_lasso c_law_lasso k_law_lasso (PySem.W.mg_of X G a_law_lasso) (fun us hl => match us, hl with | [_, _, _], _ => rfl),
   def_mk l_law_flat c_law_flat k_law_flat (PySem.W.mg_of X G a_law_flat) (fun us hl => match us, hl with | [_], _ => rfl),
   def_mk l_law_machine c_law_machine k_law_machine (PySem.W.mg_of X G a_law_machine) (fun us hl => match us, hl with | [_, _, _, _, _], _ => rfl),
   def_mk l_law_emissions c_law_emissions k_law_emissions (PySem.W.mg_of X G a_law_emissions) (fun us hl => match us, hl with | [_, _], _ => rfl),
   def_mk l_law_said c_law_said k_law_said (PySem.W.mg_of X G a_law_said) (fun us hl => match us, hl with | [_, _, _, _], _ => rfl),
   def_mk l_law_joint c_law_joint k_law_joint (PySem.W.mg_of X G a_law_joint) (fun us hl => match us, hl with | [_, _, _], _ => rfl),
   def_mk l_repeats c_repeats k_repeats (PySem.W.mg_of X G a_repeats) (fun us hl => match us, hl with | [_, _], _ => rfl),
   def_mk l_shortest c_shortest k_shortest (PySem.W.mg_of X G a_shortest) (fun us hl => match us, hl with | [_, _], _ => rfl),
   def_mk l_check_letters c_check_letters k_check_letters (PySem.W.mg_of X G a_check_letters) (fun us hl => match us, hl with | [_, _], _ => rfl),
   def_mk l_emission_lasso c_emission_lasso k_emission_lasso (PySem.W.mg_of X G a_emission_lasso) (fun us hl => match us, hl with | [_, _], _ => rfl),
   def_mk l_respond c_respond k_respond (PySem.W.mg_of X G a_respond) (fun us hl => match us, hl with | [_, _], _ => rfl),
   def_mk l_letter_in c_letter_in k_letter_in (PySem.W.mg_of X G a_letter_in) (fun us hl => match us, hl with | [_, _], _ => rfl),
   def_mk l_combine c_combine k_combine (PySem.W.mg_of X G a_combine) (fun us hl => match us, hl with | [_, _, _], _ => rfl),
   def_mk l_trace c_trace k_trace (PySem.W.mg_of X G a_trace) (fun us hl => match us, hl with | [_, _], _ => rfl),
   def_mk l_law_outcome c_law_outcome k_law_outcome (PySem.W.mg_of X G a_law_outcome) (fun us hl => match us, hl with | [_, _], _ => rfl),
   def_mk l_law c_law k_law (PySem.W.mg_of X G a_law) (fun us hl => match us, hl with | [_], _ => rfl),
   ⟨xq_InvalidLetter, PySem.W.mg_of X G xa_InvalidLetter, xk_InvalidLetter, xb_InvalidLetter, xt_InvalidLetter⟩,
   ⟨xq_InvalidMachine, PySem.W.mg_of X G xa_InvalidMachine, xk_InvalidMachine, xb_InvalidMachine, xt_InvalidMachine⟩,
   PySem.W.exm_ref xb_InvalidLetter xi_InvalidLetter xt_InvalidLetter xs_InvalidLetter_InvalidLetter,
   (tab_cons ⟨⟨og_Machine, oh_Machine, oo_Machine, os_Machine⟩, (al_cons on_Machine_inputs (al_cons on_Machine_outputs (al_cons on_Machine_lead (al_cons on_Machine_opening (al_cons on_Machine_rows al_nil)))))⟩ tab_nil)⟩
end K39
/-! ## L39 -/
set_option Elab.async false
set_option linter.all false
set_option maxRecDepth 100000
namespace K39
open PySem PySem.Spec PyProof.Rows L2 Mn
local macro_rules | `(tactic| walk_at "hp") => `(tactic| first
  | assumption
  | exact set_same (by assumption)
  | exact app_same
  | exact app_old (by assumption))
local macro_rules | `(tactic| walk_at "op") => `(tactic| with_reducible first
  | assumption
  | exact f_add | exact f_ii0 | exact f_ui | exact f_int | exact f_intB | exact f_max | exact f_min | exact f_ip
  | exact f_eqI | exact f_neI
  | exact f_lenT | exact f_lenF | exact f_lenS | exact f_tupT | exact f_tupF | exact f_tupS
  | exact f_lenR (by walk_at "hp") | exact f_tupR (by walk_at "hp")
  | (refine' f_mod ?_; omega)
  | (refine' f_div ?_ ?_ <;> omega)
  | exact f_pow (by decide)
  | exact f_isN1 | exact f_notN1
  | exact f_isN0 (by with_unfolding_all (intro q; cases q))
  | exact f_notN0 (by with_unfolding_all (intro q; cases q))
  | exact f_addT (by walk_at "sz")
  | exact f_slT | exact f_slF | exact f_slR (by walk_at "hp")
  | exact f_rev (by walk_at "hp"))
local macro_rules | `(tactic| walk_at "sz") => `(tactic| (refine sz_small ?_; simp only [List.length_cons, List.length_nil, List.length_append, List.length_map]; omega))
local macro_rules | `(tactic| walk_at "ev") => `(tactic| with_reducible first
  | assumption
  | exact ev_C
  | exact ev_V (by with_unfolding_all rfl)
  | exact ev_N
  | exact ev_oN
  | (refine' ev_2 ?a ?b ?c; (case a => walk_at "ev"); (case b => walk_at "ev"); (case c => walk_at "op"))
  | (refine' ev_1 ?a ?b; (case a => walk_at "ev"); (case b => walk_at "op"))
  | (refine' ev_F ?a ?b; (case a => walk_at "ev"); (case b => walk_at "op"))
  | (refine' ev_Cs ?a ?b; (case a => walk_at "ev"); (case b => walk_at "ev"))
  | (refine' ev_call ?a ?n ?b; (case a => walk_at "ev"); (case n => with_unfolding_all rfl); (case b => walk_at "op"))
  | (refine' ev_T ?a; (case a => walk_at "ev"))
  | (refine' ev_tnot ?a; (case a => walk_at "ev"))
  | (refine' ev_tup ?a ?b; (case a => walk_at "ev"); (case b => walk_at "sz"))
  | (refine' ev_lstF ?a ?b; (case a => walk_at "ev"); (case b => walk_at "sz"))
  | (refine' ev_lstT ?a ?b; (case a => walk_at "ev"); (case b => walk_at "sz"))
  | (refine' ev_oS ?a; (case a => walk_at "ev"))
  | (refine' ev_sl ?a ?b ?c ?d; (case a => walk_at "ev"); (case b => walk_at "ev"); (case c => walk_at "ev"); (case d => walk_at "op"))
  | (refine' ev_not ?a; (case a => walk_at "ev"))
  | (refine' ev_m0 ?a ?b ?c; (case a => walk_at "ev"); (case b => exact tyc_R (by walk_at "hp")); (case c => walk_at "op"))
  | (refine' ev_m ?a ?b ?c ?d; (case a => walk_at "ev"); (case b => exact tyc_R (by walk_at "hp")); (case c => walk_at "ev"); (case d => walk_at "op"))
  | (refine' it_range1 ?a ?b; (case a => walk_at "ev"); (case b => omega))
  | (refine' it_range2 ?a ?b; (case a => walk_at "ev"); (case b => omega))
  | (refine' it_T ?a; (case a => walk_at "ev"))
  | (refine' it_F ?a; (case a => walk_at "ev")))
local macro_rules | `(tactic| walk_at "nf") => `(tactic| (simp (config := { failIfUnchanged := false }) only [List.set_cons_succ, List.set_cons_zero, List.map_cons, List.map_nil, List.length_cons, List.length_nil, List.cons_append, List.nil_append, List.replicate]))
local macro_rules | `(tactic| walk_at "set") => `(tactic| (refine en_seq ?_; refine' en_set ?e ?_; (case e => walk_at "ev"); walk_at "nf"))
local macro_rules | `(tactic| walk_at "expr") => `(tactic| (refine en_seq ?_; refine' en_expr ?e ?_; (case e => walk_at "ev"); walk_at "nf"))

theorem ex_call0 {f : MF} {n : Nat} {ms : MA} {env : MEnv} {h h1 : MH} {C : Str} {xs : List MV} (ha : ms env h = .exc C xs h1) : mCall n f ms env h = .exc C xs h1 := by unfold mCall; rw [ha]
theorem ex_m {T : String} {f : MV → List MV → MH → Out MV} {a : ME} {ms : MA} {env : MEnv} {h h1 h2 : MH} {x : MV} {C : Str} {ys : List MV} (ha : a env h = .ok x h1) (hc : tyChk T h1 x = true) (hb : ms env h1 = .exc C ys h2) : mM T f a ms env h = .exc C ys h2 := by
  unfold mM; rw [ha]; show (if tyChk T h1 x = true then _ else _) = _; rw [if_pos hc]; show (ms env h1).bind _ = _; rw [hb]
theorem en_seqX {Q : OutS → Prop} {m1 m2 : MS} {env env1 : MEnv} {h h1 : MH} {C : Str} {xs : List MV} (ha : m1 env h = .exc C xs env1 h1) (k : Q (.exc C xs env1 h1)) : Mn.Ends Q (sSeq m1 m2 env h) := en_seq (.of (by rw [ha]; exact k))
theorem respM_bad {I O l : Int} {op : List Int} {rw : List (List (Int × Int))} {hs ls : List Int} {h : MH} (hz : hs.length + ls.length ≤ 1000) (hx : ∃ x ∈ hs ++ ls, I ≤ x) : respM [ma I O l op rw, lasso hs ls] h = .exc "InvalidLetter" [] h := by
  unfold respM
  refine runF_ends (P := fun o => o = _) ?_
  walk_at "nf"
  have fI := ma_inputs (I := I) (O := O) (l := l) (op := op) (rw := rw) (h := h)
  have ck := checkM_bad (h := h) hz hx
  refine' en_seqX (ex_expr (ex_call (xs := [lasso hs ls, .int I]) (h1 := h) ?t1 rfl ck)) rfl
  case t1 => walk_at "ev"
theorem traceM_bad {I O l : Int} {op : List Int} {rw : List (List (Int × Int))} {hs ls : List Int} {h : MH} (hz : hs.length + ls.length ≤ 1000) (hx : ∃ x ∈ hs ++ ls, I ≤ x) : traceM [ma I O l op rw, lasso hs ls] h = .exc "InvalidLetter" [] h := by
  have rb := respM_bad (O := O) (l := l) (op := op) (rw := rw) (h := h) hz hx
  unfold traceM
  refine runF_ends (P := fun o => o = _) ?_
  walk_at "nf"
  refine .of ?_
  rw [ex_ret (C := "InvalidLetter") (xs := []) (h1 := h) ?t]
  case t =>
    have e2 : mCall 2 respM (maC (mV 0) (maC (mV 1) maN)) [some (ma I O l op rw), some (lasso hs ls)] h = .exc "InvalidLetter" [] h := ex_call (xs := [ma I O l op rw, lasso hs ls]) (h1 := h) (by walk_at "ev") rfl rb
    have e3 : maC (mV 1) (maC (mCall 2 respM (maC (mV 0) (maC (mV 1) maN))) (maC (m1 (fFld tabMa "inputs") (mV 0)) maN)) [some (ma I O l op rw), some (lasso hs ls)] h = .exc "InvalidLetter" [] h := ex_C2 (ev_V rfl) (ex_C1 e2)
    exact ex_call0 e3
noncomputable def outM : MF := runF 3 (sSeq (sSet 2 (mLst true (maN))) (sSeq (sTry (sExpr (mM "list" fAppend (mV 2) (maC (mCall 2 respM (maC (mV 0) (maC (mV 1) (maN)))) (maN)))) (⟨[("InvalidLetter", true)], none, fun v => sExpr (mM "list" fAppend (mV 2) (maC (mC .non) (maN)))⟩ :: [])) (sSeq (sTry (sExpr (mM "list" fAppend (mV 2) (maC (mCall 2 traceM (maC (mV 0) (maC (mV 1) (maN)))) (maN)))) (⟨[("InvalidLetter", true)], none, fun v => sExpr (mM "list" fAppend (mV 2) (maC (mC .non) (maN)))⟩ :: [])) (sRet (mV 2)))))
theorem outM_ok {I O l : Int} {op : List Int} {rw : List (List (Int × Int))} {hs ls : List Int} {h : MH} (V : VM I O l op rw) (hO : O ≤ 50) (hl : ls ≠ []) (hz : hs.length ≤ 4 ∧ ls.length ≤ 4) (hN : rw.length ≤ 4) (hr : ∀ x ∈ hs ++ ls, 0 ≤ x ∧ x < I) :
    ∃ v1 v2 h', outM [ma I O l op rw, lasso hs ls] h = .ok (.ref h.length) h' ∧ h'[h.length]? = some (.lst [v1, v2]) ∧ Short (rsp l op (em rw (lw hs ls))) v1 100 100 ∧ Short (fun t => lw hs ls t + I * rsp l op (em rw (lw hs ls)) t) v2 100 400 ∧ ∀ (n : Nat) c, h[n]? = some c → h'[n]? = some c := by
  suffices g : Does (fun v h' => v = .ref h.length ∧ ∃ v1 v2, h'[h.length]? = some (.lst [v1, v2]) ∧ Short (rsp l op (em rw (lw hs ls))) v1 100 100 ∧ Short (fun t => lw hs ls t + I * rsp l op (em rw (lw hs ls)) t) v2 100 400 ∧ ∀ (n : Nat) c, h[n]? = some c → h'[n]? = some c) (outM [ma I O l op rw, lasso hs ls] h) by
    obtain ⟨v, h', e, rfl, v1, v2, r⟩ := g
    exact ⟨v1, v2, h', e, r⟩
  have hB : ls.length * rw.length ≤ 4 * 4 := Nat.mul_le_mul (by omega) (by omega)
  unfold outM
  refine runF_does ?_
  walk_at "nf"
  walk_at "set"
  have cf : (h ++ [Cell.lst []])[h.length]? = some (.lst []) := app_same
  have old2 : ∀ (n : Nat) c, h[n]? = some c → (h ++ [Cell.lst []])[n]? = some c := fun n c e => app_old e
  generalize h ++ [Cell.lst []] = h2 at *
  obtain ⟨v1, h3, r1, S1, k3⟩ := respM_ok (hs := hs) (ls := ls) (h := h2) V hl (by omega) (by omega) hr
  have cf3 := k3 _ _ cf
  have ap := f_app (y := v1) cf3 (sz_lt (by simp))
  have s1 : sExpr (mM "list" fAppend (mV 2) (maC (mCall 2 respM (maC (mV 0) (maC (mV 1) maN))) maN)) [some (ma I O l op rw), some (lasso hs ls), some (.ref h.length)] h2 = .ok .nx [some (ma I O l op rw), some (lasso hs ls), some (.ref h.length)] (h3.set h.length (.lst [v1])) :=
    rn_expr (ev_m (h1 := h2) (h2 := h3) (xs := [v1]) (ev_V rfl) (tyc_R cf) (ev_Cs (h1 := h3) (by walk_at "ev") ev_N) ap)
  refine en_seq ?_
  refine en_try_ok s1 ?_
  have cf4 := set_same (c' := .lst [v1]) cf3
  have old4 : ∀ (n : Nat) c, h[n]? = some c → (h3.set h.length (.lst [v1]))[n]? = some c := fun n c e => set_other (by have := lt_of_get e; omega) (k3 _ _ (old2 n c e))
  show Mn.Ends _ (sSeq _ _ [some (ma I O l op rw), some (lasso hs ls), some (.ref h.length)] (h3.set h.length (.lst [v1])))
  generalize h3.set h.length (.lst [v1]) = h4 at *
  obtain ⟨v2, h5, r2, S2, k5⟩ := traceM_ok (hs := hs) (ls := ls) (h := h4) V hO hl hz hN hr
  have cf5 := k5 _ _ cf4
  have ap := f_app (y := v2) cf5 (sz_lt (by simp))
  have s2 : sExpr (mM "list" fAppend (mV 2) (maC (mCall 2 traceM (maC (mV 0) (maC (mV 1) maN))) maN)) [some (ma I O l op rw), some (lasso hs ls), some (.ref h.length)] h4 = .ok .nx [some (ma I O l op rw), some (lasso hs ls), some (.ref h.length)] (h5.set h.length (.lst [v1, v2])) :=
    rn_expr (ev_m (h1 := h4) (h2 := h5) (xs := [v2]) (ev_V rfl) (tyc_R cf4) (ev_Cs (h1 := h5) (by walk_at "ev") ev_N) ap)
  refine en_seq ?_
  refine en_try_ok s2 ?_
  show Mn.Ends _ (sRet _ [some (ma I O l op rw), some (lasso hs ls), some (.ref h.length)] (h5.set h.length (.lst [v1, v2])))
  refine en_ret (ev_V rfl) ?_
  exact ⟨_, _, rfl, rfl, v1, v2, set_same cf5, S1.congr (fun _ => rfl) (by omega) (by omega), S2, fun n c e => set_other (by have := lt_of_get e; omega) (k5 _ _ (old4 n c e))⟩
theorem outM_bad {I O l : Int} {op : List Int} {rw : List (List (Int × Int))} {hs ls : List Int} {h : MH} (hz : hs.length + ls.length ≤ 1000) (hx : ∃ x ∈ hs ++ ls, I ≤ x) : ∃ h', outM [ma I O l op rw, lasso hs ls] h = .ok (.ref h.length) h' ∧ h'[h.length]? = some (.lst [.non, .non]) := by
  suffices g : Does (fun v h' => v = .ref h.length ∧ h'[h.length]? = some (.lst [.non, .non])) (outM [ma I O l op rw, lasso hs ls] h) by
    obtain ⟨v, h', e, rfl, r⟩ := g
    exact ⟨h', e, r⟩
  unfold outM
  refine runF_does ?_
  walk_at "nf"
  walk_at "set"
  have cf : (h ++ [Cell.lst []])[h.length]? = some (.lst []) := app_same
  generalize h ++ [Cell.lst []] = h2 at *
  have rb := respM_bad (O := O) (l := l) (op := op) (rw := rw) (h := h2) hz hx
  have b1 : sExpr (mM "list" fAppend (mV 2) (maC (mCall 2 respM (maC (mV 0) (maC (mV 1) maN))) maN)) [some (ma I O l op rw), some (lasso hs ls), some (.ref h.length)] h2 = .exc "InvalidLetter" [] [some (ma I O l op rw), some (lasso hs ls), some (.ref h.length)] h2 :=
    ex_expr (ex_m (h1 := h2) (ev_V rfl) (tyc_R cf) (ex_C1 (ex_call (xs := [ma I O l op rw, lasso hs ls]) (h1 := h2) (by walk_at "ev") rfl rb)))
  have ap := f_app (y := .non) cf (sz_lt (by simp))
  refine en_seq ?_
  refine en_try_exc b1 ?_
  refine en_hdT0 (o := .ok .nx [some (ma I O l op rw), some (lasso hs ls), some (.ref h.length)] (h2.set h.length (.lst [.non]))) rfl ?_ ?_
  · rw [rn_expr (ev_m (h1 := h2) (h2 := h2) (xs := [.non]) (ev_V rfl) (tyc_R cf) (ev_Cs ev_C ev_N) ap)]; rfl
  have cf4 := set_same (c' := .lst [.non]) cf
  show Mn.Ends _ (sSeq _ _ [some (ma I O l op rw), some (lasso hs ls), some (.ref h.length)] (h2.set h.length (.lst [.non])))
  generalize h2.set h.length (.lst [.non]) = h4 at *
  have rb := traceM_bad (O := O) (l := l) (op := op) (rw := rw) (h := h4) hz hx
  have b2 : sExpr (mM "list" fAppend (mV 2) (maC (mCall 2 traceM (maC (mV 0) (maC (mV 1) maN))) maN)) [some (ma I O l op rw), some (lasso hs ls), some (.ref h.length)] h4 = .exc "InvalidLetter" [] [some (ma I O l op rw), some (lasso hs ls), some (.ref h.length)] h4 :=
    ex_expr (ex_m (h1 := h4) (ev_V rfl) (tyc_R cf4) (ex_C1 (ex_call (xs := [ma I O l op rw, lasso hs ls]) (h1 := h4) (by walk_at "ev") rfl rb)))
  have ap := f_app (y := .non) cf4 (sz_lt (by simp))
  refine en_seq ?_
  refine en_try_exc b2 ?_
  refine en_hdT0 (o := .ok .nx [some (ma I O l op rw), some (lasso hs ls), some (.ref h.length)] (h4.set h.length (.lst [.non, .non]))) rfl ?_ ?_
  · rw [rn_expr (ev_m (h1 := h4) (h2 := h4) (xs := [.non]) (ev_V rfl) (tyc_R cf4) (ev_Cs ev_C ev_N) ap)]; rfl
  show Mn.Ends _ (sRet _ [some (ma I O l op rw), some (lasso hs ls), some (.ref h.length)] (h4.set h.length (.lst [.non, .non])))
  refine en_ret (ev_V rfl) ?_
  exact ⟨_, _, rfl, rfl, set_same cf4⟩
theorem eq_nn {F : Nat} {h : MH} (e : h[F]? = some (.lst [.non, .non])) : fEq false (.ref F) (.fl [.non, .non]) h = .ok (.bl true) h := by
  have d1 : Mn.dataOf h (.ref F) = some (.list [.none, .none]) := by
    unfold Mn.dataOf Mn.toD Mn.rD
    rw [e]
    rfl
  rw [f_eqD (e1 := .list [.none, .none]) (e2 := .list [.none, .none]) d1 rfl (by decide +kernel) (by decide +kernel)]
  simp [PyData.eqv, PyData.eqvAll]
noncomputable def lawM : MF := runF 13 (sSeq (sSet 1 (mCall 2 drawsM (maC (mV 0) (maC (mC (.int 100)) (maN))))) (sSeq (sSet 2 (m2 (fAdd false) (mC (.int 1)) (mCall 2 takeM (maC (mV 1) (maC (mC (.int 3)) (maN)))))) (sSeq (sSet 3 (m2 (fAdd false) (mC (.int 1)) (mCall 2 takeM (maC (mV 1) (maC (mC (.int 3)) (maN)))))) (sSeq (sSet 4 (m2 fSub (mCall 2 takeM (maC (mV 1) (maC (mC (.int 6)) (maN)))) (mC (.int 3)))) (sSeq (sAsg (mCall 5 mdrawM (maC (mV 1) (maC (mV 2) (maC (mV 3) (maC (mV 4) (maC (mC (.int 4)) (maN))))))) (gTup [gNm 5, gNm 6])) (sSeq (sSet 7 (mMake "Machine" true 6 minitM (maC (mV 2) (maC (mV 3) (maC (mV 4) (maC (mF (fList false) (maC (mV 5) (maN))) (maC (mCall 1 flatM (maC (mV 6) (maN))) (maN)))))))) (sSeq (sSet 8 (mCall 3 lassoM (maC (mV 1) (maC (mV 2) (maC (mC (.int 4)) (maN)))))) (sSeq (sIf (mT (m2 (fEq false) (mCall 2 takeM (maC (mV 1) (maC (mC (.int 8)) (maN)))) (mC (.int 0)))) (sRet (m2 (fEq false) (mCall 2 outM (maC (mV 7) (maC (mTup (maC (m2 (fAdd false) (m2 fIx (mV 8) (mC (.int 0))) (mTup (maC (mV 2) (maN)))) (maC (m2 fIx (mV 8) (mC (.int 1))) (maN)))) (maN)))) (mLst false (maC (mC .non) (maC (mC .non) (maN)))))) (sNil)) (sSeq (sSet 9 (mCall 2 outM (maC (mV 7) (maC (mV 8) (maN))))) (sSeq (sIf (tOrM (mT (m2 (fIsN false) (m2 fIx (mV 9) (mC (.int 0))) (mC .non))) (mT (m2 (fIsN false) (m2 fIx (mV 9) (mC (.int 1))) (mC .non)))) (sRet (mC (.bl false))) (sNil)) (sSeq (sIf (tOrM (tNotM (mT (mCall 2 isLaM (maC (m2 fIx (mV 9) (mC (.int 0))) (maC (mV 3) (maN)))))) (tNotM (mT (mCall 2 isLaM (maC (m2 fIx (mV 9) (mC (.int 1))) (maC (m2 (fMul false) (mV 2) (mV 3)) (maN))))))) (sRet (mC (.bl false))) (sNil)) (sSeq (sSet 10 (mCall 4 msaidM (maC (mV 6) (maC (mV 5) (maC (mV 4) (maC (mV 8) (maN))))))) (sSeq (sIf (tOrM (tNotM (mT (mCall 2 sameM (maC (m2 fIx (mV 9) (mC (.int 0))) (maC (mV 10) (maN)))))) (tNotM (mT (mCall 2 sameM (maC (m2 fIx (mV 9) (mC (.int 1))) (maC (mCall 3 jointM (maC (mV 8) (maC (mV 10) (maC (mV 2) (maN))))) (maN))))))) (sRet (mC (.bl false))) (sNil)) (sSeq (sSet 11 (mComp false (iRange1 (maC (mC (.int 7)) (maN))) (gNm 12) (tYesM) (mCall 2 atM (maC (mV 8) (maC (mV 12) (maN)))) [12])) (sRet (m2 (fEq false) (mCallO "Machine" 2 mcallM (mV 7) (maC (mV 11) (maN))) (mComp false (iRange1 (maC (mF fMax2 (maC (mC (.int 0)) (maC (m2 fSub (mC (.int 7)) (mV 4)) (maN)))) (maN))) (gNm 12) (tYesM) (mCall 2 atM (maC (m2 fIx (mV 9) (mC (.int 0))) (maC (mV 12) (maN)))) [12])))))))))))))))))
theorem law_ok (ns : List Int) (hl : ns.length ≤ 63) : Does (fun v _ => v = .bl true) (lawM [.sl (nums ns)] []) := by
  unfold lawM
  refine runF_does ?_
  walk_at "nf"
  obtain ⟨_, h1, d1, r, rfl, dr⟩ := drawsM_ok ns (by omega) 100 (by decide) (by decide) []
  have D1 := dr.dr
  walk_at "set"
  obtain ⟨i0, h2, t2, i1, i2, D2, _⟩ := takeM_ok D1 (k := 3) (by decide)
  walk_at "set"
  obtain ⟨o0, h3, t3, o1, o2, D3, _⟩ := takeM_ok D2 (k := 3) (by decide)
  walk_at "set"
  obtain ⟨l0, h4, t4, l1, l2, D4, _⟩ := takeM_ok D3 (k := 6) (by decide)
  walk_at "set"
  generalize hI : 1 + i0 = I at *
  generalize hO : 1 + o0 = O at *
  generalize hL : l0 - 3 = l at *
  obtain ⟨op, rw, q, ps, h5, e5, M5, V, n4, qr, rps, D5⟩ := mdrawM_ok (I := I) (O := O) (l := l) (M := 4) D4 (by omega) (by omega) (by omega) (by decide)
  have v6 := V.opl
  have vl0 := V.l0
  refine en_seq ?_
  refine' en_asg (d := .tup [.fl (nums op), .ref q]) (h1 := h5) ?e ?g ?_
  case e => walk_at "ev"
  case g => rfl
  walk_at "nf"
  have fl := mflat_ok M5 (by omega)
  have lo := (SeqV.F (ns := op)).sq.list (h := h5)
  obtain ⟨h6, e6, k6⟩ := mmake_ok (b := false) (x := .fl (nums op)) (a := (maC (mV 2) (maC (mV 3) (maC (mV 4) (maC (mF (fList false) (maC (mV 5) (maN))) (maC (mCall 1 flatM (maC (mV 6) (maN))) (maN))))))) (env := [some (.sl (nums ns)), some (.ref r), some (.int I), some (.int O), some (.int l), some (.fl (nums op)), some (.ref q), none, none, none, none, none, none]) (h := h5) (h1 := h5) V SeqV.F (by walk_at "ev")
  refine en_seq ?_
  refine' en_set e6 ?_
  walk_at "nf"
  have D6 : Dr h6 r := by obtain ⟨xs, e, hx⟩ := D5; exact ⟨xs, k6 _ _ e, hx⟩
  have M6 := M5.keep fun n c _ e => k6 n c e
  obtain ⟨a, b, h7, e7, a4, b1, b4, ra, rb, D7, k7⟩ := lassoM_ok D6 (K := I) (L := 4) (by omega) (by decide) (by decide)
  have M7 := M6.keep fun n c hn e => k7.old n c (by rcases hn with rfl | hn; exact qr; exact fun z => rps (z ▸ hn)) e
  walk_at "set"
  have hb0 : b ≠ [] := ne_of_len b1
  have hab : ∀ x ∈ a ++ b, 0 ≤ x ∧ x < I := fun x hx => by rcases List.mem_append.mp hx with hx | hx; exact ra x hx; exact rb x hx
  obtain ⟨w, h8, t8, w0, w1, D8, k8⟩ := takeM_ok D7 (k := 8) (by decide)
  have M8 := M7.keep fun n c hn e => k8.old n c (by rcases hn with rfl | hn; exact qr; exact fun z => rps (z ▸ hn)) e
  have e0 := @la_0 a b h8
  have e1 := @la_1 a b h8
  refine en_seq ?_
  refine' en_if ?e ?_ ?_
  case e => walk_at "ev"
  · intro _
    have ad : fAdd false (.tup (nums a)) (.tup [.int I]) h8 = .ok (.tup (nums (a ++ [I]))) h8 := by
      rw [f_addT (sz_small (by simp only [List.length_map, List.length_cons, List.length_nil]; omega))]; simp
    obtain ⟨h9, e9, c9⟩ := outM_bad (O := O) (l := l) (op := op) (rw := rw) (hs := a ++ [I]) (ls := b) (I := I) (h := h8) (by simp only [List.length_append, List.length_cons, List.length_nil]; omega) ⟨I, by simp, Int.le_refl _⟩
    have e9 : outM [ma I O l op rw, .tup [.tup (nums (a ++ [I])), .tup (nums b)]] h8 = .ok (.ref h8.length) h9 := e9
    have qn := eq_nn c9
    refine' en_ret ?e ?_
    case e => walk_at "ev"
    exact ⟨_, _, rfl, rfl⟩
  intro _
  refine en_nil ?_
  obtain ⟨v1, v2, h9, e9, c9, S1, S2, k9⟩ := outM_ok (h := h8) V (by omega) hb0 (by omega) (by omega) hab
  have M9 := M8.keep fun n c _ e => k9 n c e
  walk_at "set"
  have hw : ∀ t, 0 ≤ lw a b t ∧ lw a b t < I := lw_all hb0 hab
  have rng : ∀ t, 0 ≤ rsp l op (em rw (lw a b)) t ∧ rsp l op (em rw (lw a b)) t < O := fun t => by
    unfold rsp
    split
    · rename_i c
      have : t < op.length := by split at v6 <;> omega
      rw [List.getD, List.getElem?_eq_getElem this]
      exact V.opr _ (List.getElem_mem this)
    · obtain ⟨q0, q1⟩ := est_in V (w := lw a b) (n := ((t : Int) + l).toNat) (fun u _ => hw u) _ (Nat.le_refl _)
      exact (mst_in V q0 q1 (hw _).1 (hw _).2).2
  have rng2 : ∀ t, 0 ≤ lw a b t + I * rsp l op (em rw (lw a b)) t ∧ lw a b t + I * rsp l op (em rw (lw a b)) t < I * O := fun t => by
    have x1 := hw t
    have x2 := rng t
    have x3 : 0 ≤ I * rsp l op (em rw (lw a b)) t := Int.mul_nonneg (by omega) x2.1
    have x4 : I * rsp l op (em rw (lw a b)) t ≤ I * (O - 1) := Int.mul_le_mul_of_nonneg_left (by omega) (by omega)
    rw [Int.mul_sub, Int.mul_one] at x4
    omega
  have f0 : fIx (.ref h8.length) (.int 0) h9 = .ok v1 h9 := f_ix (seq_R c9) rfl
  have f1 : fIx (.ref h8.length) (.int 1) h9 = .ok v2 h9 := f_ix (seq_R c9) rfl
  have il1 := isLaM_ok (K := O) (h := h9) S1 (by omega) rng
  have il2 := isLaM_ok (K := I * O) (h := h9) S2 (by omega) rng2
  have mIO : fMul false (.int I) (.int O) h9 = .ok (.int (I * O)) h9 := f_mulI (.inl (by omega))
  obtain ⟨n1, p1, nf1, nl1, pl1, rfl⟩ := S1.ex
  obtain ⟨n2, p2, nf2, nl2, pl2, rfl⟩ := S2.ex
  generalize hR : rsp l op (em rw (lw a b)) = R at *
  generalize hU : (fun t => lw a b t + I * R t) = U at *
  have z1 : fIsN false (lasso (wtake R 0 n1) (wtake R n1 p1)) .non h9 = .ok (.bl false) h9 := rfl
  have z2 : fIsN false (lasso (wtake U 0 n2) (wtake U n2 p2)) .non h9 = .ok (.bl false) h9 := rfl
  refine en_seq ?_
  refine' en_if (v := false) ?e (fun c => nomatch c) ?_
  case e =>
    refine' ev_torF ?t1 ?t2
    case t1 => walk_at "ev"
    case t2 => walk_at "ev"
  intro _
  refine en_nil ?_
  refine en_seq ?_
  refine' en_if (v := false) ?e (fun c => nomatch c) ?_
  case e =>
    refine' ev_torF ?t1 ?t2
    case t1 => exact ev_tnot (v := true) (by walk_at "ev")
    case t2 => exact ev_tnot (v := true) (by walk_at "ev")
  intro _
  refine en_nil ?_
  -- what the law itself says
  obtain ⟨X, Y, h10, e10, hY, hXY, lX, lY, k10⟩ := msaidM_ok (hs := a) (ls := b) V M9 hb0 (by omega) (by omega) hab
  rw [hR] at hXY
  walk_at "set"
  have c10 := k10 _ _ c9
  have f0 : fIx (.ref h8.length) (.int 0) h10 = .ok (lasso (wtake R 0 n1) (wtake R n1 p1)) h10 := f_ix (seq_R c10) rfl
  have f1 : fIx (.ref h8.length) (.int 1) h10 = .ok (lasso (wtake U 0 n2) (wtake U n2 p2)) h10 := f_ix (seq_R c10) rfl
  have sm1 := sameM_ok (h := h10) (SeqV.T (ns := wtake R 0 n1)).sq (SeqV.T (ns := wtake R n1 p1)).sq (SeqV.T (ns := X)).sq (SeqV.T (ns := Y)).sq (ne_of_len (by rw [wtake_len]; exact nf1.pos)) hY (by unfold dlim; rw [wtake_len, wtake_len]; omega) (fun t => by rw [lw_wtake nf1.per nf1.pos, hXY])
  have sm1 : sameM [lasso (wtake R 0 n1) (wtake R n1 p1), lasso X Y] h10 = .ok (.bl true) h10 := sm1
  have hY2 : 0 < Y.length := List.length_pos_iff.mpr hY
  have xy : ∀ x ∈ X ++ Y, 0 ≤ x ∧ x < 100 := fun x hx => by
    rcases List.mem_append.mp hx with hx | hx
    · obtain ⟨i, hi⟩ := List.getElem?_of_mem hx
      have h1 := (List.getElem?_eq_some_iff.mp hi).1
      have : lw X Y i = x := by rw [lw_lt h1, List.getD, hi]; rfl
      rw [← this, hXY]
      have := rng i
      omega
    · obtain ⟨i, hi⟩ := List.getElem?_of_mem hx
      have h1 := (List.getElem?_eq_some_iff.mp hi).1
      have : lw X Y (X.length + i) = x := by rw [lw_ge (by omega), Nat.add_sub_cancel_left, Nat.mod_eq_of_lt h1, List.getD, hi]; rfl
      rw [← this, hXY]
      have := rng (X.length + i)
      omega
  obtain ⟨h11, e11, k11⟩ := jointM_ok (a := a) (b := b) (c := X) (d := Y) (k := I) (h := h10) hb0 hY (by omega) (by omega) lX lY xy
  have per := cw_per (a := a) (b := b) (c := X) (d := Y) (k := I) (P := b.length * Y.length) (m := Y.length) (n := b.length) rfl (Nat.mul_comm _ _)
  have hP0 : 0 < b.length * Y.length := Nat.mul_pos b1 hY2
  have hP1 : b.length * Y.length ≤ 4 * 100 := Nat.mul_le_mul (by omega) (by omega)
  have sm2 := sameM_ok (h := h11) (SeqV.T (ns := wtake U 0 n2)).sq (SeqV.T (ns := wtake U n2 p2)).sq (SeqV.T (ns := wtake (cw a b X Y I) 0 (max a.length X.length))).sq (SeqV.T (ns := wtake (cw a b X Y I) (max a.length X.length) (b.length * Y.length))).sq (ne_of_len (by rw [wtake_len]; exact nf2.pos)) (ne_of_len (by rw [wtake_len]; exact hP0)) (by unfold dlim; simp only [wtake_len]; omega) (fun t => by
    rw [lw_wtake nf2.per nf2.pos, lw_wtake per hP0, ← hU]
    unfold cw
    rw [hXY])
  have sm2 : sameM [lasso (wtake U 0 n2) (wtake U n2 p2), lasso (wtake (cw a b X Y I) 0 (max a.length X.length)) (wtake (cw a b X Y I) (max a.length X.length) (b.length * Y.length))] h11 = .ok (.bl true) h11 := sm2
  refine en_seq ?_
  refine' en_if (v := false) (h1 := h11) ?e (fun c => nomatch c) ?_
  case e =>
    refine' ev_torF (h1 := h10) ?t1 ?t2
    case t1 => exact ev_tnot (v := true) (by walk_at "ev")
    case t2 =>
      refine ev_tnot (v := true) (ev_T (ev_call (xs := [lasso (wtake U 0 n2) (wtake U n2 p2), lasso (wtake (cw a b X Y I) 0 (max a.length X.length)) (wtake (cw a b X Y I) (max a.length X.length) (b.length * Y.length))]) (h1 := h11) ?_ rfl sm2))
      exact ev_Cs (h1 := h10) (by walk_at "ev") (ev_Cs (h1 := h11) (ev_call (xs := [lasso a b, lasso X Y, .int I]) (h1 := h10) (by walk_at "ev") rfl e11) ev_N)
  intro _
  refine en_nil ?_
  have c11 := k11 _ _ c10
  refine en_seq ?_
  refine' en_set (d := .fl (nums (wtake (lw a b) 0 7))) (h1 := h11) ?e ?_
  case e =>
    refine' ev_compF (h1 := h11) (h2 := h11) (xs := rangeM 0 7) ?q1 (comp_nums (w := lw a b) (s := 0) ?q2 (by decide))
    case q1 => exact it_range1 (j := 7) (by walk_at "ev") (by decide)
    case q2 =>
      intro j hj
      have q := atM_ok (hs := a) (ls := b) (t := (j : Int)) (h := h11) (by omega) hb0
      walk_at "nf"
      rw [Nat.zero_add]
      rw [Int.toNat_natCast] at q
      walk_at "ev"
  walk_at "nf"
  obtain ⟨h12, e12, k12⟩ := mcallM_ok (x := .fl (nums (wtake (lw a b) 0 7))) (ls := wtake (lw a b) 0 7) (w := lw a b) (h := h11) V SeqV.F (by rw [wtake_len]; decide) (fun t x e => by
    have ht := (List.getElem?_eq_some_iff.mp e).1
    rw [wtake_len] at ht
    have g := wtake_get (w := lw a b) (a := 0) (n := 7) ht
    rw [List.getD, e, Nat.zero_add] at g
    have g : x = lw a b t := g
    rw [g]
    exact ⟨rfl, hw t⟩)
  rw [wtake_len] at e12
  have c12 := k12 _ _ c11
  have f0 : fIx (.ref h8.length) (.int 0) h12 = .ok (lasso (wtake R 0 n1) (wtake R n1 p1)) h12 := f_ix (seq_R c12) rfl
  have v4l := V.l1
  have hout : op ++ (wtake (em rw (lw a b)) 0 7).drop l.toNat = wtake R 0 (if 7 - l > 0 then 7 - l else 0).toNat := by
    refine eq_wtake (by rw [List.length_append, List.length_drop, wtake_len]; split at v6 <;> split <;> omega) fun i hi => ?_
    rw [Nat.zero_add, ← hR]
    exact out_get v6 (by split at v6 <;> split at hi <;> omega)
  rw [hout] at e12
  have fe := f_eqL (a := wtake R 0 (if 7 - l > 0 then 7 - l else 0).toNat) (b := wtake R 0 (if 7 - l > 0 then 7 - l else 0).toNat) (h := h12) (.inl rfl) (.inl rfl)
  rw [decide_eq_true rfl] at fe
  generalize hM : (if 7 - l > 0 then 7 - l else 0).toNat = Mx at *
  refine' en_ret (d := .bl true) (h1 := h12) ?e ?_
  case e =>
    refine' ev_2 (h1 := h12) (h2 := h12) (x := .fl (nums (wtake R 0 Mx))) (y := .fl (nums (wtake R 0 Mx))) ?e1 ?e2 fe
    case e1 =>
      rw [← e12]
      rfl
    case e2 =>
      refine' ev_compF (h1 := h12) (h2 := h12) (xs := rangeM 0 Mx) ?q1 (comp_nums (w := R) (s := 0) ?q2 ?q3)
      case q1 =>
        rw [← hM]
        refine' it_range1 ?i1 ?i2; (case i1 => walk_at "ev"); (case i2 => split <;> omega)
      case q2 =>
        intro j hj
        have q := atM_ok (hs := wtake R 0 n1) (ls := wtake R n1 p1) (t := (j : Int)) (h := h12) (by omega) (ne_of_len (by rw [wtake_len]; exact nf1.pos))
        rw [lw_wtake nf1.per nf1.pos, Int.toNat_natCast] at q
        walk_at "nf"
        rw [Nat.zero_add]
        walk_at "ev"
      case q3 =>
        have : Mx ≤ 20 := by rw [← hM]; split <;> omega
        omega
  exact ⟨_, _, rfl, rfl⟩
end K39
/-! ## K39F -/
set_option Elab.async false
set_option linter.all false
namespace K39
open Mn
theorem law_true (ns : List Int) (hl : ns.length ≤ 63) : ∃ h', m_law [.sl (ns.map MV.int)] [] = .ok (.bl true) h' := by
  obtain ⟨_, h1, e, rfl⟩ := law_ok ns hl
  exact ⟨h1, e⟩
end K39
open PySem PySem.W PyProof.Rows
set_option maxRecDepth 100000 in
set_option maxHeartbeats 0 in
theorem PySem.Challenge.cw_reactivesynth_k39_respond_and_trace_holds : PySem.Challenge.rw_reactivesynth_k39_respond_and_trace.Holds := by
  w_on; o_law; k_head; (case hw => w_witness2)
  k_fill
  refine L2.walk_of (l := PySem.Challenge.rw_reactivesynth_k39_respond_and_trace) (n := 63) (k := 6) (x := "_law_script") (CX := fun w => L2.CX PySem.Challenge.pw_reactivesynth_k39_respond_and_trace w) (sp := fun w => Mn.spL _ K39.m_law) rfl (by decide) rfl ⟨rfl, by decide, by decide⟩ (fun w h Y => PySem.W.kIn_of Y) ?F (fun _ _ a ns hl _ hS => Mn.law_sp hS (K39.law_true ns hl)) (fun _ _ _ _ _ h => ?X)
  case F =>
    intro w mg fa h KX G hmg
    refine' Mn.law_run h hmg (fun base => K39.ok_law (K39.txt_mk KX G ?oa_Machine ?og_Machine ?oh_Machine ?oo_Machine ?os_Machine ?om_Machine ?ok_Machine ?on_Machine_inputs ?on_Machine_outputs ?on_Machine_lead ?on_Machine_opening ?on_Machine_rows ?a_all_below ?l_all_below ?c_all_below ?k_all_below ?a_Machine_init ?l_Machine_init ?c_Machine_init ?k_Machine_init ?i_Machine_init ?a_emissions ?l_emissions ?c_emissions ?k_emissions ?a_Machine_call ?fi_Machine_call ?l_Machine_call ?c_Machine_call ?k_Machine_call ?i_Machine_call ?a_law_draws ?l_law_draws ?c_law_draws ?k_law_draws ?a_law_take ?l_law_take ?c_law_take ?k_law_take ?a_law_is_integer ?l_law_is_integer ?c_law_is_integer ?k_law_is_integer ?a_law_integers ?l_law_integers ?c_law_integers ?k_law_integers ?a_law_normal ?l_law_normal ?c_law_normal ?k_law_normal ?a_law_is_lasso ?l_law_is_lasso ?c_law_is_lasso ?k_law_is_lasso ?a_law_at ?l_law_at ?c_law_at ?k_law_at ?a_law_same ?l_law_same ?c_law_same ?k_law_same ?a_law_lasso ?l_law_lasso ?c_law_lasso ?k_law_lasso ?a_law_flat ?l_law_flat ?c_law_flat ?k_law_flat ?a_law_machine ?l_law_machine ?c_law_machine ?k_law_machine ?a_law_emissions ?l_law_emissions ?c_law_emissions ?k_law_emissions ?a_law_said ?l_law_said ?c_law_said ?k_law_said ?a_law_joint ?l_law_joint ?c_law_joint ?k_law_joint ?a_repeats ?l_repeats ?c_repeats ?k_repeats ?a_shortest ?l_shortest ?c_shortest ?k_shortest ?a_check_letters ?l_check_letters ?c_check_letters ?k_check_letters ?a_emission_lasso ?l_emission_lasso ?c_emission_lasso ?k_emission_lasso ?a_respond ?l_respond ?c_respond ?k_respond ?a_letter_in ?l_letter_in ?c_letter_in ?k_letter_in ?a_combine ?l_combine ?c_combine ?k_combine ?a_trace ?l_trace ?c_trace ?k_trace ?a_law_outcome ?l_law_outcome ?c_law_outcome ?k_law_outcome ?a_law ?l_law ?c_law ?k_law ?z_bool ?z_int ?z_isinstance ?z_len ?z_list ?z_max ?z_range ?z_tuple ?z_lcm ?xa_InvalidLetter ?xq_InvalidLetter ?xk_InvalidLetter ?xb_InvalidLetter ?xt_InvalidLetter ?xa_InvalidMachine ?xq_InvalidMachine ?xk_InvalidMachine ?xb_InvalidMachine ?xt_InvalidMachine ?xi_InvalidLetter ?xs_InvalidLetter_InvalidLetter))
    (case oa_Machine => k_is); (case og_Machine => k_is); (case oh_Machine => k_is); (case oo_Machine => k_is); (case os_Machine => k_is); (case om_Machine => k_is); (case ok_Machine => k_is); (case on_Machine_inputs => k_is); (case on_Machine_outputs => k_is); (case on_Machine_lead => k_is); (case on_Machine_opening => k_is); (case on_Machine_rows => k_is); (case a_all_below => k_is); (case l_all_below => k_is); (case c_all_below => k_is); (case k_all_below => k_is); (case a_Machine_init => k_is); (case l_Machine_init => k_is); (case c_Machine_init => k_is); (case k_Machine_init => k_is); (case i_Machine_init => k_is); (case a_emissions => k_is); (case l_emissions => k_is); (case c_emissions => k_is); (case k_emissions => k_is); (case a_Machine_call => k_is); (case fi_Machine_call => k_is); (case l_Machine_call => k_is); (case c_Machine_call => k_is); (case k_Machine_call => k_is); (case i_Machine_call => k_is); (case a_law_draws => k_is); (case l_law_draws => k_is); (case c_law_draws => k_is); (case k_law_draws => k_is); (case a_law_take => k_is); (case l_law_take => k_is); (case c_law_take => k_is); (case k_law_take => k_is); (case a_law_is_integer => k_is); (case l_law_is_integer => k_is); (case c_law_is_integer => k_is); (case k_law_is_integer => k_is); (case a_law_integers => k_is); (case l_law_integers => k_is); (case c_law_integers => k_is); (case k_law_integers => k_is); (case a_law_normal => k_is); (case l_law_normal => k_is); (case c_law_normal => k_is); (case k_law_normal => k_is); (case a_law_is_lasso => k_is); (case l_law_is_lasso => k_is); (case c_law_is_lasso => k_is); (case k_law_is_lasso => k_is); (case a_law_at => k_is); (case l_law_at => k_is); (case c_law_at => k_is); (case k_law_at => k_is); (case a_law_same => k_is); (case l_law_same => k_is); (case c_law_same => k_is); (case k_law_same => k_is); (case a_law_lasso => k_is); (case l_law_lasso => k_is); (case c_law_lasso => k_is); (case k_law_lasso => k_is); (case a_law_flat => k_is); (case l_law_flat => k_is); (case c_law_flat => k_is); (case k_law_flat => k_is); (case a_law_machine => k_is); (case l_law_machine => k_is); (case c_law_machine => k_is); (case k_law_machine => k_is); (case a_law_emissions => k_is); (case l_law_emissions => k_is); (case c_law_emissions => k_is); (case k_law_emissions => k_is); (case a_law_said => k_is); (case l_law_said => k_is); (case c_law_said => k_is); (case k_law_said => k_is); (case a_law_joint => k_is); (case l_law_joint => k_is); (case c_law_joint => k_is); (case k_law_joint => k_is); (case a_repeats => k_is); (case l_repeats => k_is); (case c_repeats => k_is); (case k_repeats => k_is); (case a_shortest => k_is); (case l_shortest => k_is); (case c_shortest => k_is); (case k_shortest => k_is); (case a_check_letters => k_is); (case l_check_letters => k_is); (case c_check_letters => k_is); (case k_check_letters => k_is); (case a_emission_lasso => k_is); (case l_emission_lasso => k_is); (case c_emission_lasso => k_is); (case k_emission_lasso => k_is); (case a_respond => k_is); (case l_respond => k_is); (case c_respond => k_is); (case k_respond => k_is); (case a_letter_in => k_is); (case l_letter_in => k_is); (case c_letter_in => k_is); (case k_letter_in => k_is); (case a_combine => k_is); (case l_combine => k_is); (case c_combine => k_is); (case k_combine => k_is); (case a_trace => k_is); (case l_trace => k_is); (case c_trace => k_is); (case k_trace => k_is); (case a_law_outcome => k_is); (case l_law_outcome => k_is); (case c_law_outcome => k_is); (case k_law_outcome => k_is); (case a_law => k_is); (case l_law => k_is); (case c_law => k_is); (case k_law => k_is); (case z_bool => k_is); (case z_int => k_is); (case z_isinstance => k_is); (case z_len => k_is); (case z_list => k_is); (case z_max => k_is); (case z_range => k_is); (case z_tuple => k_is); (case z_lcm => k_is); (case xa_InvalidLetter => k_is); (case xq_InvalidLetter => k_exc); (case xk_InvalidLetter => k_is); (case xb_InvalidLetter => k_is); (case xt_InvalidLetter => k_is); (case xa_InvalidMachine => k_is); (case xq_InvalidMachine => k_exc); (case xk_InvalidMachine => k_is); (case xb_InvalidMachine => k_is); (case xt_InvalidMachine => k_is); (case xi_InvalidLetter => k_is); (case xs_InvalidLetter_InvalidLetter => k_is)
  case X =>
    obtain ⟨_, _, _, _, _, _, _, _, _, _, _, _, z⟩ := h
    exact z
