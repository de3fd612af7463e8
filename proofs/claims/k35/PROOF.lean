import PyProof.Rows.All
import Wide.All
import OpenK.AllK
import Wide.FinOn
import HandS.ForMost
import HandS.Exc
import HandS.TryOnly
import HandS.ExcOwn
import HandS.WordsExc
import HandS.CallSlots
import HandS.IsInst
import HandS.ExcIs
import HandS.TryMany
import HandS.TupAny
import HandS.TupMul
import HandS.Conv
import HandS.Flow
import HandS.Gcd
import KE.KMathGC
import HandS.Dict
import HandS.Star
import KE.KRevSl
import HandS.SetFor
import HandS.Strs
import PySem.Challenge.RW_reactivesynth_k35_choices_win
/-! ## MnA -/
set_option Elab.async false
set_option linter.all false
set_option maxRecDepth 100000
/-! Mn, part A: mini values, mini heaps, and how the layer's abstract heap bears them. -/
namespace Mn
open PySem PySem.Spec PyProof.Rows L2

structure Gm where
  cls : Str → Addr
  fld : Str → Str
inductive MV where
  | non | bl (b : Bool) | int (i : Int) | str (x : Str)
  | tup (xs : List MV) | fl (xs : List MV) | sl (xs : List MV)
  | ob (C : Str) (ks : List Str) (xs : List MV)
  | ref (n : Nat)
  | exo (a : Addr) (d : Option Addr) (C : Str) (xs : List MV)
instance : Inhabited MV := ⟨.non⟩
inductive Cell where
  | lst (xs : List MV) | dct (kvs : List (MV × MV)) | ins (C : Str) (ks : List Str) (xs : List MV) | dead
abbrev MH := List Cell
inductive Out (α : Type) where
  | ok (a : α) (h : MH) | exc (C : Str) (xs : List MV) (h : MH) | stuck
abbrev MEnv := List (Option MV)
abbrev ME := MEnv → MH → Out MV
abbrev MA := MEnv → MH → Out (List MV)
abbrev MT := MEnv → MH → Out Bool
abbrev MI := MEnv → MH → Out (Option Int)
abbrev MF := List MV → MH → Out MV
@[reducible] def Out.bind {α β : Type} (x : Out α) (f : α → MH → Out β) : Out β :=
  match x with
  | .ok a h => f a h
  | .exc C xs h => .exc C xs h
  | .stuck => .stuck

/-- the shape: what is frozen, where the cells lie -/
structure Sh where
  Hs : Hp
  ι : List Addr

section
variable (Γ : Gm) (K : PySem.W.Frag) (S : Sh)
mutual
def Rep : MV → V → Prop
  | .non, v => v = .non
  | .bl b, v => v = .bl b
  | .int i, v => v = .int i
  | .str x, v => v = .str x
  | .tup xs, v => ∃ a us, v = .ref a ∧ SqT K S.Hs a us ∧ RepL xs us
  | .fl xs, v => ∃ a us, v = .ref a ∧ S.Hs a = some (.lst us) ∧ RepL xs us
  | .sl xs, v => ∃ a us, v = .ref a ∧ SqL K S.Hs a us ∧ RepL xs us
  | .ob C ks xs, v => ∃ a dx us, v = .ref a ∧ S.Hs a = some (.ins (Γ.cls C) dx (ks.zip us)) ∧ us.length = ks.length ∧ RepL xs us
  | .ref n, v => ∃ a, S.ι[n]? = some a ∧ v = .ref a
  | .exo a d C xs, v => v = .ref a ∧ ∃ us, ((us = [] ∧ d = none) ∨ ∃ dd u, us = [u] ∧ d = some dd ∧ S.Hs dd = some (.xd [(Γ.fld C, u)])) ∧ RepL xs us
def RepL : List MV → List V → Prop
  | [], us => us = []
  | x :: xs, us => ∃ u r, us = u :: r ∧ Rep x u ∧ RepL xs r
end
/-- entries of a dict with int and text keys -/
def keyV : MV → Option Key
  | .int i => some (.inl i)
  | .str x => some (.inr x)
  | _ => none
def RepD : List (MV × MV) → List (Key × V) → Prop
  | [], us => us = []
  | x :: xs, us => ∃ k u r, us = (k, u) :: r ∧ keyV x.1 = some k ∧ Rep Γ K S x.2 u ∧ RepD xs r
def CellOk (H : Hp) (a : Addr) : Cell → Prop
  | .lst xs => S.Hs a = none ∧ ∃ us, H a = some (.lst us) ∧ RepL Γ K S xs us
  | .dct kvs => S.Hs a = none ∧ ∃ us, H a = some (.dK us) ∧ RepD Γ K S kvs us
  | .ins C ks xs => S.Hs a = none ∧ ∃ dx us, H a = some (.ins (Γ.cls C) dx (ks.zip us)) ∧ us.length = ks.length ∧ RepL Γ K S xs us
  | .dead => True
structure Rel (h : MH) (H : Hp) : Prop where
  sub : ∀ a o, S.Hs a = some o → H a = some o
  len : S.ι.length = h.length
  nd : S.ι.Nodup
  trk : ∀ a ∈ S.ι, ∃ o, H a = some o
  cell : ∀ (n : Nat) (c : Cell) (a : Addr), h[n]? = some c → S.ι[n]? = some a → CellOk Γ K S H a c
def REnv (env : MEnv) (σ : L2.St) : Prop := env.length = σ.length ∧ ∀ (i : Nat) (d : MV), env[i]? = some (some d) → ∃ v, σ[i]? = some (some v) ∧ Rep Γ K S d v
end
structure Ext (S : Sh) (H : Hp) (S' : Sh) (H' : Hp) : Prop where
  hs : ∀ a o, S.Hs a = some o → S'.Hs a = some o
  ix : ∀ (n : Nat) (a : Addr), S.ι[n]? = some a → S'.ι[n]? = some a
  fr : ∀ a o, H a = some o → S.Hs a = none → a ∉ S.ι → H' a = some o ∧ S'.Hs a = none ∧ a ∉ S'.ι
theorem Ext.refl (S : Sh) (H : Hp) : Ext S H S H := ⟨fun _ _ h => h, fun _ _ h => h, fun _ _ h1 h2 h3 => ⟨h1, h2, h3⟩⟩
theorem Ext.trans {S S1 S2 : Sh} {H H1 H2 : Hp} (a : Ext S H S1 H1) (b : Ext S1 H1 S2 H2) : Ext S H S2 H2 :=
  ⟨fun x o h => b.hs x o (a.hs x o h), fun n x h => b.ix n x (a.ix n x h), fun x o h1 h2 h3 => by
    obtain ⟨q1, q2, q3⟩ := a.fr x o h1 h2 h3
    exact b.fr x o q1 q2 q3⟩

section
variable {Γ : Gm} {K : PySem.W.Frag} {S S' : Sh} {H H' : Hp} {h : MH}
theorem sqT_mono {a : Addr} {us : List V} (e : ∀ a o, S.Hs a = some o → S'.Hs a = some o) (q : SqT K S.Hs a us) : SqT K S'.Hs a us := by
  rcases q with (q | ⟨o, q⟩) | q
  · exact .inl (.inl (e _ _ q))
  · exact .inl (.inr ⟨o, e _ _ q⟩)
  · exact .inr q
theorem sqL_mono {a : Addr} {us : List V} (e : ∀ a o, S.Hs a = some o → S'.Hs a = some o) (q : SqL K S.Hs a us) : SqL K S'.Hs a us := by
  rcases q with (q | ⟨o, q⟩) | q
  · exact .inl (.inl (e _ _ q))
  · exact .inl (.inr ⟨o, e _ _ q⟩)
  · exact .inr q
mutual
theorem rep_mono (e : ∀ a o, S.Hs a = some o → S'.Hs a = some o) (i : ∀ (n : Nat) (a : Addr), S.ι[n]? = some a → S'.ι[n]? = some a) : ∀ (d : MV) (v : V), Rep Γ K S d v → Rep Γ K S' d v
  | .non, v, q => by unfold Rep at *; exact q
  | .bl b, v, q => by unfold Rep at *; exact q
  | .int _, v, q => by unfold Rep at *; exact q
  | .str x, v, q => by unfold Rep at *; exact q
  | .tup xs, v, q => by
    unfold Rep at *
    obtain ⟨a, us, e1, e2, e3⟩ := q
    exact ⟨a, us, e1, sqT_mono e e2, repL_mono e i xs us e3⟩
  | .fl xs, v, q => by
    unfold Rep at *
    obtain ⟨a, us, e1, e2, e3⟩ := q
    exact ⟨a, us, e1, e _ _ e2, repL_mono e i xs us e3⟩
  | .sl xs, v, q => by
    unfold Rep at *
    obtain ⟨a, us, e1, e2, e3⟩ := q
    exact ⟨a, us, e1, sqL_mono e e2, repL_mono e i xs us e3⟩
  | .ob C ks xs, v, q => by
    unfold Rep at *
    obtain ⟨a, dx, us, e1, e2, e4, e3⟩ := q
    exact ⟨a, dx, us, e1, e _ _ e2, e4, repL_mono e i xs us e3⟩
  | .ref n, v, q => by
    unfold Rep at *
    obtain ⟨a, e1, e2⟩ := q
    exact ⟨a, i _ _ e1, e2⟩
  | .exo a d C xs, v, q => by
    unfold Rep at *
    obtain ⟨e1, us, e2, e3⟩ := q
    refine ⟨e1, us, ?_, repL_mono e i xs us e3⟩
    rcases e2 with e2 | ⟨dd, u, f1, f2, f3⟩
    · exact .inl e2
    · exact .inr ⟨dd, u, f1, f2, e _ _ f3⟩
theorem repL_mono (e : ∀ a o, S.Hs a = some o → S'.Hs a = some o) (i : ∀ (n : Nat) (a : Addr), S.ι[n]? = some a → S'.ι[n]? = some a) : ∀ (ds : List MV) (vs : List V), RepL Γ K S ds vs → RepL Γ K S' ds vs
  | [], v, q => by unfold RepL at *; exact q
  | d :: ds, v, q => by
    unfold RepL at *
    obtain ⟨u, r, e1, e2, e3⟩ := q
    exact ⟨u, r, e1, rep_mono e i d u e2, repL_mono e i ds r e3⟩
end
theorem Rep.ext {d : MV} {v : V} (q : Rep Γ K S d v) (e : Ext S H S' H') : Rep Γ K S' d v := rep_mono e.hs e.ix d v q
theorem RepL.ext {d : List MV} {v : List V} (q : RepL Γ K S d v) (e : Ext S H S' H') : RepL Γ K S' d v := repL_mono e.hs e.ix d v q
theorem RepD.mono (e : ∀ a o, S.Hs a = some o → S'.Hs a = some o) (i : ∀ (n : Nat) (a : Addr), S.ι[n]? = some a → S'.ι[n]? = some a) : ∀ {d : List (MV × MV)} {v : List (Key × V)}, RepD Γ K S d v → RepD Γ K S' d v
  | [], _, q => q
  | _ :: _, _, ⟨k, u, r, e1, e2, e3, e4⟩ => ⟨k, u, r, e1, e2, rep_mono e i _ _ e3, RepD.mono e i e4⟩
theorem REnv.mono {env : MEnv} {σ : L2.St} (q : REnv Γ K S env σ) (e : Ext S H S' H') : REnv Γ K S' env σ :=
  ⟨q.1, fun i d h => let ⟨v, h1, h2⟩ := q.2 i d h; ⟨v, h1, h2.ext e⟩⟩
theorem CellOk.mono {a : Addr} {c : Cell} (q : CellOk Γ K S H a c) (e : ∀ a o, S.Hs a = some o → S'.Hs a = some o) (i : ∀ (n : Nat) (a : Addr), S.ι[n]? = some a → S'.ι[n]? = some a) (ha : S.Hs a = none → S'.Hs a = none) (hH : ∀ o, H a = some o → H' a = some o) : CellOk Γ K S' H' a c := by
  cases c with
  | lst xs => obtain ⟨z, us, e1, e2⟩ := q; exact ⟨ha z, us, hH _ e1, repL_mono e i _ _ e2⟩
  | dct kvs => obtain ⟨z, us, e1, e2⟩ := q; exact ⟨ha z, us, hH _ e1, RepD.mono e i e2⟩
  | ins C ks xs => obtain ⟨z, dx, us, e1, e3, e2⟩ := q; exact ⟨ha z, dx, us, hH _ e1, e3, repL_mono e i _ _ e2⟩
  | dead => trivial

/-! ### steps of the relation -/
variable (R : Rel Γ K S h H)
include R
/-- a new object, frozen at once -/
theorem Rel.froz {p : Addr} {o : HO} (hp : H p = none) : Rel Γ K ⟨upd S.Hs p o, S.ι⟩ h (upd H p o) ∧ Ext S H ⟨upd S.Hs p o, S.ι⟩ (upd H p o) := by
  have np : ∀ b u, S.Hs b = some u → b ≠ p := fun b u e z => by
    rw [z] at e
    rw [R.sub _ _ e] at hp; cases hp
  have nι : p ∉ S.ι := fun hm => by
    obtain ⟨o', e⟩ := R.trk p hm
    rw [e] at hp; cases hp
  have m1 : ∀ a u, S.Hs a = some u → upd S.Hs p o a = some u := fun a u e => by rw [upd_ne (np a u e)]; exact e
  refine ⟨⟨fun a u e => ?_, R.len, R.nd, fun a hm => ?_, fun n c a h1 h2 => ?_⟩, ⟨m1, fun _ _ e => e, fun a u e1 e2 e3 => ?_⟩⟩
  · by_cases ha : a = p
    · subst ha
      rw [upd_same]
      have e' : upd S.Hs a o a = some u := e
      rw [upd_same] at e'; exact e'
    · have e' : upd S.Hs p o a = some u := e
      rw [upd_ne ha] at e' ⊢
      exact R.sub _ _ e'
  · obtain ⟨u, e⟩ := R.trk a hm
    exact ⟨u, by rw [upd_ne (ne_of_none e hp)]; exact e⟩
  · have hm : a ∈ S.ι := List.mem_of_getElem? h2
    have na : a ≠ p := fun z => nι (z ▸ hm)
    refine (R.cell n c a h1 h2).mono m1 (fun _ _ e => e) (fun z => ?_) (fun u e => ?_)
    · show upd S.Hs p o a = none
      rw [upd_ne na]; exact z
    · rw [upd_ne na]; exact e
  · have na : a ≠ p := ne_of_none e1 hp
    refine ⟨by rw [upd_ne na]; exact e1, ?_, e3⟩
    show upd S.Hs p o a = none
    rw [upd_ne na]; exact e2
/-- a new object, a cell -/
theorem Rel.alloc {p : Addr} {o : HO} {c : Cell} (hp : H p = none) (hc : ∀ S' : Sh, S'.Hs = S.Hs → S'.ι = S.ι ++ [p] → CellOk Γ K S' (upd H p o) p c) :
    Rel Γ K ⟨S.Hs, S.ι ++ [p]⟩ (h ++ [c]) (upd H p o) ∧ Ext S H ⟨S.Hs, S.ι ++ [p]⟩ (upd H p o) := by
  have nι : p ∉ S.ι := fun hm => by
    obtain ⟨o', e⟩ := R.trk p hm
    rw [e] at hp; cases hp
  have m2 : ∀ (n : Nat) (a : Addr), S.ι[n]? = some a → (S.ι ++ [p])[n]? = some a := fun n a e => by
    rw [List.getElem?_append_left (List.getElem?_eq_some_iff.mp e).1]; exact e
  refine ⟨⟨fun a u e => ?_, ?_, ?_, fun a hm => ?_, fun n c' a h1 h2 => ?_⟩, ⟨fun _ _ e => e, m2, fun a u e1 e2 e3 => ?_⟩⟩
  · have q := R.sub a u e
    rw [upd_ne (ne_of_none q hp)]; exact q
  · show (S.ι ++ [p]).length = (h ++ [c]).length
    rw [List.length_append, List.length_append, R.len]; rfl
  · show (S.ι ++ [p]).Nodup
    rw [List.nodup_append]
    refine ⟨R.nd, by simp, fun a ha b hb => ?_⟩
    have : b = p := by simpa using hb
    subst this
    exact fun z => nι (z ▸ ha)
  · have hm' : a ∈ S.ι ++ [p] := hm
    rcases List.mem_append.mp hm' with hm' | hm'
    · obtain ⟨u, e⟩ := R.trk a hm'
      exact ⟨u, by rw [upd_ne (ne_of_none e hp)]; exact e⟩
    · have : a = p := by simpa using hm'
      subst this
      exact ⟨o, upd_same⟩
  · have h2' : (S.ι ++ [p])[n]? = some a := h2
    by_cases hn : n < h.length
    · rw [List.getElem?_append_left hn] at h1
      rw [List.getElem?_append_left (by rw [R.len]; exact hn)] at h2'
      have hm : a ∈ S.ι := List.mem_of_getElem? h2'
      have na : a ≠ p := fun z => nι (z ▸ hm)
      refine (R.cell n c' a h1 h2').mono (S' := ⟨S.Hs, S.ι ++ [p]⟩) (fun _ _ e => e) m2 (fun z => z) (fun u e => ?_)
      rw [upd_ne na]; exact e
    · have hn' : n = h.length := by
        have := (List.getElem?_eq_some_iff.mp h1).1
        rw [List.length_append] at this
        simp only [List.length_cons, List.length_nil] at this
        omega
      subst hn'
      rw [List.getElem?_append_right (Nat.le_refl _), Nat.sub_self] at h1
      rw [List.getElem?_append_right (by rw [R.len]; exact Nat.le_refl _), R.len, Nat.sub_self] at h2'
      simp only [List.getElem?_cons_zero, Option.some.injEq] at h1 h2'
      subst h1 h2'
      exact hc _ rfl rfl
  · have na : a ≠ p := ne_of_none e1 hp
    refine ⟨by rw [upd_ne na]; exact e1, e2, fun hm => ?_⟩
    have hm' : a ∈ S.ι ++ [p] := hm
    rcases List.mem_append.mp hm' with hm' | hm'
    · exact e3 hm'
    · exact na (by simpa using hm')
/-- a cell written -/
theorem Rel.store {n : Nat} {a : Addr} {o : HO} {c : Cell} (hn : S.ι[n]? = some a) (hs : S.Hs a = none) (hc : CellOk Γ K S (upd H a o) a c) : Rel Γ K S (h.set n c) (upd H a o) ∧ Ext S H S (upd H a o) := by
  have hm : a ∈ S.ι := List.mem_of_getElem? hn
  refine ⟨⟨fun b u e => ?_, by rw [List.length_set]; exact R.len, R.nd, fun b hb => ?_, fun k c' b h1 h2 => ?_⟩, ⟨fun _ _ e => e, fun _ _ e => e, fun b u e1 e2 e3 => ⟨?_, e2, e3⟩⟩⟩
  · have nb : b ≠ a := fun z => by rw [z, hs] at e; cases e
    rw [upd_ne nb]; exact R.sub b u e
  · by_cases hb' : b = a
    · subst hb'; exact ⟨o, upd_same⟩
    · obtain ⟨u, e⟩ := R.trk b hb
      exact ⟨u, by rw [upd_ne hb']; exact e⟩
  · by_cases hk : n = k
    · subst hk
      rw [hn] at h2; cases h2
      have hl : n < h.length := by
        have := (List.getElem?_eq_some_iff.mp h1).1
        rw [List.length_set] at this; exact this
      rw [List.getElem?_set_self hl] at h1
      cases h1
      exact hc
    · rw [List.getElem?_set_ne hk] at h1
      have nb : b ≠ a := fun z => by
        subst z
        obtain ⟨l1, q1⟩ := List.getElem?_eq_some_iff.mp hn
        obtain ⟨l2, q2⟩ := List.getElem?_eq_some_iff.mp h2
        exact hk ((List.getElem_inj R.nd).mp (q1.trans q2.symm))
      exact (R.cell k c' b h1 h2).mono (fun _ _ e => e) (fun _ _ e => e) (fun z => z) (fun u e => by rw [upd_ne nb]; exact e)
  · have nb : b ≠ a := fun z => e3 (z ▸ hm)
    rw [upd_ne nb]; exact e1
/-- a cell frozen for good -/
theorem Rel.freeze {n : Nat} {a : Addr} {o : HO} (hn : S.ι[n]? = some a) (hs : S.Hs a = none) (ho : H a = some o) : Rel Γ K ⟨upd S.Hs a o, S.ι⟩ (h.set n .dead) H ∧ Ext S H ⟨upd S.Hs a o, S.ι⟩ H := by
  have hm : a ∈ S.ι := List.mem_of_getElem? hn
  have m1 : ∀ b u, S.Hs b = some u → upd S.Hs a o b = some u := fun b u e => by
    have nb : b ≠ a := fun z => by rw [z, hs] at e; cases e
    rw [upd_ne nb]; exact e
  refine ⟨⟨fun b u e => ?_, by rw [List.length_set]; exact R.len, R.nd, R.trk, fun k c' b h1 h2 => ?_⟩, ⟨m1, fun _ _ e => e, fun b u e1 e2 e3 => ⟨e1, ?_, e3⟩⟩⟩
  · have e' : upd S.Hs a o b = some u := e
    by_cases hb : b = a
    · subst hb
      rw [upd_same] at e'; cases e'; exact ho
    · rw [upd_ne hb] at e'
      exact R.sub b u e'
  · by_cases hk : n = k
    · subst hk
      have hl : n < h.length := by
        have := (List.getElem?_eq_some_iff.mp h1).1
        rw [List.length_set] at this; exact this
      rw [List.getElem?_set_self hl] at h1
      cases h1
      trivial
    · rw [List.getElem?_set_ne hk] at h1
      have h2' : S.ι[k]? = some b := h2
      have nb : b ≠ a := fun z => by
        subst z
        obtain ⟨l1, q1⟩ := List.getElem?_eq_some_iff.mp hn
        obtain ⟨l2, q2⟩ := List.getElem?_eq_some_iff.mp h2'
        exact hk ((List.getElem_inj R.nd).mp (q1.trans q2.symm))
      refine (R.cell k c' b h1 h2').mono m1 (fun _ _ e => e) (fun z => ?_) (fun u e => e)
      show upd S.Hs a o b = none
      rw [upd_ne nb]; exact z
  · have nb : b ≠ a := fun z => e3 (z ▸ hm)
    show upd S.Hs a o b = none
    rw [upd_ne nb]; exact e2
end
end Mn
/-! ## MnB -/
set_option Elab.async false
set_option linter.all false
set_option maxRecDepth 100000
/-! Mn, part B: judgements with mirrors; expressions. -/
namespace Mn
open PySem PySem.Spec PyProof.Rows L2

section
variable (Γ : Gm) (K : PySem.W.Frag)
def RepX (C : Str) (xs : List MV) (dd : Option Addr) (S : Sh) (H : Hp) : Prop :=
  match xs with
  | [] => dd = none
  | [x] => ∃ d v, dd = some d ∧ S.Hs d = some (.xd [(Γ.fld C, v)]) ∧ Rep Γ K S x v
  | _ => False
def Post {α β : Type} (R : Sh → α → β → Prop) (S : Sh) (H : Hp) (Q : β → Hp → Prop) (E : XK) : Out α → Prop
  | .ok a h => ∀ S' H' b, Ext S H S' H' → Rel Γ K S' h H' → R S' a b → Q b H'
  | .exc C xs h => ∀ S' H' dd, Ext S H S' H' → Rel Γ K S' h H' → RepX Γ K C xs dd S' H' → E (.ref (Γ.cls C)) dd H'
  | .stuck => False
end
section
variable {Γ : Gm} {K : PySem.W.Frag} {α β γ δ : Type} {R : Sh → α → β → Prop} {R' : Sh → γ → δ → Prop} {S S1 : Sh} {H H1 : Hp} {Q : β → Hp → Prop} {Q' : δ → Hp → Prop} {E E' : XK}
theorem Post.ext {o : Out α} (p : Post Γ K R S H Q E o) (e : Ext S H S1 H1) : Post Γ K R S1 H1 Q E o := by
  cases o with
  | ok a h => exact fun S' H' b e' => p S' H' b (e.trans e')
  | exc C xs h => exact fun S' H' dd e' => p S' H' dd (e.trans e')
  | stuck => exact p
theorem Post.bind {x : Out α} {f : α → MH → Out γ} (hp : Post Γ K R' S H Q' E (x.bind f))
    (k : ∀ a h1 S1 H1 b, x = .ok a h1 → Ext S H S1 H1 → Rel Γ K S1 h1 H1 → R S1 a b → Post Γ K R' S1 H1 Q' E (f a h1) → Q b H1) : Post Γ K R S H Q E x := by
  cases x with
  | ok a h => exact fun S' H' b e r q => k a h S' H' b rfl e r q (Post.ext hp e)
  | exc C xs h => exact hp
  | stuck => exact hp
theorem Post.mono {o : Out α} {Q1 : β → Hp → Prop} (p : Post Γ K R S H Q E o) (q : ∀ b H', Q b H' → Q1 b H') : Post Γ K R S H Q1 E o := by
  cases o with
  | ok a h => exact fun S' H' b e r z => q _ _ (p S' H' b e r z)
  | exc C xs h => exact p
  | stuck => exact p
end

/-! ### the judgements -/
abbrev WE' (W : WX) (σ : L2.St) : XK := fun c d H' => W c d σ H'
def ExE (Γ : Gm) (K : PySem.W.Frag) (W : WX) (t : TE) (m : ME) : Prop :=
  ∀ S H h σ env Q, Rel Γ K S h H → REnv Γ K S env σ → Post Γ K (Rep Γ K) S H Q (WE' W σ) (m env h) → t σ H Q
def ExA (Γ : Gm) (K : PySem.W.Frag) (W : WX) (t : TA) (m : MA) : Prop :=
  ∀ S H h σ env Q, Rel Γ K S h H → REnv Γ K S env σ → Post Γ K (RepL Γ K) S H Q (WE' W σ) (m env h) → t σ H Q
def ExT (Γ : Gm) (K : PySem.W.Frag) (W : WX) (t : TT) (m : MT) : Prop :=
  ∀ S H h σ env Q, Rel Γ K S h H → REnv Γ K S env σ → Post Γ K (fun _ (a b : Bool) => b = a) S H Q (WE' W σ) (m env h) → t σ H Q
def ExO (Γ : Gm) (K : PySem.W.Frag) (W : WX) (t : TO) (m : MI) : Prop :=
  ∀ S H h σ env Q, Rel Γ K S h H → REnv Γ K S env σ → Post Γ K (fun _ (a b : Option Int) => b = a) S H Q (WE' W σ) (m env h) → t σ H Q
structure SE (Γ : Gm) (X : Cx) (W : WX) (e : Expr) (m : ME) : Prop where
  ex : ∃ t : TE, PE X e t ∧ ExE Γ X.K W t m
structure SA (Γ : Gm) (X : Cx) (W : WX) (es : List Expr) (m : MA) : Prop where
  ex : ∃ t : TA, PA X es t ∧ ExA Γ X.K W t m
structure ST (Γ : Gm) (X : Cx) (W : WX) (e : Expr) (m : MT) : Prop where
  ex : ∃ t : TT, PT X e t ∧ ExT Γ X.K W t m
structure SW (Γ : Gm) (X : Cx) (W : WX) (e : Expr) (m : MT) : Prop where
  ex : ∃ t : TT, PW X e t ∧ ExT Γ X.K W t m
structure SO (Γ : Gm) (X : Cx) (W : WX) (e : Option Expr) (m : MI) : Prop where
  ex : ∃ t : TO, PO X e t ∧ ExO Γ X.K W t m

/-! ### mirrors -/
def mC (d : MV) : ME := fun _ h => .ok d h
def mV (i : Nat) : ME := fun env h => match env[i]? with
  | some (some d) => .ok d h
  | _ => .stuck
def m1 (f : MV → MH → Out MV) (a : ME) : ME := fun env h => (a env h).bind f
def m2 (f : MV → MV → MH → Out MV) (a b : ME) : ME := fun env h => (a env h).bind fun x h => (b env h).bind fun y h => f x y h
def maN : MA := fun _ h => .ok [] h
def maC (a : ME) (r : MA) : MA := fun env h => (a env h).bind fun x h => (r env h).bind fun xs h => .ok (x :: xs) h
def mF (f : MF) (a : MA) : ME := fun env h => (a env h).bind f
def boolOf (x : MV) (h : MH) : Out Bool := match x with
  | .bl b => .ok b h
  | _ => .stuck
def mT (a : ME) : MT := fun env h => (a env h).bind boolOf
def tAndM (a b : MT) : MT := fun env h => (a env h).bind fun c h => if c = true then b env h else .ok false h
def tOrM (a b : MT) : MT := fun env h => (a env h).bind fun c h => if c = true then .ok true h else b env h
def tNotM (a : MT) : MT := fun env h => (a env h).bind fun c h => .ok (!c) h
def mAnd (a b : ME) : ME := fun env h => (a env h).bind fun x h => (boolOf x h).bind fun c h => if c = true then b env h else .ok (.bl false) h
def mOr (a b : ME) : ME := fun env h => (a env h).bind fun x h => (boolOf x h).bind fun c h => if c = true then .ok (.bl true) h else b env h
def mNot (a : ME) : ME := fun env h => (a env h).bind fun x h => (boolOf x h).bind fun c h => .ok (.bl (!c)) h
def mIf (t : MT) (a b : ME) : ME := fun env h => (t env h).bind fun c h => if c = true then a env h else b env h
def moN : MI := fun _ h => .ok none h
def intOf (x : MV) (h : MH) : Out (Option Int) := match x with
  | .int i => .ok (some i) h
  | _ => .stuck
def moS (a : ME) : MI := fun env h => (a env h).bind intOf

section
variable {Γ : Gm} {X : Cx} {W : WX} {e a b c : Expr} {es rest : List Expr} {pos : Pos} {ma mb mc : ME} {ms : MA} {mt mu : MT}

/-- how an operation by values is lifted -/
def Lift2 (Γ : Gm) (K : PySem.W.Frag) (r : R2) (f : MV → MV → MH → Out MV) : Prop :=
  ∀ S H h x y u v Q E, Rel Γ K S h H → Rep Γ K S x u → Rep Γ K S y v → Post Γ K (Rep Γ K) S H Q E (f x y h) → r u v H Q
def Lift1 (Γ : Gm) (K : PySem.W.Frag) (r : V → Hp → VK → Prop) (f : MV → MH → Out MV) : Prop :=
  ∀ S H h x u Q E, Rel Γ K S h H → Rep Γ K S x u → Post Γ K (Rep Γ K) S H Q E (f x h) → r u H Q
def LiftF (Γ : Gm) (K : PySem.W.Frag) (r : List V → Hp → VK → Prop) (f : MF) : Prop :=
  ∀ S H h x u Q E, Rel Γ K S h H → RepL Γ K S x u → Post Γ K (Rep Γ K) S H Q E (f x h) → r u H Q

/-- a value handed out as it is -/
theorem Post.val {K : PySem.W.Frag} {S : Sh} {H : Hp} {Q : VK} {E : XK} {d : MV} {v : V} {h : MH} (p : Post Γ K (Rep Γ K) S H Q E (.ok d h)) (R : Rel Γ K S h H) (r : Rep Γ K S d v) : Q v H := p S H v (Ext.refl _ _) R r

theorem exE_bind {K : PySem.W.Frag} {t : TE} {m : ME} {γ δ : Type} {R' : Sh → γ → δ → Prop} {f : MV → MH → Out γ} {S : Sh} {H : Hp} {h : MH} {σ : L2.St} {env : MEnv} {Q' : δ → Hp → Prop} {QQ : VK} (ht : ExE Γ K W t m) (R : Rel Γ K S h H) (G : REnv Γ K S env σ)
    (hp : Post Γ K R' S H Q' (WE' W σ) ((m env h).bind f))
    (k : ∀ a h1 S1 H1 v, Ext S H S1 H1 → Rel Γ K S1 h1 H1 → REnv Γ K S1 env σ → Rep Γ K S1 a v → Post Γ K R' S1 H1 Q' (WE' W σ) (f a h1) → QQ v H1) : t σ H QQ :=
  ht S H h σ env QQ R G (Post.bind hp fun a h1 S1 H1 v _ e r q p => k a h1 S1 H1 v e r (G.mono e) q p)
theorem exA_bind {K : PySem.W.Frag} {t : TA} {m : MA} {γ δ : Type} {R' : Sh → γ → δ → Prop} {f : List MV → MH → Out γ} {S : Sh} {H : Hp} {h : MH} {σ : L2.St} {env : MEnv} {Q' : δ → Hp → Prop} {QQ : List V → Hp → Prop} (ht : ExA Γ K W t m) (R : Rel Γ K S h H) (G : REnv Γ K S env σ)
    (hp : Post Γ K R' S H Q' (WE' W σ) ((m env h).bind f))
    (k : ∀ a h1 S1 H1 v, Ext S H S1 H1 → Rel Γ K S1 h1 H1 → REnv Γ K S1 env σ → RepL Γ K S1 a v → Post Γ K R' S1 H1 Q' (WE' W σ) (f a h1) → QQ v H1) : t σ H QQ :=
  ht S H h σ env QQ R G (Post.bind hp fun a h1 S1 H1 v _ e r q p => k a h1 S1 H1 v e r (G.mono e) q p)
theorem exT_bind {K : PySem.W.Frag} {t : TT} {m : MT} {γ δ : Type} {R' : Sh → γ → δ → Prop} {f : Bool → MH → Out γ} {S : Sh} {H : Hp} {h : MH} {σ : L2.St} {env : MEnv} {Q' : δ → Hp → Prop} {QQ : Bool → Hp → Prop} (ht : ExT Γ K W t m) (R : Rel Γ K S h H) (G : REnv Γ K S env σ)
    (hp : Post Γ K R' S H Q' (WE' W σ) ((m env h).bind f))
    (k : ∀ a h1 S1 H1, Ext S H S1 H1 → Rel Γ K S1 h1 H1 → REnv Γ K S1 env σ → Post Γ K R' S1 H1 Q' (WE' W σ) (f a h1) → QQ a H1) : t σ H QQ :=
  ht S H h σ env QQ R G (Post.bind hp fun a h1 S1 H1 v _ e r q p => by
    have q' : v = a := q
    subst q'
    exact k v h1 S1 H1 e r (G.mono e) p)
theorem exO_bind {K : PySem.W.Frag} {t : TO} {m : MI} {γ δ : Type} {R' : Sh → γ → δ → Prop} {f : Option Int → MH → Out γ} {S : Sh} {H : Hp} {h : MH} {σ : L2.St} {env : MEnv} {Q' : δ → Hp → Prop} {QQ : Option Int → Hp → Prop} (ht : ExO Γ K W t m) (R : Rel Γ K S h H) (G : REnv Γ K S env σ)
    (hp : Post Γ K R' S H Q' (WE' W σ) ((m env h).bind f))
    (k : ∀ a h1 S1 H1, Ext S H S1 H1 → Rel Γ K S1 h1 H1 → REnv Γ K S1 env σ → Post Γ K R' S1 H1 Q' (WE' W σ) (f a h1) → QQ a H1) : t σ H QQ :=
  ht S H h σ env QQ R G (Post.bind hp fun a h1 S1 H1 v _ e r q p => by
    have q' : v = a := q
    subst q'
    exact k v h1 S1 H1 e r (G.mono e) p)

theorem se_int {i j p} : SE Γ X W (.Constant (.int i) j p) (mC (.int i)) := ⟨_, pe_int, fun S H h σ env Q R G p => p.val R (by unfold Rep; rfl)⟩
theorem se_bl {i j p} : SE Γ X W (.Constant (.bool i) j p) (mC (.bl i)) := ⟨_, pe_bl, fun S H h σ env Q R G p => p.val R (by unfold Rep; rfl)⟩
theorem se_non {j p} : SE Γ X W (.Constant .none j p) (mC .non) := ⟨_, pe_non, fun S H h σ env Q R G p => p.val R (by unfold Rep; rfl)⟩
theorem se_str {i j p} : SE Γ X W (.Constant (.str i) j p) (mC (.str i)) := ⟨_, pe_str, fun S H h σ env Q R G p => p.val R (by unfold Rep; rfl)⟩
theorem se_v (i : Nat) {x : Str} {p : Pos} (hN : X.N[i]? = some x := by rfl) (hv : Vis X.env.scope x := by first | exact Or.inl rfl | exact Or.inr (Or.inl rfl) | exact Or.inr (Or.inr rfl)) (hd : (x == ("__debug__" : Str)) = false := by decide)
    (hcd : (x == ("__classdict__" : Str)) = false := by decide) : SE Γ X W (.Name x p) (mV i) := ⟨_, pe_var hN hv hd hcd, fun S H h σ env Q R G q => by
  unfold mV at q
  split at q
  · rename_i d hd
    obtain ⟨v, h1, h2⟩ := G.2 i d hd
    exact ⟨v, h1, q.val R h2⟩
  · exact q.elim⟩
/-- a module's constant -/
theorem se_glob {x : Str} {d : MV} {v : V} {u : Value} {p : Pos} (hg : Gl X x) (hm : X.mg x = some u) (r : RelV v u) (hr : ∀ S, Rep Γ X.K S d v) (hd : (x == ("__debug__" : Str)) = false := by decide) : SE Γ X W (.Name x p) (mC d) := ⟨_, pe_glob hg hm r hd, fun S H h σ env Q R G p => p.val R (hr S)⟩

theorem se_op {op : Operator} {r : R2} {f : MV → MV → MH → Out MV} (ho : OpR X (binaryOp op) r) (hl : Lift2 Γ X.K r f) (ha : SE Γ X W a ma) (hb : SE Γ X W b mb) : SE Γ X W (.BinOp a op b pos) (m2 f ma mb) := by
  obtain ⟨ta, pa, ea⟩ := ha.ex
  obtain ⟨tb, pb, eb⟩ := hb.ex
  exact ⟨_, pe_op ho pa pb, fun S H h σ env Q R G p => exE_bind (t := ta) ea R G p fun x h1 S1 H1 u e1 R1 G1 r1 p1 => exE_bind (t := tb) eb R1 G1 p1 fun y h2 S2 H2 v e2 R2 G2 r2 p2 => hl S2 H2 h2 x y u v Q _ R2 (r1.ext e2) r2 p2⟩
theorem se_cmp {op : CmpOp} {r : R2} {f : MV → MV → MH → Out MV} (ho : OpR X (compareOp op) r) (hl : Lift2 Γ X.K r f) (ha : SE Γ X W a ma) (hb : SE Γ X W b mb) (hm : behindInMarks op b = false := by first | exact nobehind _ (by decide) (by decide) | rfl) : SE Γ X W (.Compare a [op] [b] pos) (m2 f ma mb) := by
  obtain ⟨ta, pa, ea⟩ := ha.ex
  obtain ⟨tb, pb, eb⟩ := hb.ex
  exact ⟨_, pe_cmpR ho pa pb hm, fun S H h σ env Q R G p => exE_bind (t := ta) ea R G p fun x h1 S1 H1 u e1 R1 G1 r1 p1 => exE_bind (t := tb) eb R1 G1 p1 fun y h2 S2 H2 v e2 R2 G2 r2 p2 => hl S2 H2 h2 x y u v Q _ R2 (r1.ext e2) r2 p2⟩
theorem rep_bl {K : PySem.W.Frag} {S : Sh} {c : Bool} {v : V} (r : Rep Γ K S (.bl c) v) : v = .bl c := by unfold Rep at r; exact r
theorem rep_int {K : PySem.W.Frag} {S : Sh} {c : Int} {v : V} (r : Rep Γ K S (.int c) v) : v = .int c := by unfold Rep at r; exact r
theorem rep_str {K : PySem.W.Frag} {S : Sh} {c : Str} {v : V} (r : Rep Γ K S (.str c) v) : v = .str c := by unfold Rep at r; exact r
theorem rep_non {K : PySem.W.Frag} {S : Sh} {v : V} (r : Rep Γ K S .non v) : v = .non := by unfold Rep at r; exact r
theorem is_int {K : PySem.W.Frag} {S : Sh} {c : Int} : Rep Γ K S (.int c) (.int c) := by unfold Rep; rfl
theorem is_bl {K : PySem.W.Frag} {S : Sh} {c : Bool} : Rep Γ K S (.bl c) (.bl c) := by unfold Rep; rfl
theorem is_str {K : PySem.W.Frag} {S : Sh} {c : Str} : Rep Γ K S (.str c) (.str c) := by unfold Rep; rfl
theorem is_non {K : PySem.W.Frag} {S : Sh} : Rep Γ K S .non .non := by unfold Rep; rfl
theorem bool_of {K : PySem.W.Frag} {S : Sh} {H : Hp} {E : XK} {γ δ : Type} {R' : Sh → γ → δ → Prop} {Q : δ → Hp → Prop} {x : MV} {u : V} {h : MH} {f : Bool → MH → Out γ} (r : Rep Γ K S x u) (p : Post Γ K R' S H Q E ((boolOf x h).bind f)) : ∃ c, u = .bl c ∧ Post Γ K R' S H Q E (f c h) := by
  cases x with
  | bl c => exact ⟨c, rep_bl r, p⟩
  | non => exact False.elim p
  | int _ => exact False.elim p
  | str _ => exact False.elim p
  | tup _ => exact False.elim p
  | fl _ => exact False.elim p
  | sl _ => exact False.elim p
  | ob _ _ _ => exact False.elim p
  | ref _ => exact False.elim p
  | exo _ _ _ _ => exact False.elim p
theorem bool_ofT {K : PySem.W.Frag} {S : Sh} {H : Hp} {E : XK} {Q : Bool → Hp → Prop} {x : MV} {u : V} {h : MH} (R : Rel Γ K S h H) (r : Rep Γ K S x u) (p : Post Γ K (fun _ (a b : Bool) => b = a) S H Q E (boolOf x h)) : ∃ c, u = .bl c ∧ Q c H := by
  cases x with
  | bl c => exact ⟨c, rep_bl r, p S H c (Ext.refl _ _) R rfl⟩
  | non => exact False.elim p
  | int _ => exact False.elim p
  | str _ => exact False.elim p
  | tup _ => exact False.elim p
  | fl _ => exact False.elim p
  | sl _ => exact False.elim p
  | ob _ _ _ => exact False.elim p
  | ref _ => exact False.elim p
  | exo _ _ _ _ => exact False.elim p

/-! tests -/
theorem st_cmp {op : CmpOp} {r : R2} {f : MV → MV → MH → Out MV} (ho : OpR X (compareOp op) r) (hl : Lift2 Γ X.K r f) (ha : SE Γ X W a ma) (hb : SE Γ X W b mb) (hm : behindInMarks op b = false := by first | exact nobehind _ (by decide) (by decide) | rfl) : ST Γ X W (.Compare a [op] [b] pos) (mT (m2 f ma mb)) := by
  obtain ⟨ta, pa, ea⟩ := ha.ex
  obtain ⟨tb, pb, eb⟩ := hb.ex
  have hE : ExE Γ X.K W (tOp r ta tb) (m2 f ma mb) := fun S H h σ env Q R G p => exE_bind (t := ta) ea R G p fun x h1 S1 H1 u e1 R1 G1 r1 p1 => exE_bind (t := tb) eb R1 G1 p1 fun y h2 S2 H2 v e2 R2 G2 r2 p2 => hl S2 H2 h2 x y u v Q _ R2 (r1.ext e2) r2 p2
  exact ⟨_, pt_cmpR ho pa pb hm, fun S H h σ env Q R G p => exE_bind (t := tOp r ta tb) hE R G p fun x h1 S1 H1 u e1 R1 G1 r1 p1 => bool_ofT R1 r1 p1⟩
theorem st_val (ha : SE Γ X W e ma) (he : ∀ whole, isTrue e X.env whole = (do let v ← whole; standAt e.pos; holding [v] (truthy v)) := by intro _; rfl) : ST Γ X W e (mT ma) := by
  obtain ⟨ta, pa, ea⟩ := ha.ex
  exact ⟨_, pt_val pa he, fun S H h σ env Q R G p => exE_bind (t := ta) ea R G p fun x h1 S1 H1 u e1 R1 G1 r1 p1 => bool_ofT R1 r1 p1⟩
theorem st_not (ha : ST Γ X W a mt) : ST Γ X W (.UnaryOp .Not a pos) (tNotM mt) := by
  obtain ⟨ta, pa, ea⟩ := ha.ex
  exact ⟨_, pt_not pa, fun S H h σ env Q R G p => exT_bind (t := ta) ea R G p fun x h1 S1 H1 e1 R1 G1 p1 => p1 S1 H1 (!x) (Ext.refl _ _) R1 rfl⟩
theorem SW.st (h : SW Γ X W e mt) : ST Γ X W e mt := by
  obtain ⟨ta, pa, ea⟩ := h.ex
  exact ⟨_, pa.pt, ea⟩
theorem sw_and1 (ha : ST Γ X W a mt) : SW Γ X W (.BoolOp .And [a] pos) mt := by
  obtain ⟨ta, pa, ea⟩ := ha.ex
  exact ⟨_, pw_and1 pa, ea⟩
theorem sw_or1 (ha : ST Γ X W a mt) : SW Γ X W (.BoolOp .Or [a] pos) mt := by
  obtain ⟨ta, pa, ea⟩ := ha.ex
  exact ⟨_, pw_or1 pa, ea⟩
theorem sw_and (ha : ST Γ X W a mt) (hb : SW Γ X W (.BoolOp .And (b :: rest) pos) mu) : SW Γ X W (.BoolOp .And (a :: b :: rest) pos) (tAndM mt mu) := by
  obtain ⟨ta, pa, ea⟩ := ha.ex
  obtain ⟨tb, pb, eb⟩ := hb.ex
  refine ⟨_, pw_and pa pb, fun S H h σ env Q R G p => exT_bind (t := ta) ea R G p fun x h1 S1 H1 e1 R1 G1 p1 => ?_⟩
  cases x with
  | true => exact eb S1 H1 h1 σ env Q R1 G1 p1
  | false => exact p1 S1 H1 _ (Ext.refl _ _) R1 rfl
theorem sw_or (ha : ST Γ X W a mt) (hb : SW Γ X W (.BoolOp .Or (b :: rest) pos) mu) : SW Γ X W (.BoolOp .Or (a :: b :: rest) pos) (tOrM mt mu) := by
  obtain ⟨ta, pa, ea⟩ := ha.ex
  obtain ⟨tb, pb, eb⟩ := hb.ex
  refine ⟨_, pw_or pa pb, fun S H h σ env Q R G p => exT_bind (t := ta) ea R G p fun x h1 S1 H1 e1 R1 G1 p1 => ?_⟩
  cases x with
  | false => exact eb S1 H1 h1 σ env Q R1 G1 p1
  | true => exact p1 S1 H1 _ (Ext.refl _ _) R1 rfl
theorem se_one {op} (ha : SE Γ X W a ma) : SE Γ X W (.BoolOp op [a] pos) ma := by
  obtain ⟨ta, pa, ea⟩ := ha.ex
  exact ⟨_, pe_one pa, ea⟩
theorem se_and (ha : SE Γ X W a ma) (hb : SE Γ X W (.BoolOp .And (b :: rest) pos) mb) : SE Γ X W (.BoolOp .And (a :: b :: rest) pos) (mAnd ma mb) := by
  obtain ⟨ta, pa, ea⟩ := ha.ex
  obtain ⟨tb, pb, eb⟩ := hb.ex
  refine ⟨_, pe_and pa pb, fun S H h σ env Q R G p => exE_bind (t := ta) ea R G p fun x h1 S1 H1 u e1 R1 G1 r1 p1 => ?_⟩
  obtain ⟨c, rfl, p2⟩ := bool_of r1 p1
  refine ⟨c, rfl, ?_⟩
  cases c with
  | true => exact eb S1 H1 h1 σ env Q R1 G1 p2
  | false => exact p2.val R1 is_bl
theorem se_or (ha : SE Γ X W a ma) (hb : SE Γ X W (.BoolOp .Or (b :: rest) pos) mb) : SE Γ X W (.BoolOp .Or (a :: b :: rest) pos) (mOr ma mb) := by
  obtain ⟨ta, pa, ea⟩ := ha.ex
  obtain ⟨tb, pb, eb⟩ := hb.ex
  refine ⟨_, pe_or pa pb, fun S H h σ env Q R G p => exE_bind (t := ta) ea R G p fun x h1 S1 H1 u e1 R1 G1 r1 p1 => ?_⟩
  obtain ⟨c, rfl, p2⟩ := bool_of r1 p1
  refine ⟨c, rfl, ?_⟩
  cases c with
  | false => exact eb S1 H1 h1 σ env Q R1 G1 p2
  | true => exact p2.val R1 is_bl
theorem se_not (ha : SE Γ X W a ma) : SE Γ X W (.UnaryOp .Not a pos) (mNot ma) := by
  obtain ⟨ta, pa, ea⟩ := ha.ex
  refine ⟨_, pe_not pa, fun S H h σ env Q R G p => exE_bind (t := ta) ea R G p fun x h1 S1 H1 u e1 R1 G1 r1 p1 => ?_⟩
  obtain ⟨c, rfl, p2⟩ := bool_of r1 p1
  exact ⟨c, rfl, p2.val R1 is_bl⟩
theorem se_if (ht : ST Γ X W c mt) (ha : SE Γ X W a ma) (hb : SE Γ X W b mb) : SE Γ X W (.IfExp c a b pos) (mIf mt ma mb) := by
  obtain ⟨tc, pc, ec⟩ := ht.ex
  obtain ⟨ta, pa, ea⟩ := ha.ex
  obtain ⟨tb, pb, eb⟩ := hb.ex
  refine ⟨_, pe_ifExp pc pa pb, fun S H h σ env Q R G p => exT_bind (t := tc) ec R G p fun x h1 S1 H1 e1 R1 G1 p1 => ?_⟩
  cases x with
  | true => exact ea S1 H1 h1 σ env Q R1 G1 p1
  | false => exact eb S1 H1 h1 σ env Q R1 G1 p1
/-- an unary operator -/
theorem se_un {op : UnaryOp} {r : V → Hp → VK → Prop} {f : MV → MH → Out MV} (ho : UnR X (unaryOp op) r) (hl : Lift1 Γ X.K r f) (ha : SE Γ X W a ma) : SE Γ X W (.UnaryOp op a pos) (m1 f ma) := by
  obtain ⟨ta, pa, ea⟩ := ha.ex
  exact ⟨_, pe_un ho pa, fun S H h σ env Q R G p => exE_bind (t := ta) ea R G p fun x h1 S1 H1 u e1 R1 G1 r1 p1 => hl S1 H1 h1 x u Q _ R1 r1 p1⟩

/-! argument lists -/
theorem sa_nil : SA Γ X W [] maN := ⟨_, pa_nil, fun S H h σ env Q R G p => p S H [] (Ext.refl _ _) R (by unfold RepL; rfl)⟩
theorem sa_cons (ha : SE Γ X W e ma) (hr : SA Γ X W es ms) (hs : starEach (e :: es) X.env = (false, eval e X.env) :: starEach es X.env := by rfl) : SA Γ X W (e :: es) (maC ma ms) := by
  obtain ⟨ta, pa, ea⟩ := ha.ex
  obtain ⟨tr, pr, er⟩ := hr.ex
  refine ⟨_, pa_cons pa pr hs, fun S H h σ env Q R G p => exE_bind (t := ta) ea R G p fun x h1 S1 H1 u e1 R1 G1 r1 p1 => exA_bind (t := tr) er R1 G1 p1 fun xs h2 S2 H2 us e2 R2 G2 r2 p2 => p2 S2 H2 _ (Ext.refl _ _) R2 ?_⟩
  unfold RepL
  exact ⟨u, us, rfl, r1.ext e2, r2⟩
/-- a built-in called -/
theorem se_callB {x id : String} {p : Pos} {r : List V → Hp → VK → Prop} {f : MF} {es : List Expr} (hc : CallR X (.builtin id) r) (hl : LiftF Γ X.K r f) (hg : Gl X (Str.ofString x)) (hm : X.mg (Str.ofString x) = none) (hv : bootBuiltins (Str.ofString x) = some (.builtin id)) (ha : SA Γ X W (e :: es) ms)
    (hn : (Str.ofString x) ≠ "__name__" := by decide) (hdb : ((Str.ofString x) == ("__debug__" : Str)) = false := by decide)
    (he : starEach (e :: es) X.env = (false, eval e X.env) :: starEach es X.env := by rfl) (hpl : (backTo pos (starEach es X.env)).any (·.1) = false := by rfl) : SE Γ X W (.Call (.Name (Str.ofString x) p) (e :: es) [] pos) (mF f ms) := by
  obtain ⟨ta, pa, ea⟩ := ha.ex
  exact ⟨_, pe_callB hc hg hm hv pa hn hdb he hpl, fun S H h σ env Q R G p => exA_bind (t := ta) ea R G p fun xs h1 S1 H1 us e1 R1 G1 r1 p1 => hl S1 H1 h1 xs us Q _ R1 r1 p1⟩
theorem se_callTy {x T : String} {p : Pos} {r : List V → Hp → VK → Prop} {f : MF} {es : List Expr} (hc : CallR X (.type T) r) (hl : LiftF Γ X.K r f) (hg : Gl X (Str.ofString x)) (hm : X.mg (Str.ofString x) = none) (hv : bootBuiltins (Str.ofString x) = some (.type T)) (ha : SA Γ X W (e :: es) ms)
    (hn : (Str.ofString x) ≠ "__name__" := by decide) (hdb : ((Str.ofString x) == ("__debug__" : Str)) = false := by decide)
    (he : starEach (e :: es) X.env = (false, eval e X.env) :: starEach es X.env := by rfl) (hpl : (backTo pos (starEach es X.env)).any (·.1) = false := by rfl) : SE Γ X W (.Call (.Name (Str.ofString x) p) (e :: es) [] pos) (mF f ms) := by
  obtain ⟨ta, pa, ea⟩ := ha.ex
  exact ⟨_, pe_callTy hc hg hm hv pa hn hdb he hpl, fun S H h σ env Q R G p => exA_bind (t := ta) ea R G p fun xs h1 S1 H1 us e1 R1 G1 r1 p1 => hl S1 H1 h1 xs us Q _ R1 r1 p1⟩
/-- a subscript -/
theorem se_ix {r : R2} {f : MV → MV → MH → Out MV} (hr : IxR X r) (hl : Lift2 Γ X.K r f) (ha : SE Γ X W a ma) (hb : SE Γ X W b mb) (hs : PlainIx b := by exact fun _ _ => rfl) : SE Γ X W (.Subscript a b pos) (m2 f ma mb) := by
  obtain ⟨ta, pa, ea⟩ := ha.ex
  obtain ⟨tb, pb, eb⟩ := hb.ex
  exact ⟨_, pe_ix hr pa pb hs, fun S H h σ env Q R G p => exE_bind (t := ta) ea R G p fun x h1 S1 H1 u e1 R1 G1 r1 p1 => exE_bind (t := tb) eb R1 G1 p1 fun y h2 S2 H2 v e2 R2 G2 r2 p2 => hl S2 H2 h2 x y u v Q _ R2 (r1.ext e2) r2 p2⟩
/-! parts of a slice -/
theorem so_none : SO Γ X W none moN := ⟨_, po_none, fun S H h σ env Q R G p => p S H none (Ext.refl _ _) R rfl⟩
theorem so_some (ha : SE Γ X W e ma) : SO Γ X W (some e) (moS ma) := by
  obtain ⟨ta, pa, ea⟩ := ha.ex
  refine ⟨_, po_some pa, fun S H h σ env Q R G p => exE_bind (t := ta) ea R G p fun x h1 S1 H1 u e1 R1 G1 r1 p1 => ?_⟩
  cases x with
  | int i => exact ⟨i, rep_int r1, p1 S1 H1 _ (Ext.refl _ _) R1 rfl⟩
  | non => exact False.elim p1
  | bl _ => exact False.elim p1
  | str _ => exact False.elim p1
  | tup _ => exact False.elim p1
  | fl _ => exact False.elim p1
  | sl _ => exact False.elim p1
  | ob _ _ _ => exact False.elim p1
  | ref _ => exact False.elim p1
  | exo _ _ _ _ => exact False.elim p1
def Lift3 (Γ : Gm) (K : PySem.W.Frag) (r : V → Option Int → Option Int → Hp → VK → Prop) (f : MV → Option Int → Option Int → MH → Out MV) : Prop :=
  ∀ S H h x u lo hi Q E, Rel Γ K S h H → Rep Γ K S x u → Post Γ K (Rep Γ K) S H Q E (f x lo hi h) → r u lo hi H Q
def mSl (f : MV → Option Int → Option Int → MH → Out MV) (a : ME) (l u : MI) : ME := fun env h => (a env h).bind fun x h => (l env h).bind fun lo h => (u env h).bind fun hi h => f x lo hi h
theorem se_slice {r : V → Option Int → Option Int → Hp → VK → Prop} {f : MV → Option Int → Option Int → MH → Out MV} {lo hi : Option Expr} {p2 : Pos} {ml mh : MI} (hr : SlR X r) (hl : Lift3 Γ X.K r f) (ha : SE Γ X W e ma) (h1 : SO Γ X W lo ml) (h2 : SO Γ X W hi mh) :
    SE Γ X W (.Subscript e (.Slice lo hi none p2) pos) (mSl f ma ml mh) := by
  obtain ⟨ta, pa, ea⟩ := ha.ex
  obtain ⟨tl, pl, el⟩ := h1.ex
  obtain ⟨th, ph, eh⟩ := h2.ex
  exact ⟨_, pe_slice hr pa pl ph, fun S H h σ env Q R G p => exE_bind (t := ta) ea R G p fun x h1 S1 H1 u e1 R1 G1 r1 p1 => exO_bind (t := tl) el R1 G1 p1 fun l h2 S2 H2 e2 R2 G2 p2 => exO_bind (t := th) eh R2 G2 p2 fun k h3 S3 H3 e3 R3 G3 p3 => hl S3 H3 h3 x u l k Q _ R3 ((r1.ext e2).ext e3) p3⟩
end
end Mn
/-! ## MnC -/
set_option Elab.async false
set_option linter.all false
set_option maxRecDepth 100000
/-! Mn, part C: operations by values. -/
namespace Mn
open PySem PySem.Spec PyProof.Rows L2

/-! ### reading sequences -/
def wlst (h : MH) : MV → Option (List MV)
  | .fl xs => some xs
  | .ref n => match h[n]? with
    | some (.lst xs) => some xs
    | _ => none
  | _ => none
def lstAt (h : MH) : MV → Option (List MV)
  | .fl xs => some xs
  | .sl xs => some xs
  | .ref n => match h[n]? with
    | some (.lst xs) => some xs
    | _ => none
  | _ => none
def tupAt : MV → Option (List MV)
  | .tup xs => some xs
  | _ => none
def seqAt (h : MH) (v : MV) : Option (List MV) := match v with
  | .tup xs => some xs
  | v => lstAt h v

section
variable {Γ : Gm} {K : PySem.W.Frag} {S : Sh} {H : Hp} {h : MH} {E : XK} {Q : VK}
theorem repL_len : ∀ {xs : List MV} {us : List V}, RepL Γ K S xs us → xs.length = us.length
  | [], us, r => by unfold RepL at r; rw [r]; rfl
  | x :: xs, us, r => by
    unfold RepL at r
    obtain ⟨u, r', rfl, _, q⟩ := r
    rw [List.length_cons, List.length_cons, repL_len q]
theorem repL_get : ∀ {xs : List MV} {us : List V} {i : Nat} {x : MV}, RepL Γ K S xs us → xs[i]? = some x → ∃ u, us[i]? = some u ∧ Rep Γ K S x u
  | [], _, _, _, _, e => by simp at e
  | x :: xs, us, 0, y, r, e => by
    unfold RepL at r
    obtain ⟨u, r', rfl, q, _⟩ := r
    simp at e; subst e
    exact ⟨u, rfl, q⟩
  | x :: xs, us, i + 1, y, r, e => by
    unfold RepL at r
    obtain ⟨u, r', rfl, _, q⟩ := r
    obtain ⟨v, h1, h2⟩ := repL_get (i := i) q (by simpa using e)
    exact ⟨v, by simpa using h1, h2⟩
theorem repL_nil : RepL Γ K S [] [] := by unfold RepL; rfl
theorem repL_cons {x : MV} {u : V} {xs : List MV} {us : List V} (a : Rep Γ K S x u) (b : RepL Γ K S xs us) : RepL Γ K S (x :: xs) (u :: us) := by
  unfold RepL; exact ⟨u, us, rfl, a, b⟩
theorem repL_app : ∀ {xs ys : List MV} {us vs : List V}, RepL Γ K S xs us → RepL Γ K S ys vs → RepL Γ K S (xs ++ ys) (us ++ vs)
  | [], ys, us, vs, a, b => by unfold RepL at a; subst a; exact b
  | x :: xs, ys, us, vs, a, b => by
    unfold RepL at a
    obtain ⟨u, r', rfl, q, a'⟩ := a
    exact repL_cons q (repL_app a' b)
theorem repL_set {x : MV} {u : V} (q : Rep Γ K S x u) : ∀ {xs : List MV} {us : List V} (i : Nat), RepL Γ K S xs us → RepL Γ K S (xs.set i x) (us.set i u)
  | [], us, i, a => by unfold RepL at a; subst a; exact repL_nil
  | y :: xs, us, 0, a => by
    unfold RepL at a
    obtain ⟨u', r', rfl, _, a'⟩ := a
    exact repL_cons q a'
  | y :: xs, us, i + 1, a => by
    unfold RepL at a
    obtain ⟨u', r', rfl, q', a'⟩ := a
    exact repL_cons q' (repL_set q i a')
theorem repL_take : ∀ {xs : List MV} {us : List V} (n : Nat), RepL Γ K S xs us → RepL Γ K S (xs.take n) (us.take n)
  | _, _, 0, _ => repL_nil
  | [], us, n + 1, a => by unfold RepL at a; subst a; exact repL_nil
  | y :: xs, us, n + 1, a => by
    unfold RepL at a
    obtain ⟨u', r', rfl, q', a'⟩ := a
    exact repL_cons q' (repL_take n a')
theorem repL_drop : ∀ {xs : List MV} {us : List V} (n : Nat), RepL Γ K S xs us → RepL Γ K S (xs.drop n) (us.drop n)
  | _, _, 0, a => a
  | [], us, n + 1, a => by unfold RepL at a; subst a; exact repL_nil
  | y :: xs, us, n + 1, a => by
    unfold RepL at a
    obtain ⟨u', r', rfl, q', a'⟩ := a
    exact repL_drop n a'
theorem repL_rev : ∀ {xs : List MV} {us : List V}, RepL Γ K S xs us → RepL Γ K S xs.reverse us.reverse
  | [], us, a => by unfold RepL at a; subst a; exact repL_nil
  | y :: xs, us, a => by
    unfold RepL at a
    obtain ⟨u', r', rfl, q', a'⟩ := a
    rw [List.reverse_cons, List.reverse_cons]
    exact repL_app (repL_rev a') (repL_cons q' repL_nil)
theorem repL_dropLast {xs : List MV} {us : List V} (a : RepL Γ K S xs us) : RepL Γ K S xs.dropLast us.dropLast := by
  rw [List.dropLast_eq_take, List.dropLast_eq_take, repL_len a]
  exact repL_take _ a
theorem repL_rep {xs : List MV} {us : List V} (a : RepL Γ K S xs us) : ∀ n : Nat, RepL Γ K S (List.replicate n xs).flatten (List.replicate n us).flatten
  | 0 => repL_nil
  | n + 1 => by
    rw [List.replicate_succ, List.replicate_succ, List.flatten_cons, List.flatten_cons]
    exact repL_app a (repL_rep a n)
theorem repL_ints : ∀ {ns : List Int} {us : List V}, RepL Γ K S (ns.map MV.int) us → us = ns.map V.int
  | [], us, a => by unfold RepL at a; exact a
  | n :: ns, us, a => by
    have a' : RepL Γ K S (.int n :: ns.map MV.int) us := a
    unfold RepL at a'
    obtain ⟨u', r', rfl, q', a''⟩ := a'
    rw [rep_int q', repL_ints a'']; rfl
theorem ints_repL : ∀ (ns : List Int), RepL Γ K S (ns.map MV.int) (ns.map V.int)
  | [] => repL_nil
  | n :: ns => repL_cons is_int (ints_repL ns)

theorem wlst_ok {d : MV} {v : V} {xs : List MV} (R : Rel Γ K S h H) (e : wlst h d = some xs) (r : Rep Γ K S d v) : ∃ a us, v = .ref a ∧ H a = some (.lst us) ∧ RepL Γ K S xs us := by
  cases d with
  | fl ys =>
    unfold Rep at r
    obtain ⟨a, us, e1, e2, e3⟩ := r
    cases (show some ys = some xs from e)
    exact ⟨a, us, e1, R.sub _ _ e2, e3⟩
  | ref n =>
    unfold Rep at r
    obtain ⟨a, e1, e2⟩ := r
    unfold wlst at e
    simp only at e
    split at e
    · rename_i ys hy
      cases e
      obtain ⟨_, us, q1, q2⟩ := R.cell n _ a hy e1
      exact ⟨a, us, e2, q1, q2⟩
    · cases e
  | _ => cases e
theorem lstAt_ok {d : MV} {v : V} {xs : List MV} (R : Rel Γ K S h H) (e : lstAt h d = some xs) (r : Rep Γ K S d v) : ∃ a us, v = .ref a ∧ SqL K H a us ∧ RepL Γ K S xs us := by
  cases d with
  | sl ys =>
    unfold Rep at r
    obtain ⟨a, us, e1, e2, e3⟩ := r
    cases (show some ys = some xs from e)
    refine ⟨a, us, e1, ?_, e3⟩
    rcases e2 with (q | ⟨o, q⟩) | q
    · exact .inl (.inl (R.sub _ _ q))
    · exact .inl (.inr ⟨o, R.sub _ _ q⟩)
    · exact .inr q
  | fl ys =>
    obtain ⟨a, us, q1, q2, q3⟩ := wlst_ok (h := h) (d := .fl ys) (xs := xs) R e r
    exact ⟨a, us, q1, SqL.of q2, q3⟩
  | ref n =>
    obtain ⟨a, us, q1, q2, q3⟩ := wlst_ok (h := h) (d := .ref n) (xs := xs) R e r
    exact ⟨a, us, q1, SqL.of q2, q3⟩
  | _ => cases e
theorem sqT_sub {a : Addr} {us : List V} (R : Rel Γ K S h H) (q : SqT K S.Hs a us) : SqT K H a us := by
  rcases q with (q | ⟨o, q⟩) | q
  · exact .inl (.inl (R.sub _ _ q))
  · exact .inl (.inr ⟨o, R.sub _ _ q⟩)
  · exact .inr q
theorem tup_ok {v : V} {xs : List MV} (R : Rel Γ K S h H) (r : Rep Γ K S (.tup xs) v) : ∃ a us, v = .ref a ∧ SqT K H a us ∧ RepL Γ K S xs us := by
  unfold Rep at r
  obtain ⟨a, us, e1, e2, e3⟩ := r
  exact ⟨a, us, e1, sqT_sub R e2, e3⟩
theorem seqAt_ok {d : MV} {v : V} {xs : List MV} (R : Rel Γ K S h H) (e : seqAt h d = some xs) (r : Rep Γ K S d v) : ∃ a us, v = .ref a ∧ (SqL K H a us ∨ SqT K H a us) ∧ RepL Γ K S xs us := by
  unfold seqAt at e
  split at e
  · cases e
    obtain ⟨a, us, q1, q2, q3⟩ := tup_ok R r
    exact ⟨a, us, q1, .inr q2, q3⟩
  · obtain ⟨a, us, q1, q2, q3⟩ := lstAt_ok R e r
    exact ⟨a, us, q1, .inl q2, q3⟩

/-! ### new objects -/
/-- a new list: a cell (b), or frozen -/
def retL (b : Bool) (xs : List MV) (h : MH) : Out MV := if b = true then .ok (.ref h.length) (h ++ [.lst xs]) else .ok (.fl xs) h
theorem newL {b : Bool} {xs : List MV} {us : List V} (R : Rel Γ K S h H) (r : RepL Γ K S xs us) (p : Post Γ K (Rep Γ K) S H Q E (retL b xs h)) : ∀ q, H q = none → Q (.ref q) (upd H q (.lst us)) := by
  intro q hq
  cases b with
  | true =>
    obtain ⟨R1, e1⟩ := R.alloc (o := .lst us) (c := .lst xs) hq (fun S' s1 s2 => ⟨(by
      rw [s1]
      cases z : S.Hs q with
      | none => rfl
      | some o => (rw [R.sub _ _ z] at hq; cases hq)), us, upd_same, repL_mono (fun a o z => by rw [s1]; exact z) (fun n a z => by rw [s2, List.getElem?_append_left (List.getElem?_eq_some_iff.mp z).1]; exact z) _ _ r⟩)
    refine p _ _ _ e1 R1 ?_
    unfold Rep
    exact ⟨q, by show (S.ι ++ [q])[h.length]? = some q; rw [← R.len]; simp, rfl⟩
  | false =>
    obtain ⟨R1, e1⟩ := R.froz (o := .lst us) hq
    refine p _ _ _ e1 R1 ?_
    unfold Rep
    exact ⟨q, us, rfl, upd_same, r.ext e1⟩
theorem newT {xs : List MV} {us : List V} (R : Rel Γ K S h H) (r : RepL Γ K S xs us) (p : Post Γ K (Rep Γ K) S H Q E (.ok (.tup xs) h)) : ∀ q, H q = none → Q (.ref q) (upd H q (.tup us)) := by
  intro q hq
  obtain ⟨R1, e1⟩ := R.froz (o := .tup us) hq
  refine p _ _ _ e1 R1 ?_
  unfold Rep
  exact ⟨q, us, rfl, SqT.of upd_same, r.ext e1⟩
end

/-! ### binary operators -/
theorem OpR.or {X : Cx} {f : Value → Value → Sem Value} {r r' : R2} (a : OpR X f r) (b : OpR X f r') : OpR X f (fun x y H Q => r x y H Q ∨ r' x y H Q) := by
  intro pins s σ H x y v u Q I rx ry h
  rcases h with h | h
  · exact a pins s σ H x y v u Q I rx ry h
  · exact b pins s σ H x y v u Q I rx ry h
def rAddAll (K : PySem.W.Frag) : R2 := fun x y H Q => (∃ i j, x = .int i ∧ y = .int j ∧ Q (.int (i + j)) H) ∨ (∃ i j, x = .str i ∧ y = .str j ∧ i.length + j.length ≤ sizeLine ∧ Q (.str (i ++ j)) H) ∨ rCatA K x y H Q ∨ rCat x y H Q
theorem op_addAll {X : Cx} : OpR X (binaryOp .Add) (rAddAll X.K) := OpR.or op_add (OpR.or op_add_str (OpR.or op_catA op_cat))
def fAdd (b : Bool) : MV → MV → MH → Out MV
  | .int i, .int j, h => .ok (.int (i + j)) h
  | .str x, .str y, h => if x.length + y.length ≤ sizeLine then .ok (.str (x ++ y)) h else .stuck
  | .tup xs, .tup ys, h => if xs.length + ys.length ≤ sizeLine then .ok (.tup (xs ++ ys)) h else .stuck
  | x, y, h => match wlst h x, wlst h y with
    | some xs, some ys => if xs.length + ys.length ≤ sizeLine then retL b (xs ++ ys) h else .stuck
    | _, _ => .stuck
section
variable {Γ : Gm} {K : PySem.W.Frag}
theorem lift_add {b : Bool} : Lift2 Γ K (rAddAll K) (fAdd b) := by
  intro S H h x y u v Q E R rx ry p
  unfold fAdd at p
  split at p
  · exact .inl ⟨_, _, rep_int rx, rep_int ry, p.val R is_int⟩
  · split at p
    · rename_i hz
      exact .inr (.inl ⟨_, _, rep_str rx, rep_str ry, hz, p.val R is_str⟩)
    · exact p.elim
  · split at p
    · rename_i _ _ xs ys hz
      have rx' := rx
      have ry' := ry
      obtain ⟨a, us, rfl, q2, q3⟩ := tup_ok R rx
      obtain ⟨c, vs, rfl, w2, w3⟩ := tup_ok R ry
      have l1 := repL_len q3
      have l2 := repL_len w3
      refine .inr (.inr (.inl ⟨a, c, us, vs, rfl, rfl, q2, w2, by omega, fun e => ?_, fun e1 e2 => ?_, fun e1 e2 => newT R (repL_app q3 w3) p⟩))
      · subst e
        have : xs = [] := List.length_eq_zero_iff.mp l1
        subst this
        exact p.val R ry'
      · subst e2
        have : ys = [] := List.length_eq_zero_iff.mp l2
        subst this
        rw [List.append_nil] at p
        exact p.val R rx'
    · exact p.elim
  · split at p
    · rename_i xs ys e1 e2
      split at p
      · rename_i hz
        obtain ⟨a, us, rfl, q2, q3⟩ := wlst_ok R e1 rx
        obtain ⟨c, vs, rfl, w2, w3⟩ := wlst_ok R e2 ry
        have l1 := repL_len q3
        have l2 := repL_len w3
        exact .inr (.inr (.inr ⟨a, c, us, vs, rfl, rfl, q2, w2, by omega, newL R (repL_app q3 w3) p⟩))
      · exact p.elim
    · exact p.elim
/-- two ints, a condition, an int -/
def fII (c : Int → Int → Bool) (g : Int → Int → MV) : MV → MV → MH → Out MV
  | .int i, .int j, h => if c i j = true then .ok (g i j) h else .stuck
  | _, _, _ => .stuck
theorem lift_ii {C : Int → Int → Prop} {c : Int → Int → Bool} {g : Int → Int → MV} {g' : Int → Int → V} (hc : ∀ i j, c i j = true → C i j) (hg : ∀ i j S, Rep Γ K S (g i j) (g' i j)) : Lift2 Γ K (rI C g') (fII c g) := by
  intro S H h x y u v Q E R rx ry p
  unfold fII at p
  split at p
  · split at p
    · rename_i hz
      exact ⟨_, _, rep_int rx, rep_int ry, hc _ _ hz, p.val R (hg _ _ _)⟩
    · exact p.elim
  · exact p.elim
theorem lift_ii0 {g : Int → Int → MV} {g' : Int → Int → V} (hg : ∀ i j S, Rep Γ K S (g i j) (g' i j)) : Lift2 Γ K (rI0 g') (fII (fun _ _ => true) g) := by
  intro S H h x y u v Q E R rx ry p
  unfold fII at p
  split at p
  · rw [if_pos rfl] at p
    exact ⟨_, _, rep_int rx, rep_int ry, p.val R (hg _ _ _)⟩
  · exact p.elim
abbrev fSub := fII (fun _ _ => true) (fun i j => .int (i - j))
theorem lift_sub : Lift2 Γ K (rI0 fun i j => .int (i - j)) fSub := lift_ii0 fun _ _ _ => is_int
def cMul (i j : Int) : Bool := (decide (-(2 ^ 64) < i) && decide (i < 2 ^ 64)) || (decide (-(2 ^ 64) < j) && decide (j < 2 ^ 64))
abbrev fDiv := fII (fun _ j => decide (0 < j ∧ j < 1073741824)) (fun i j => .int (i / j))
theorem lift_div : Lift2 Γ K (rI CDiv fun i j => .int (i / j)) fDiv := lift_ii (fun i j h => show 0 < j ∧ j < 1073741824 from of_decide_eq_true h) fun _ _ _ => is_int
abbrev fMod := fII (fun _ j => decide (0 < j)) (fun i j => .int (i % j))
theorem lift_mod : Lift2 Γ K (rI (fun _ j => 0 < j) fun i j => .int (i % j)) fMod := lift_ii (fun _ _ h => of_decide_eq_true h) fun _ _ _ => is_int
abbrev fPow := fII (fun i j => decide (0 ≤ j ∧ j ≤ 1000000 ∧ i.natAbs < 2 ^ 64)) (fun i j => .int (i ^ j.toNat))
theorem lift_pow : Lift2 Γ K (rI CPow fun i j => .int (i ^ j.toNat)) fPow := lift_ii (fun i j h => show 0 ≤ j ∧ j ≤ 1000000 ∧ i.natAbs < 2 ^ 64 from of_decide_eq_true h) fun _ _ _ => is_int
abbrev fShl := fII (fun i j => decide (0 ≤ j ∧ j ≤ 1000000 ∧ i.natAbs < 2 ^ 64)) (fun i j => .int (i * 2 ^ j.toNat))
theorem lift_shl : Lift2 Γ K (rI CPow fun i j => .int (i * 2 ^ j.toNat)) fShl := lift_ii (fun i j h => show 0 ≤ j ∧ j ≤ 1000000 ∧ i.natAbs < 2 ^ 64 from of_decide_eq_true h) fun _ _ _ => is_int
abbrev fShr := fII (fun _ j => decide (0 ≤ j)) (fun i j => .int (i / 2 ^ j.toNat))
theorem lift_shr : Lift2 Γ K (rI (fun _ j => 0 ≤ j) fun i j => .int (i / 2 ^ j.toNat)) fShr := lift_ii (fun _ _ h => of_decide_eq_true h) fun _ _ _ => is_int
abbrev fBand := fII (fun _ _ => true) (fun i j => .int (Builtin.bitAnd i j))
theorem lift_band : Lift2 Γ K (rI0 fun i j => .int (Builtin.bitAnd i j)) fBand := lift_ii0 fun _ _ _ => is_int
abbrev fBor := fII (fun _ _ => true) (fun i j => .int (Builtin.bitOr i j))
theorem lift_bor : Lift2 Γ K (rI0 fun i j => .int (Builtin.bitOr i j)) fBor := lift_ii0 fun _ _ _ => is_int
abbrev fLt := fII (fun _ _ => true) (fun i j => .bl (decide (i < j)))
theorem lift_lt : Lift2 Γ K (rI0 fun i j => .bl (decide (i < j))) fLt := lift_ii0 fun _ _ _ => is_bl
abbrev fLe := fII (fun _ _ => true) (fun i j => .bl (decide (i ≤ j)))
theorem lift_le : Lift2 Γ K (rI0 fun i j => .bl (decide (i ≤ j))) fLe := lift_ii0 fun _ _ _ => is_bl
abbrev fGt := fII (fun _ _ => true) (fun i j => .bl (decide (j < i)))
theorem lift_gt : Lift2 Γ K (rI0 fun i j => .bl (decide (j < i))) fGt := lift_ii0 fun _ _ _ => is_bl
abbrev fGe := fII (fun _ _ => true) (fun i j => .bl (decide (j ≤ i)))
theorem lift_ge : Lift2 Γ K (rI0 fun i j => .bl (decide (j ≤ i))) fGe := lift_ii0 fun _ _ _ => is_bl
/-- unary -/
def fUI (g : Int → MV) : MV → MH → Out MV
  | .int i, h => .ok (g i) h
  | _, _ => .stuck
theorem lift_ui {g : Int → MV} {g' : Int → V} (hg : ∀ i S, Rep Γ K S (g i) (g' i)) : Lift1 Γ K (rU g') (fUI g) := by
  intro S H h x u Q E R rx p
  unfold fUI at p
  split at p
  · exact ⟨_, rep_int rx, p.val R (hg _ _)⟩
  · exact p.elim
abbrev fNeg := fUI (fun i => .int (-i))
theorem lift_neg : Lift1 Γ K (rU fun i => .int (-i)) fNeg := lift_ui fun _ _ => is_int
abbrev fInv := fUI (fun i => .int (Builtin.bitNot i))
theorem lift_inv : Lift1 Γ K (rU fun i => .int (Builtin.bitNot i)) fInv := lift_ui fun _ _ => is_int

/-! multiplication -/
def rMulAll (K : PySem.W.Frag) : R2 := fun x y H Q => rI CMul (fun i j => .int (i * j)) x y H Q ∨ rRepT K x y H Q ∨ rRep x y H Q
theorem op_mulAll {X : Cx} : OpR X (binaryOp .Mult) (rMulAll X.K) := OpR.or op_mul (OpR.or op_repT op_rep)
def fMul (b : Bool) : MV → MV → MH → Out MV
  | .int i, .int j, h => if cMul i j = true then .ok (.int (i * j)) h else .stuck
  | .tup xs, .int k, h => if xs ≠ [] ∧ 2 ≤ k ∧ k ≤ 1000 ∧ xs.length ≤ 1000 then .ok (.tup (List.replicate k.toNat xs).flatten) h else .stuck
  | x, .int k, h => match wlst h x with
    | some xs => if -(2 ^ 63) ≤ k ∧ k < 2 ^ 63 ∧ xs.length * k.toNat ≤ sizeLine then retL b (List.replicate k.toNat xs).flatten h else .stuck
    | _ => .stuck
  | _, _, _ => .stuck
theorem lift_mul {b : Bool} : Lift2 Γ K (rMulAll K) (fMul b) := by
  intro S H h x y u v Q E R rx ry p
  unfold fMul at p
  split at p
  · split at p
    · rename_i hz
      refine .inl ⟨_, _, rep_int rx, rep_int ry, ?_, p.val R is_int⟩
      unfold cMul at hz
      simp only [Bool.or_eq_true, Bool.and_eq_true, decide_eq_true_eq] at hz
      exact hz
    · exact p.elim
  · split at p
    · rename_i _ _ xs k hz
      obtain ⟨a, us, rfl, q2, q3⟩ := tup_ok R rx
      have l1 := repL_len q3
      refine .inr (.inl ⟨a, k, us, rfl, rep_int ry, q2, fun e => hz.1 ?_, hz.2.1, hz.2.2.1, by rw [← l1]; exact hz.2.2.2, newT R (repL_rep q3 _) p⟩)
      subst e
      exact List.length_eq_zero_iff.mp l1
    · exact p.elim
  · split at p
    · rename_i xs e1
      split at p
      · rename_i hz
        obtain ⟨a, us, rfl, q2, q3⟩ := wlst_ok R e1 rx
        have l1 := repL_len q3
        exact .inr (.inr ⟨a, _, us, rfl, rep_int ry, q2, hz.1, hz.2.1, by rw [← l1]; exact hz.2.2, newL R (repL_rep q3 _) p⟩)
      · exact p.elim
    · exact p.elim
  · exact p.elim

/-! ### data, == -/
mutual
def toD (r : Nat → Option PyData) : MV → Option PyData
  | .non => some .none
  | .bl b => some (.bool b)
  | .int i => some (.int i)
  | .str x => some (.str x)
  | .tup xs => (toDL r xs).map .tuple
  | .fl xs => (toDL r xs).map .list
  | .sl xs => (toDL r xs).map .list
  | .ob _ _ _ => none
  | .ref n => r n
  | .exo _ _ _ _ => none
def toDL (r : Nat → Option PyData) : List MV → Option (List PyData)
  | [] => some []
  | x :: xs => match toD r x, toDL r xs with
    | some d, some ds => some (d :: ds)
    | _, _ => none
end
def rD (h : MH) : Nat → Nat → Option PyData
  | 0, _ => none
  | k + 1, n => match h[n]? with
    | some (.lst xs) => (toDL (rD h k) xs).map .list
    | _ => none
def dataOf (h : MH) (d : MV) : Option PyData := toD (rD h 4) d
def datasOf (h : MH) (d : List MV) : Option (List PyData) := toDL (rD h 4) d
def fEq (neg : Bool) (x y : MV) (h : MH) : Out MV := match dataOf h x, dataOf h y with
  | some d, some e => if SeqAt.shaped d = true ∧ SeqAt.shaped e = true then .ok (.bl (if neg = true then !PyData.eqv d e else PyData.eqv d e)) h else .stuck
  | _, _ => .stuck
mutual
theorem dp_of {S : Sh} {H : Hp} {h : MH} {r : Nat → Option PyData} (R : Rel Γ K S h H) (hr : ∀ n d a, r n = some d → S.ι[n]? = some a → Dp K H (.ref a) d) : ∀ (x : MV) (d : PyData) (v : V), toD r x = some d → Rep Γ K S x v → Dp K H v d
  | .non, d, v, e, q => by
    unfold toD at e; cases e; rw [rep_non q]; exact .non
  | .bl b, d, v, e, q => by
    unfold toD at e; cases e; rw [rep_bl q]; exact .bl b
  | .int i, d, v, e, q => by
    unfold toD at e; cases e; rw [rep_int q]; exact .int i
  | .str x, d, v, e, q => by
    unfold toD at e; cases e; rw [rep_str q]; exact .str x
  | .tup xs, d, v, e, q => by
    unfold toD at e
    cases z : toDL r xs with
    | none => rw [z] at e; cases e
    | some ds =>
      rw [z] at e; cases e
      obtain ⟨a, us, rfl, q2, q3⟩ := tup_ok R q
      exact .tup q2 (dpL_of R hr xs ds us z q3)
  | .fl xs, d, v, e, q => by
    unfold toD at e
    cases z : toDL r xs with
    | none => rw [z] at e; cases e
    | some ds =>
      rw [z] at e; cases e
      obtain ⟨a, us, rfl, q2, q3⟩ := lstAt_ok (xs := xs) R rfl q
      exact .lst q2 (dpL_of R hr xs ds us z q3)
  | .sl xs, d, v, e, q => by
    unfold toD at e
    cases z : toDL r xs with
    | none => rw [z] at e; cases e
    | some ds =>
      rw [z] at e; cases e
      obtain ⟨a, us, rfl, q2, q3⟩ := lstAt_ok (xs := xs) R rfl q
      exact .lst q2 (dpL_of R hr xs ds us z q3)
  | .ob C ks xs, d, v, e, q => by unfold toD at e; cases e
  | .exo _ _ _ _, d, v, e, q => by unfold toD at e; cases e
  | .ref n, d, v, e, q => by
    unfold toD at e
    unfold Rep at q
    obtain ⟨a, e1, rfl⟩ := q
    exact hr n d a e e1
theorem dpL_of {S : Sh} {H : Hp} {h : MH} {r : Nat → Option PyData} (R : Rel Γ K S h H) (hr : ∀ n d a, r n = some d → S.ι[n]? = some a → Dp K H (.ref a) d) : ∀ (xs : List MV) (ds : List PyData) (vs : List V), toDL r xs = some ds → RepL Γ K S xs vs → DpAll K H vs ds
  | [], ds, vs, e, q => by
    unfold toDL at e; cases e
    unfold RepL at q; subst q
    exact .nil
  | x :: xs, ds, vs, e, q => by
    unfold RepL at q
    obtain ⟨u, r', rfl, q1, q2⟩ := q
    unfold toDL at e
    cases z1 : toD r x with
    | none => rw [z1] at e; cases e
    | some d =>
      cases z2 : toDL r xs with
      | none => rw [z1, z2] at e; cases e
      | some ds' =>
        rw [z1, z2] at e; cases e
        exact .cons (dp_of R hr x d u z1 q1) (dpL_of R hr xs ds' r' z2 q2)
end
theorem dp_ref {S : Sh} {H : Hp} {h : MH} (R : Rel Γ K S h H) : ∀ (k : Nat) (n : Nat) (d : PyData) (a : Addr), rD h k n = some d → S.ι[n]? = some a → Dp K H (.ref a) d
  | 0, _, _, _, e, _ => by cases e
  | k + 1, n, d, a, e, i => by
    unfold rD at e
    split at e
    · rename_i xs hx
      cases z : toDL (rD h k) xs with
      | none => rw [z] at e; cases e
      | some ds =>
        rw [z] at e; cases e
        obtain ⟨_, us, q1, q2⟩ := R.cell n _ a hx i
        exact .lst (SqL.of q1) (dpL_of R (fun n d a e i => dp_ref R k n d a e i) xs ds us z q2)
    · cases e
theorem dataOf_ok {S : Sh} {H : Hp} {h : MH} {x : MV} {d : PyData} {v : V} (R : Rel Γ K S h H) (e : dataOf h x = some d) (q : Rep Γ K S x v) : Dp K H v d := dp_of R (fun n d a e i => dp_ref R 4 n d a e i) x d v e q
theorem datasOf_ok {S : Sh} {H : Hp} {h : MH} {x : List MV} {d : List PyData} {v : List V} (R : Rel Γ K S h H) (e : datasOf h x = some d) (q : RepL Γ K S x v) : DpAll K H v d := dpL_of R (fun n d a e i => dp_ref R 4 n d a e i) x d v e q
theorem lift_eq : Lift2 Γ K (rEqD K) (fEq false) := by
  intro S H h x y u v Q E R rx ry p
  unfold fEq at p
  split at p
  · rename_i d e h1 h2
    split at p
    · rename_i hz
      exact ⟨d, e, dataOf_ok R h1 rx, dataOf_ok R h2 ry, hz.1, hz.2, p.val R is_bl⟩
    · exact p.elim
  · exact p.elim
theorem lift_ne : Lift2 Γ K (rNeD K) (fEq true) := by
  intro S H h x y u v Q E R rx ry p
  unfold fEq at p
  split at p
  · rename_i d e h1 h2
    split at p
    · rename_i hz
      exact ⟨d, e, dataOf_ok R h1 rx, dataOf_ok R h2 ry, hz.1, hz.2, p.val R is_bl⟩
    · exact p.elim
  · exact p.elim
/-! is None -/
def fIsN (neg : Bool) (x y : MV) (h : MH) : Out MV := match x, y with
  | .non, .non => .ok (.bl (!neg)) h
  | _, .non => .ok (.bl neg) h
  | _, _ => .stuck
theorem rep_notnon {S : Sh} {x : MV} {v : V} (r : Rep Γ K S x v) (hx : x ≠ .non) : v ≠ .non := by
  intro e
  subst e
  cases x with
  | non => exact hx rfl
  | bl _ => cases rep_bl r
  | int _ => cases rep_int r
  | str _ => cases rep_str r
  | tup _ => unfold Rep at r; obtain ⟨_, _, e, _⟩ := r; cases e
  | fl _ => unfold Rep at r; obtain ⟨_, _, e, _⟩ := r; cases e
  | sl _ => unfold Rep at r; obtain ⟨_, _, e, _⟩ := r; cases e
  | ob _ _ _ => unfold Rep at r; obtain ⟨_, _, _, e, _⟩ := r; cases e
  | ref _ => unfold Rep at r; obtain ⟨_, _, e⟩ := r; cases e
  | exo _ _ _ _ => unfold Rep at r; cases r.1
theorem lift_isN : Lift2 Γ K (fun x y H Q => y = .non ∧ Q (.bl (decide (x = .non))) H) (fIsN false) := by
  intro S H h x y u v Q E R rx ry p
  unfold fIsN at p
  split at p
  · refine ⟨rep_non ry, ?_⟩
    rw [rep_non rx]
    exact p.val R is_bl
  · rename_i h1
    refine ⟨rep_non ry, ?_⟩
    rw [decide_eq_false (rep_notnon rx (fun e => h1 e))]
    exact p.val R is_bl
  · exact p.elim
theorem lift_notN : Lift2 Γ K (fun x y H Q => y = .non ∧ Q (.bl (!decide (x = .non))) H) (fIsN true) := by
  intro S H h x y u v Q E R rx ry p
  unfold fIsN at p
  split at p
  · refine ⟨rep_non ry, ?_⟩
    rw [rep_non rx]
    exact p.val R is_bl
  · rename_i h1
    refine ⟨rep_non ry, ?_⟩
    rw [decide_eq_false (rep_notnon rx (fun e => h1 e))]
    exact p.val R is_bl
  · exact p.elim

/-! ### subscripts -/
def fIx : MV → MV → MH → Out MV
  | .str z, .int i, h => if z.length ≤ sizeLine then (match atI z.cps.toList i with
    | some c => .ok (.str ⟨#[c]⟩) h
    | none => .stuck) else .stuck
  | x, .int i, h => match seqAt h x with
    | some xs => match atI xs i with
      | some d => .ok d h
      | none => .stuck
    | none => .stuck
  | _, _, _ => .stuck
theorem atI_rep {S : Sh} {xs : List MV} {us : List V} {i : Int} {d : MV} (r : RepL Γ K S xs us) (e : atI xs i = some d) : ∃ u, atI us i = some u ∧ Rep Γ K S d u := by
  unfold atI at *
  rw [← repL_len r]
  cases z : ixN xs.length i with
  | none => rw [z] at e; cases e
  | some j =>
    rw [z] at e
    exact repL_get r e
theorem lift_ix : Lift2 Γ K (rIx K) fIx := by
  intro S H h x y u v Q E R rx ry p
  unfold fIx at p
  split at p
  · split at p
    · rename_i hz
      split at p
      · rename_i c hc
        exact .inr (.inr ⟨_, _, c, rep_str rx, rep_int ry, hz, hc, p.val R is_str⟩)
      · exact p.elim
    · exact p.elim
  · split at p
    · rename_i xs hx
      split at p
      · rename_i d hd
        obtain ⟨a, us, rfl, q2, q3⟩ := seqAt_ok R hx rx
        obtain ⟨w, w1, w2⟩ := atI_rep q3 hd
        rcases q2 with q2 | q2
        · exact .inl ⟨a, us, _, w, rfl, rep_int ry, q2, w1, p.val R w2⟩
        · exact .inr (.inl ⟨a, us, _, w, rfl, rep_int ry, q2, w1, p.val R w2⟩)
      · exact p.elim
    · exact p.elim
  · exact p.elim

/-! ### slices -/
theorem SlR.or {X : Cx} {r r' : V → Option Int → Option Int → Hp → VK → Prop} (a : SlR X r) (b : SlR X r') : SlR X (fun x lo hi H Q => r x lo hi H Q ∨ r' x lo hi H Q) := by
  intro pins s σ H x v vl vu lo hi sl Q I rx hs pl pu h
  rcases h with h | h
  · exact a pins s σ H x v vl vu lo hi sl Q I rx hs pl pu h
  · exact b pins s σ H x v vl vu lo hi sl Q I rx hs pl pu h
def rSlAll (K : PySem.W.Frag) : V → Option Int → Option Int → Hp → VK → Prop := fun x lo hi H Q => rSlA K x lo hi H Q ∨ rSlL K x lo hi H Q ∨ rSlS x lo hi H Q
theorem sl_all {X : Cx} : SlR X (rSlAll X.K) := SlR.or sl_tupA (SlR.or sl_list sl_str)
def cutM (xs : List MV) (lo hi : Option Int) : List MV := (xs.drop (HT.sIx xs.length 0 lo)).take (HT.sIx xs.length xs.length hi - HT.sIx xs.length 0 lo)
def fSl (b : Bool) : MV → Option Int → Option Int → MH → Out MV
  | .str z, lo, hi, h => if z.length ≤ sizeLine then .ok (.str (cutS z lo hi)) h else .stuck
  | .tup xs, lo, hi, h => .ok (.tup (cutM xs lo hi)) h
  | x, lo, hi, h => match lstAt h x with
    | some xs => retL b (cutM xs lo hi) h
    | none => .stuck
theorem cut_rep {S : Sh} {xs : List MV} {us : List V} {lo hi : Option Int} (r : RepL Γ K S xs us) : RepL Γ K S (cutM xs lo hi) (cutV us lo hi) := by
  unfold cutM cutV
  rw [repL_len r]
  exact repL_take _ (repL_drop _ r)
theorem lift_sl {b : Bool} : Lift3 Γ K (rSlAll K) (fSl b) := by
  intro S H h x u lo hi Q E R rx p
  unfold fSl at p
  split at p
  · split at p
    · rename_i hz
      exact .inr (.inr ⟨_, rep_str rx, hz, p.val R is_str⟩)
    · exact p.elim
  · rename_i xs
    have rx' := rx
    obtain ⟨a, us, rfl, q2, q3⟩ := tup_ok R rx
    refine .inl ⟨a, us, rfl, q2, fun e => ?_, fun _ => newT R (cut_rep q3) p⟩
    have : cutM xs lo hi = xs := by
      unfold cutM
      rw [repL_len q3, e.1, e.2, List.drop_zero, ← repL_len q3, Nat.sub_zero, List.take_length]
    rw [this] at p
    exact p.val R rx'
  · split at p
    · rename_i xs e1
      obtain ⟨a, us, rfl, q2, q3⟩ := lstAt_ok R e1 rx
      exact .inr (.inl ⟨a, us, rfl, q2, newL R (cut_rep q3) p⟩)
    · exact p.elim
end
end Mn
/-! ## MnD -/
set_option Elab.async false
set_option linter.all false
set_option maxRecDepth 100000
/-! Mn, part D: statements, loops, comprehensions, calls of defs. -/
namespace Mn
open PySem PySem.Spec PyProof.Rows L2

inductive Fl where
  | nx | rt (v : MV) | bk | ct
inductive OutS where
  | ok (f : Fl) (env : MEnv) (h : MH) | exc (C : Str) (xs : List MV) (env : MEnv) (h : MH) | stuck
abbrev MS := MEnv → MH → OutS
abbrev MG := MV → MEnv → MH → Out MEnv
inductive IterV where
  | st (xs : List MV) | lv (n : Nat)
abbrev MIt := MEnv → MH → Out IterV

def PostS (Γ : Gm) (K : PySem.W.Frag) (S : Sh) (H : Hp) (D : Ends) (W : WX) : OutS → Prop
  | .ok .nx env h => ∀ S' H' σ', Ext S H S' H' → Rel Γ K S' h H' → REnv Γ K S' env σ' → D.nx σ' H'
  | .ok (.rt d) _ h => ∀ S' H' v, Ext S H S' H' → Rel Γ K S' h H' → Rep Γ K S' d v → D.rt v H'
  | .ok .bk env h => ∀ S' H' σ', Ext S H S' H' → Rel Γ K S' h H' → REnv Γ K S' env σ' → D.bk σ' H'
  | .ok .ct env h => ∀ S' H' σ', Ext S H S' H' → Rel Γ K S' h H' → REnv Γ K S' env σ' → D.ct σ' H'
  | .exc C xs env h => ∀ S' H' σ' dd, Ext S H S' H' → Rel Γ K S' h H' → REnv Γ K S' env σ' → RepX Γ K C xs dd S' H' → W (.ref (Γ.cls C)) dd σ' H'
  | .stuck => False
def PostG (Γ : Gm) (K : PySem.W.Frag) (S : Sh) (H : Hp) (Q : L2.St → Hp → Prop) (W : WX) (σ : L2.St) : Out MEnv → Prop
  | .ok env h => ∀ S' H' σ', Ext S H S' H' → Rel Γ K S' h H' → REnv Γ K S' env σ' → Q σ' H'
  | .exc C xs h => ∀ S' H' dd, Ext S H S' H' → Rel Γ K S' h H' → RepX Γ K C xs dd S' H' → W (.ref (Γ.cls C)) dd σ H'
  | .stuck => False
/-- what an iterator over known values does, wherever they stand -/
def ItSt (Γ : Gm) (K : PySem.W.Frag) (J : It) (S : Sh) (xs : List MV) : Prop := ∀ S' h' H' (i : Nat), (∀ a o, S.Hs a = some o → S'.Hs a = some o) → (∀ (n : Nat) (a : Addr), S.ι[n]? = some a → S'.ι[n]? = some a) → Rel Γ K S' h' H' →
  (xs[i]? = none → J.stop i H') ∧ ∀ x, xs[i]? = some x → J.go i H' ∧ ∀ v H'', J.yld i H' v H'' → H'' = H' ∧ Rep Γ K S' x v
def ItLv (Γ : Gm) (K : PySem.W.Frag) (J : It) (S : Sh) (n : Nat) : Prop := ∀ S' h' H' (i : Nat) xs, (∀ a o, S.Hs a = some o → S'.Hs a = some o) → (∀ (n : Nat) (a : Addr), S.ι[n]? = some a → S'.ι[n]? = some a) → Rel Γ K S' h' H' → h'[n]? = some (.lst xs) →
  (xs[i]? = none → J.stop i H') ∧ ∀ x, xs[i]? = some x → J.go i H' ∧ ∀ v H'', J.yld i H' v H'' → H'' = H' ∧ Rep Γ K S' x v
def PostI (Γ : Gm) (K : PySem.W.Frag) (S : Sh) (H : Hp) (R : It → Hp → Prop) (W : WX) (σ : L2.St) : Out IterV → Prop
  | .ok (.st xs) h => ∀ S' H' J, Ext S H S' H' → Rel Γ K S' h H' → ItSt Γ K J S' xs → R J H'
  | .ok (.lv n) h => ∀ S' H' J, Ext S H S' H' → Rel Γ K S' h H' → ItLv Γ K J S' n → R J H'
  | .exc C xs h => ∀ S' H' dd, Ext S H S' H' → Rel Γ K S' h H' → RepX Γ K C xs dd S' H' → W (.ref (Γ.cls C)) dd σ H'
  | .stuck => False
def ExS (Γ : Gm) (K : PySem.W.Frag) (W : WX) (t : TS) (m : MS) : Prop := ∀ S H h σ env D, Rel Γ K S h H → REnv Γ K S env σ → PostS Γ K S H D W (m env h) → t D σ H
def ExG (Γ : Gm) (K : PySem.W.Frag) (W : WX) (t : TG) (g : MG) : Prop := ∀ S H h σ env d v Q, Rel Γ K S h H → REnv Γ K S env σ → Rep Γ K S d v → PostG Γ K S H Q W σ (g d env h) → t v σ H Q
def ExI (Γ : Gm) (K : PySem.W.Frag) (W : WX) (t : TI) (m : MIt) : Prop := ∀ S H h σ env R, Rel Γ K S h H → REnv Γ K S env σ → PostI Γ K S H R W σ (m env h) → t σ H R
structure SS (Γ : Gm) (X : Cx) (W : WX) (st : Stmt) (m : MS) : Prop where
  ex : ∃ t : TS, PS X st t ∧ ExS Γ X.K W t m
structure SSs (Γ : Gm) (X : Cx) (W : WX) (st : List Stmt) (m : MS) : Prop where
  ex : ∃ t : TS, PSs X st t ∧ ExS Γ X.K W t m
structure SG (Γ : Gm) (X : Cx) (W : WX) (e : Expr) (m : MG) : Prop where
  ex : ∃ t : TG, PG X e t ∧ ExG Γ X.K W t m
structure SI (Γ : Gm) (X : Cx) (W : WX) (tg e : Expr) (m : MIt) : Prop where
  ex : ∃ t : TI, PI X tg e t ∧ ExI Γ X.K W t m

theorem PostS.ext {Γ : Gm} {K : PySem.W.Frag} {S S1 : Sh} {H H1 : Hp} {D : Ends} {W : WX} {o : OutS} (p : PostS Γ K S H D W o) (e : Ext S H S1 H1) : PostS Γ K S1 H1 D W o := by
  cases o with
  | ok f env h =>
    cases f with
    | nx => exact fun S' H' b e' => p S' H' b (e.trans e')
    | rt d => exact fun S' H' b e' => p S' H' b (e.trans e')
    | bk => exact fun S' H' b e' => p S' H' b (e.trans e')
    | ct => exact fun S' H' b e' => p S' H' b (e.trans e')
  | exc C xs env h => exact fun S' H' σ dd e' => p S' H' σ dd (e.trans e')
  | stuck => exact p

/-! ### mirrors -/
@[reducible] def Out.andS {α : Type} (env : MEnv) (x : Out α) (f : α → MH → OutS) : OutS := match x with
  | .ok a h => f a h
  | .exc C xs h => .exc C xs env h
  | .stuck => .stuck
def sNil : MS := fun env h => .ok .nx env h
@[reducible] def OutS.seq (x : OutS) (f : MEnv → MH → OutS) : OutS := match x with
  | .ok .nx env h => f env h
  | o => o
def sSeq (a b : MS) : MS := fun env h => (a env h).seq b
def sBreak : MS := fun env h => .ok .bk env h
def sCont : MS := fun env h => .ok .ct env h
def sIf (t : MT) (a b : MS) : MS := fun env h => (t env h).andS env fun c h => if c = true then a env h else b env h
def sRet (e : ME) : MS := fun env h => (e env h).andS env fun d h => .ok (.rt d) env h
def sRetN : MS := fun env h => .ok (.rt .non) env h
def sExpr (e : ME) : MS := fun env h => (e env h).andS env fun _ h => .ok .nx env h
def sSet (i : Nat) (e : ME) : MS := fun env h => (e env h).andS env fun d h => .ok .nx (env.set i (some d)) h
def sAsg (e : ME) (g : MG) : MS := fun env h => (e env h).andS env fun d h => (g d env h).andS env fun env' h => .ok .nx env' h
def sAug (i : Nat) (f : MV → MV → MH → Out MV) (e : ME) : MS := fun env h => match env[i]? with
  | some (some x) => (e env h).andS env fun y h => (f x y h).andS env fun z h => .ok .nx (env.set i (some z)) h
  | _ => .stuck
def gNm (i : Nat) : MG := fun d env h => .ok (env.set i (some d)) h
def gSb (o i : ME) (f : MV → MV → MV → MH → Out MV) : MG := fun d env h => (o env h).bind fun x h => (i env h).bind fun y h => (f x y d h).bind fun _ h => .ok env h
@[reducible] def Out.nox {α : Type} : Out α → Out α
  | .ok a h => .ok a h
  | _ => .stuck
def gTp : List MG → List MV → MEnv → MH → Out MEnv
  | [], [], env, h => .ok env h
  | g :: gs, d :: ds, env, h => (g d env h).nox.bind fun env' h' => gTp gs ds env' h'
  | _, _, _, _ => .stuck
def gTup (gs : List MG) : MG := fun d env h => match d with
  | .tup xs => gTp gs xs env h
  | _ => .stuck
def sWhile (t : MT) (b : MS) : Nat → MS
  | 0 => fun _ _ => .stuck
  | n + 1 => fun env h => (t env h).andS env fun c h => if c = true then (match b env h with
    | .ok .nx env' h' => sWhile t b n env' h'
    | .ok .ct env' h' => sWhile t b n env' h'
    | .ok .bk env' h' => .ok .nx env' h'
    | o => o) else .ok .nx env h
def sForL (g : MG) (b : MS) : List MV → MS
  | [] => fun env h => .ok .nx env h
  | x :: xs => fun env h => (g x env h).andS env fun env h => match b env h with
    | .ok .nx env' h' => sForL g b xs env' h'
    | .ok .ct env' h' => sForL g b xs env' h'
    | .ok .bk env' h' => .ok .nx env' h'
    | o => o
def sForR (g : MG) (b : MS) (n : Nat) : Nat → Nat → MS
  | 0, _ => fun _ _ => .stuck
  | f + 1, i => fun env h => match h[n]? with
    | some (.lst xs) => match xs[i]? with
      | none => .ok .nx env h
      | some x => (g x env h).andS env fun env h => match b env h with
        | .ok .nx env' h' => sForR g b n f (i + 1) env' h'
        | .ok .ct env' h' => sForR g b n f (i + 1) env' h'
        | .ok .bk env' h' => .ok .nx env' h'
        | o => o
    | _ => .stuck
/-- the turns that a loop over a live list, a while may take -/
def big : Nat := 2 ^ 62
def sFor (it : MIt) (g : MG) (b : MS) : MS := fun env h => (it env h).andS env fun iv h => match iv with
  | .st xs => sForL g b xs env h
  | .lv n => sForR g b n big 0 env h
def charsOf (z : Str) : List MV := z.cps.toList.map fun c => .str ⟨#[c]⟩
def iSeq (e : ME) : MIt := fun env h => (e env h).bind fun d h => match d with
  | .tup xs => .ok (.st xs) h
  | .fl xs => .ok (.st xs) h
  | .sl xs => .ok (.st xs) h
  | .ref n => match h[n]? with
    | some (.lst _) => .ok (.lv n) h
    | _ => .stuck
  | .str z => .ok (.st (charsOf z)) h
  | _ => .stuck
def rangeM (lo : Int) (n : Nat) : List MV := (List.range n).map fun k : Nat => .int (lo + k)
def iRange1 (a : MA) : MIt := fun env h => (a env h).bind fun vs h => match vs with
  | [.int j] => if -(2 ^ 62) ≤ j ∧ j < 2 ^ 62 then .ok (.st (rangeM 0 j.toNat)) h else .stuck
  | _ => .stuck
def iRange2 (a : MA) : MIt := fun env h => (a env h).bind fun vs h => match vs with
  | [.int i, .int j] => if -(2 ^ 62) ≤ i ∧ i < 2 ^ 62 ∧ -(2 ^ 62) ≤ j ∧ j < 2 ^ 62 then .ok (.st (rangeM i (j - i).toNat)) h else .stuck
  | _ => .stuck
def wipeM (env : MEnv) : List Nat → MEnv
  | [] => env
  | v :: vs => (wipeM env vs).set v none
def tYesM : MT := fun _ h => .ok true h
/-- one turn of a comprehension -/
def compT (g : MG) (t : MT) (e : ME) (x : MV) (acc : List MV) (env : MEnv) (h : MH) : Out (List MV) :=
  (g x env h).nox.bind fun env h => (t env h).nox.bind fun c h => if c = true then (e env h).nox.bind fun y h => if acc.length < sizeLine then .ok (acc ++ [y]) h else .stuck else .ok acc h
def compL (g : MG) (t : MT) (e : ME) (env : MEnv) : List MV → List MV → MH → Out (List MV)
  | [], acc, h => .ok acc h
  | x :: xs, acc, h => (compT g t e x acc env h).bind fun acc h => compL g t e env xs acc h
def compR (g : MG) (t : MT) (e : ME) (env : MEnv) (n : Nat) : Nat → Nat → List MV → MH → Out (List MV)
  | 0, _, _, _ => .stuck
  | f + 1, i, acc, h => match h[n]? with
    | some (.lst xs) => match xs[i]? with
      | none => .ok acc h
      | some x => (compT g t e x acc env h).bind fun acc h => compR g t e env n f (i + 1) acc h
    | _ => .stuck
def mComp (b : Bool) (it : MIt) (g : MG) (t : MT) (e : ME) (vs : List Nat) : ME := fun env h => (it env h).bind fun iv h => match iv with
  | .st xs => (compL g t e (wipeM env vs) xs [] h).bind fun ys h => retL b ys h
  | .lv n => (compR g t e (wipeM env vs) n big 0 [] h).bind fun ys h => retL b ys h

section
variable {Γ : Gm} {K : PySem.W.Frag} {X : Cx} {W : WX}
/-- an expression within a statement -/
theorem exES {t : TE} {m : ME} {f : MV → MH → OutS} {S : Sh} {H : Hp} {h : MH} {σ : L2.St} {env : MEnv} {D : Ends} {QQ : VK} (ht : ExE Γ K W t m) (R : Rel Γ K S h H) (G : REnv Γ K S env σ)
    (hp : PostS Γ K S H D W ((m env h).andS env f))
    (k : ∀ a h1 S1 H1 v, Ext S H S1 H1 → Rel Γ K S1 h1 H1 → REnv Γ K S1 env σ → Rep Γ K S1 a v → PostS Γ K S1 H1 D W (f a h1) → QQ v H1) : t σ H QQ := by
  refine ht S H h σ env QQ R G ?_
  cases z : m env h with
  | ok a h1 =>
    rw [z] at hp
    exact fun S' H' b e r q => k a h1 S' H' b e r (G.mono e) q (PostS.ext hp e)
  | exc C xs h1 =>
    rw [z] at hp
    exact fun S' H' dd e r q => hp S' H' σ dd e r (G.mono e) q
  | stuck => rw [z] at hp; exact hp
theorem exTS {t : TT} {m : MT} {f : Bool → MH → OutS} {S : Sh} {H : Hp} {h : MH} {σ : L2.St} {env : MEnv} {D : Ends} {QQ : Bool → Hp → Prop} (ht : ExT Γ K W t m) (R : Rel Γ K S h H) (G : REnv Γ K S env σ)
    (hp : PostS Γ K S H D W ((m env h).andS env f))
    (k : ∀ a h1 S1 H1, Ext S H S1 H1 → Rel Γ K S1 h1 H1 → REnv Γ K S1 env σ → PostS Γ K S1 H1 D W (f a h1) → QQ a H1) : t σ H QQ := by
  refine ht S H h σ env QQ R G ?_
  cases z : m env h with
  | ok a h1 =>
    rw [z] at hp
    intro S' H' b e r q
    have q' : b = a := q
    subst q'
    exact k b h1 S' H' e r (G.mono e) (PostS.ext hp e)
  | exc C xs h1 =>
    rw [z] at hp
    exact fun S' H' dd e r q => hp S' H' σ dd e r (G.mono e) q
  | stuck => rw [z] at hp; exact hp
theorem exGS {t : TG} {g : MG} {f : MEnv → MH → OutS} {S : Sh} {H : Hp} {h : MH} {σ : L2.St} {env : MEnv} {d : MV} {v : V} {D : Ends} {QQ : L2.St → Hp → Prop} (ht : ExG Γ K W t g) (R : Rel Γ K S h H) (G : REnv Γ K S env σ) (rv : Rep Γ K S d v)
    (hp : PostS Γ K S H D W ((g d env h).andS env f))
    (k : ∀ env1 h1 S1 H1 σ1, Ext S H S1 H1 → Rel Γ K S1 h1 H1 → REnv Γ K S1 env1 σ1 → PostS Γ K S1 H1 D W (f env1 h1) → QQ σ1 H1) : t v σ H QQ := by
  refine ht S H h σ env d v QQ R G rv ?_
  cases z : g d env h with
  | ok a h1 =>
    rw [z] at hp
    exact fun S' H' σ' e r q => k a h1 S' H' σ' e r q (PostS.ext hp e)
  | exc C xs h1 =>
    rw [z] at hp
    exact fun S' H' dd e r q => hp S' H' σ dd e r (G.mono e) q
  | stuck => rw [z] at hp; exact hp
theorem REnv.set {S : Sh} {env : MEnv} {σ : L2.St} {d : MV} {v : V} (G : REnv Γ K S env σ) (r : Rep Γ K S d v) (i : Nat) : REnv Γ K S (env.set i (some d)) (σ.set i (some v)) := by
  refine ⟨by rw [List.length_set, List.length_set]; exact G.1, fun j d' e => ?_⟩
  by_cases hj : i = j
  · subst hj
    have hl : i < env.length := by
      have := (List.getElem?_eq_some_iff.mp e).1
      rw [List.length_set] at this; exact this
    rw [List.getElem?_set_self hl] at e
    cases e
    exact ⟨v, by rw [List.getElem?_set_self (by rw [← G.1]; exact hl)], r⟩
  · rw [List.getElem?_set_ne hj] at e ⊢
    exact G.2 j d' e
theorem REnv.drop {S : Sh} {env : MEnv} {σ : L2.St} (G : REnv Γ K S env σ) (i : Nat) (x : Option V) : REnv Γ K S (env.set i none) (σ.set i x) := by
  refine ⟨by rw [List.length_set, List.length_set]; exact G.1, fun j d' e => ?_⟩
  by_cases hj : i = j
  · subst hj
    have hl : i < env.length := by
      have := (List.getElem?_eq_some_iff.mp e).1
      rw [List.length_set] at this; exact this
    rw [List.getElem?_set_self hl] at e
    cases e
  · rw [List.getElem?_set_ne hj] at e ⊢
    exact G.2 j d' e
theorem REnv.wipe {S : Sh} {env : MEnv} {σ : L2.St} (G : REnv Γ K S env σ) : ∀ vs : List Nat, REnv Γ K S (wipeM env vs) (L2.wipe σ vs)
  | [] => G
  | v :: vs => (REnv.wipe G vs).drop v none

/-! ### statements -/
variable {st : Stmt} {rest sa sb : List Stmt} {m a b : MS} {e c : Expr} {me : ME} {mt : MT} {pos pos' : Pos}
theorem ss_nil : SSs Γ X W [] sNil := ⟨_, pss_nil, fun S H h σ env D R G p => p S H σ (Ext.refl _ _) R G⟩
theorem ss_cons (h1 : SS Γ X W st a) (h2 : SSs Γ X W rest b) : SSs Γ X W (st :: rest) (sSeq a b) := by
  obtain ⟨ta, pa, ea⟩ := h1.ex
  obtain ⟨tb, pb, eb⟩ := h2.ex
  refine ⟨_, pss_cons pa pb, fun S H h σ env D R G p => ?_⟩
  show ta { D with nx := tb D } σ H
  refine ea S H h σ env { D with nx := tb D } R G ?_
  unfold sSeq at p
  cases z : a env h with
  | ok f env1 h1 =>
    rw [z] at p
    cases f with
    | nx => exact fun S' H' σ' e r g => eb S' H' h1 σ' env1 D r g (PostS.ext p e)
    | rt d => exact p
    | bk => exact p
    | ct => exact p
  | exc C xs env1 h1 => rw [z] at p; exact p
  | stuck => rw [z] at p; exact p
theorem ss_one (h1 : SS Γ X W st a) : SSs Γ X W [st] a := by
  obtain ⟨ta, pa, ea⟩ := h1.ex
  exact ⟨_, pss_one pa, ea⟩
theorem ss_break : SS Γ X W (.Break pos) sBreak := ⟨_, ps_break, fun S H h σ env D R G p => p S H σ (Ext.refl _ _) R G⟩
theorem ss_cont : SS Γ X W (.Continue pos) sCont := ⟨_, ps_continue, fun S H h σ env D R G p => p S H σ (Ext.refl _ _) R G⟩
theorem ss_pass : SS Γ X W (.Pass pos) sNil := ⟨_, ps_pass, fun S H h σ env D R G p => p S H σ (Ext.refl _ _) R G⟩
theorem ss_if (ht : ST Γ X W c mt) (ha : SSs Γ X W sa a) (hb : SSs Γ X W sb b) : SS Γ X W (.If c sa sb pos) (sIf mt a b) := by
  obtain ⟨tc, pc, ec⟩ := ht.ex
  obtain ⟨ta, pa, ea⟩ := ha.ex
  obtain ⟨tb, pb, eb⟩ := hb.ex
  refine ⟨_, ps_if pc pa pb, fun S H h σ env D R G p => exTS (t := tc) ec R G p fun x h1 S1 H1 e1 R1 G1 p1 => ?_⟩
  cases x with
  | true => exact ea S1 H1 h1 σ env D R1 G1 p1
  | false => exact eb S1 H1 h1 σ env D R1 G1 p1
theorem ss_ret (ha : SE Γ X W e me) : SS Γ X W (.Return (some e) pos) (sRet me) := by
  obtain ⟨ta, pa, ea⟩ := ha.ex
  exact ⟨_, ps_ret pa, fun S H h σ env D R G p => exES (t := ta) ea R G p fun x h1 S1 H1 v e1 R1 G1 r1 p1 => p1 S1 H1 v (Ext.refl _ _) R1 r1⟩
theorem ss_retN : SS Γ X W (.Return none pos) sRetN := ⟨_, ps_retN, fun S H h σ env D R G p => p S H _ (Ext.refl _ _) R is_non⟩
theorem ss_expr (ha : SE Γ X W e me) (hs : swapsWith e none pos.line X.env = pure false := by rfl) : SS Γ X W (.Expr e pos) (sExpr me) := by
  obtain ⟨ta, pa, ea⟩ := ha.ex
  exact ⟨_, ps_expr pa hs, fun S H h σ env D R G p => exES (t := ta) ea R G p fun x h1 S1 H1 v e1 R1 G1 r1 p1 => p1 S1 H1 σ (Ext.refl _ _) R1 G1⟩
theorem ss_set (i : Nat) {x : Str} (hN : X.N.Nodup) (ha : SE Γ X W e me) (hi : X.N[i]? = some x := by rfl) (hx : Loc X.env.scope x := by first | exact Or.inl rfl | exact Or.inr rfl) (hs : swapsWith e (some (.Name x pos')) pos.line X.env = pure false := by rfl)
    (hf : X.fn x = true ∨ X.env.scope.names.lookup x = some .local := by first | exact .inl rfl | exact .inr rfl | assumption) : SS Γ X W (.Assign [.Name x pos'] e pos) (sSet i me) := by
  obtain ⟨ta, pa, ea⟩ := ha.ex
  exact ⟨_, ps_set hN hi hx pa hs hf, fun S H h σ env D R G p => exES (t := ta) ea R G p fun d h1 S1 H1 v e1 R1 G1 r1 p1 => p1 S1 H1 _ (Ext.refl _ _) R1 (G1.set r1 i)⟩
theorem ss_asg {tg : Expr} {g : MG} (ha : SE Γ X W e me) (hg : SG Γ X W tg g) (hs : swapsWithSole [tg] e pos.line X.env = pure false := by rfl) (hw : swappedStores [tg] e X.env = pure none := by rfl) (h1 : (assignEach [tg] X.env).map (·.2) = [assign tg X.env] := by rfl) : SS Γ X W (.Assign [tg] e pos) (sAsg me g) := by
  obtain ⟨ta, pa, ea⟩ := ha.ex
  obtain ⟨tg', pg, eg⟩ := hg.ex
  exact ⟨_, ps_asg pa pg hs hw h1, fun S H h σ env D R G p => exES (t := ta) ea R G p fun d h1 S1 H1 v e1 R1 G1 r1 p1 => exGS (t := tg') eg R1 G1 r1 p1 fun env2 h2 S2 H2 σ2 e2 R2 G2 p2 => p2 S2 H2 σ2 (Ext.refl _ _) R2 G2⟩
theorem ss_aug (i : Nat) {x : Str} {op : Operator} {ti : TIp} {f : MV → MV → MH → Out MV} (hN : X.N.Nodup) (ha : SE Γ X W e me) (ho : PIp X op ti) (hl : Lift2 Γ X.K ti f) (hi : X.N[i]? = some x := by rfl) (hx : Loc X.env.scope x := by first | exact Or.inl rfl | exact Or.inr rfl)
    (hf : X.fn x = true ∨ X.env.scope.names.lookup x = some .local := by first | exact .inl rfl | exact .inr rfl | assumption) : SS Γ X W (.AugAssign (.Name x pos') op e pos) (sAug i f me) := by
  obtain ⟨ta, pa, ea⟩ := ha.ex
  refine ⟨_, ps_aug hN hi hx pa ho hf, fun S H h σ env D R G p => ?_⟩
  unfold sAug at p
  split at p
  · rename_i d hd
    obtain ⟨v, h1, h2⟩ := G.2 i d hd
    refine ⟨v, h1, exES (t := ta) ea R G p fun y h1 S1 H1 w e1 R1 G1 r1 p1 => ?_⟩
    refine hl S1 H1 h1 d y v w _ (WE' W σ) R1 (h2.ext e1) r1 ?_
    cases z : f d y h1 with
    | ok q h2 =>
      rw [z] at p1
      exact fun S' H' b e r q => p1 S' H' _ e r ((G1.mono e).set q i)
    | exc C xs h2 =>
      rw [z] at p1
      exact fun S' H' dd e r q => p1 S' H' σ dd e r (G1.mono e) q
    | stuck => rw [z] at p1; exact p1
  · exact p.elim

/-! targets -/
theorem sg_name (i : Nat) {x : Str} (hN : X.N.Nodup) (hi : X.N[i]? = some x := by rfl) (hx : Loc X.env.scope x := by first | exact Or.inl rfl | exact Or.inr rfl) (hf : X.fn x = true ∨ X.env.scope.names.lookup x = some .local := by first | exact .inl rfl | exact .inr rfl | assumption) :
    SG Γ X W (.Name x pos) (gNm i) := ⟨_, pg_name hN hi hx hf, fun S H h σ env d v Q R G r p => p S H _ (Ext.refl _ _) R (G.set r i)⟩
/-- a store to a place, by values -/
def LiftS (Γ : Gm) (K : PySem.W.Frag) (r : TSet) (f : MV → MV → MV → MH → Out MV) : Prop :=
  ∀ S H h o i d u v w Q E, Rel Γ K S h H → Rep Γ K S o u → Rep Γ K S i v → Rep Γ K S d w → Post Γ K (Rep Γ K) S H (fun _ H' => Q H') E (f o i d h) → r u v w H Q
theorem sg_sub {o i : Expr} {mo mi : ME} {t : TSet} {f : MV → MV → MV → MH → Out MV} (ho : SE Γ X W o mo) (hi : SE Γ X W i mi) (hs : PSet X t) (hl : LiftS Γ X.K t f) {pos : Pos}
    (hA : ∀ v, assign (.Subscript o i pos) X.env v = (do
      let ov ← holding [v] (eval o X.env)
      let iv ← holding [v, ov] (eval i X.env)
      standAt pos
      holding [v, ov, iv] (setItem ov iv v)
      release [v, ov, iv] []) := by intro _; rfl) : SG Γ X W (.Subscript o i pos) (gSb mo mi f) := by
  obtain ⟨ta, pa, ea⟩ := ho.ex
  obtain ⟨tb, pb, eb⟩ := hi.ex
  refine ⟨_, pg_sub pa pb hs hA, fun S H h σ env d v Q R G r p => ?_⟩
  show ta σ H _
  have gen : ∀ {γ : Type} {S1 : Sh} {H1 : Hp} {x : Out γ} {k : γ → MH → Out MEnv} {β : Type} {R' : Sh → γ → β → Prop} {QQ : β → Hp → Prop}, PostG Γ X.K S1 H1 Q W σ (x.bind k) → (∀ a h2 S2 H2 b, Ext S1 H1 S2 H2 → Rel Γ X.K S2 h2 H2 → R' S2 a b → PostG Γ X.K S2 H2 Q W σ (k a h2) → QQ b H2) → Post Γ X.K R' S1 H1 QQ (WE' W σ) x := by
    intro γ S1 H1 x k β R' QQ hp hk
    cases x with
    | ok a h2 => exact fun S' H' b e r q => hk a h2 S' H' b e r q (by
        cases z : k a h2 with
        | ok env2 h3 =>
          have hp' : PostG Γ X.K S1 H1 Q W σ (k a h2) := hp
          rw [z] at hp'
          exact fun S2 H2 σ2 e2 => hp' S2 H2 σ2 (e.trans e2)
        | exc C xs h3 =>
          have hp' : PostG Γ X.K S1 H1 Q W σ (k a h2) := hp
          rw [z] at hp'
          exact fun S2 H2 dd e2 => hp' S2 H2 dd (e.trans e2)
        | stuck =>
          have hp' : PostG Γ X.K S1 H1 Q W σ (k a h2) := hp
          rw [z] at hp'; exact hp')
    | exc C xs h2 => exact hp
    | stuck => exact hp
  refine ea S H h σ env _ R G (gen p fun x h1 S1 H1 u e1 R1 r1 p1 => ?_)
  refine eb S1 H1 h1 σ env _ R1 (G.mono e1) (gen p1 fun y h2 S2 H2 w e2 R2 r2 p2 => ?_)
  refine hl S2 H2 h2 x y d u w v _ (WE' W σ) R2 (r1.ext e2) r2 ((r.ext e1).ext e2) (gen p2 fun _ h3 S3 H3 _ e3 R3 r3 p3 => ?_)
  exact p3 S3 H3 σ (Ext.refl _ _) R3 (((G.mono e1).mono e2).mono e3)
def fSetL : MV → MV → MV → MH → Out MV
  | .ref n, .int k, d, h => match h[n]? with
    | some (.lst xs) => match ixN xs.length k with
      | some j => .ok .non (h.set n (.lst (xs.set j d)))
      | none => .stuck
    | _ => .stuck
  | _, _, _, _ => .stuck
/-- writing a list cell -/
theorem storeL {S : Sh} {H : Hp} {h : MH} {n : Nat} {xs ys : List MV} {v : V} (R : Rel Γ K S h H) (hn : h[n]? = some (.lst xs)) (r : Rep Γ K S (.ref n) v) : ∃ a us, v = .ref a ∧ H a = some (.lst us) ∧ RepL Γ K S xs us ∧
    ∀ vs, RepL Γ K S ys vs → Rel Γ K S (h.set n (.lst ys)) (upd H a (.lst vs)) ∧ Ext S H S (upd H a (.lst vs)) := by
  unfold Rep at r
  obtain ⟨a, e1, rfl⟩ := r
  obtain ⟨z, us, q1, q2⟩ := R.cell n _ a hn e1
  exact ⟨a, us, rfl, q1, q2, fun vs rv => R.store e1 z ⟨z, vs, upd_same, rv⟩⟩
theorem lift_setL : LiftS Γ K rSetL fSetL := by
  intro S H h o i d u v w Q E R ro ri rd p
  unfold fSetL at p
  split at p
  · split at p
    · rename_i xs hx
      split at p
      · rename_i j hj
        obtain ⟨a, us, rfl, q1, q2, q3⟩ := storeL (ys := xs.set j d) R hx ro
        obtain ⟨R1, e1⟩ := q3 _ (repL_set rd j q2)
        exact ⟨a, us, _, j, rfl, rep_int ri, q1, by rw [← repL_len q2]; exact hj, p S _ .non e1 R1 is_non⟩
      · exact p.elim
    · exact p.elim
  · exact p.elim
structure SGs (Γ : Gm) (X : Cx) (W : WX) (es : List Expr) (gs : List MG) : Prop where
  ex : ∃ t : TGs, PGs X es t ∧ ∀ S H h σ env ds vs Q, Rel Γ X.K S h H → REnv Γ X.K S env σ → RepL Γ X.K S ds vs → PostG Γ X.K S H Q W σ (gTp gs ds env h) → t vs σ H Q
theorem gTp_nox : ∀ (gs : List MG) (ds : List MV) (env : MEnv) (h : MH), (∃ env' h', gTp gs ds env h = .ok env' h') ∨ gTp gs ds env h = .stuck
  | [], [], env, h => .inl ⟨env, h, rfl⟩
  | [], _ :: _, _, _ => .inr rfl
  | _ :: _, [], _, _ => .inr rfl
  | g :: gs, d :: ds, env, h => by
    unfold gTp
    cases z : g d env h with
    | ok env1 h1 => exact gTp_nox gs ds env1 h1
    | exc C xs h1 => exact .inr rfl
    | stuck => exact .inr rfl
theorem sgs_nil : SGs Γ X W [] [] := ⟨_, pgs_nil, fun S H h σ env ds vs Q R G r p => by
  cases ds with
  | nil => exact ⟨by unfold RepL at r; exact r, p S H σ (Ext.refl _ _) R G⟩
  | cons d ds => exact p.elim⟩
theorem sgs_cons {e : Expr} {es : List Expr} {g : MG} {gs : List MG} (h1 : SG Γ X W e g) (h2 : SGs Γ X W es gs) (hs : (assignEach (e :: es) X.env).map (·.2) = assign e X.env :: (assignEach es X.env).map (·.2) := by rfl) : SGs Γ X W (e :: es) (g :: gs) := by
  obtain ⟨t, pt, et⟩ := h1.ex
  obtain ⟨u, pu, eu⟩ := h2.ex
  refine ⟨_, pgs_cons pt pu hs, fun S H h σ env ds vs Q R G r p => ?_⟩
  cases ds with
  | nil => exact p.elim
  | cons d ds =>
    unfold RepL at r
    obtain ⟨v, vr, rfl, r1, r2⟩ := r
    refine ⟨v, vr, rfl, et S H h σ env d v _ R G r1 ?_⟩
    unfold gTp at p
    cases z : g d env h with
    | ok env1 h1 =>
      rw [z] at p
      refine fun S' H' σ' e R' G' => eu S' H' h1 σ' env1 ds vr Q R' G' (r2.ext e) ?_
      have p' : PostG Γ X.K S H Q W σ (gTp gs ds env1 h1) := p
      rcases gTp_nox gs ds env1 h1 with ⟨env2, h2, y⟩ | y
      · rw [y] at p' ⊢; exact fun S2 H2 σ2 e2 => p' S2 H2 σ2 (e.trans e2)
      · rw [y] at p'; exact p'.elim
    | exc C xs h1 => rw [z] at p; exact p.elim
    | stuck => rw [z] at p; exact p.elim
theorem sgs_len {Q : L2.St → Hp → Prop} {S : Sh} {H : Hp} {σ : L2.St} : ∀ {gs : List MG} {ds : List MV} {env : MEnv} {h : MH}, PostG Γ X.K S H Q W σ (gTp gs ds env h) → ds.length = gs.length
  | [], [], _, _, _ => rfl
  | [], _ :: _, _, _, p => p.elim
  | _ :: _, [], _, _, p => p.elim
  | g :: gs, d :: ds, env, h, p => by
    unfold gTp at p
    cases z : g d env h with
    | ok env1 h1 =>
      rw [z] at p
      have p' : PostG Γ X.K S H Q W σ (gTp gs ds env1 h1) := p
      rw [List.length_cons, List.length_cons, sgs_len p']
    | exc C xs h1 => rw [z] at p; exact p.elim
    | stuck => rw [z] at p; exact p.elim
theorem sg_tup {es : List Expr} {gs : List MG} {n : Nat} {x1 : Nat} {pos : Pos} (hc : X.calm = true) (hp : SGs Γ X W es gs) (hl : gs.length = n := by rfl) (hn : (assignEach es X.env).length = n := by rfl) (hst : (assignEach es X.env).findIdx? (·.1) = none := by rfl) : SG Γ X W (.Tuple es x1 pos) (gTup gs) := by
  obtain ⟨t, pt, et⟩ := hp.ex
  refine ⟨_, pg_tup hc pt hn hst, fun S H h σ env d v Q R G r p => ?_⟩
  unfold gTup at p
  split at p
  · rename_i xs
    obtain ⟨a, us, rfl, q2, q3⟩ := tup_ok R r
    exact ⟨a, us, rfl, q2, by rw [← repL_len q3, sgs_len p, hl], et S H h σ env xs us Q R G q3 p⟩
  · exact p.elim
end
end Mn
/-! ## MnE -/
set_option Elab.async false
set_option linter.all false
set_option maxRecDepth 100000
/-! Mn, part E: loops, comprehensions, calls of defs, bodies. -/
namespace Mn
open PySem PySem.Spec PyProof.Rows L2

section
variable {Γ : Gm} {K : PySem.W.Frag} {X : Cx} {W : WX} {S : Sh} {H : Hp} {h : MH}

/-! ### iterators -/
theorem itst_list {a : Addr} {xs : List MV} {us : List V} (hs : SqL K S.Hs a us) (r : RepL Γ K S xs us) : ItSt Γ K (Itl K a) S xs := by
  intro S' h' H' i e ix R
  have q : SqL K H' a us := by
    rcases hs with (q | ⟨o, q⟩) | q
    · exact .inl (.inl (R.sub _ _ (e _ _ q)))
    · exact .inl (.inr ⟨o, R.sub _ _ (e _ _ q)⟩)
    · exact .inr q
  refine ⟨fun z => ⟨us, q, ?_⟩, fun x z => ?_⟩
  · rw [← repL_len r]; exact List.getElem?_eq_none_iff.mp z
  · obtain ⟨u, h1, h2⟩ := repL_get r z
    refine ⟨⟨us, u, q, h1⟩, fun v H'' y => ?_⟩
    obtain ⟨rfl, y⟩ := y
    have := y us q
    rw [h1] at this
    cases this
    exact ⟨rfl, rep_mono e ix _ _ h2⟩
theorem itst_tup {a : Addr} {xs : List MV} {us : List V} (hs : SqT K S.Hs a us) (r : RepL Γ K S xs us) : ItSt Γ K (Itt K a) S xs := by
  intro S' h' H' i e ix R
  have q : SqT K H' a us := by
    rcases hs with (q | ⟨o, q⟩) | q
    · exact .inl (.inl (R.sub _ _ (e _ _ q)))
    · exact .inl (.inr ⟨o, R.sub _ _ (e _ _ q)⟩)
    · exact .inr q
  refine ⟨fun z => ⟨us, q, ?_⟩, fun x z => ?_⟩
  · rw [← repL_len r]; exact List.getElem?_eq_none_iff.mp z
  · obtain ⟨u, h1, h2⟩ := repL_get r z
    refine ⟨⟨us, u, q, h1⟩, fun v H'' y => ?_⟩
    obtain ⟨rfl, y⟩ := y
    have := y us q
    rw [h1] at this
    cases this
    exact ⟨rfl, rep_mono e ix _ _ h2⟩
theorem itlv {n : Nat} {a : Addr} (hn : S.ι[n]? = some a) : ItLv Γ K (Itl K a) S n := by
  intro S' h' H' i xs e ix R hx
  obtain ⟨_, us, q1, q2⟩ := R.cell n _ a hx (ix _ _ hn)
  refine ⟨fun z => ⟨us, SqL.of q1, ?_⟩, fun x z => ?_⟩
  · rw [← repL_len q2]; exact List.getElem?_eq_none_iff.mp z
  · obtain ⟨u, h1, h2⟩ := repL_get q2 z
    refine ⟨⟨us, u, SqL.of q1, h1⟩, fun v H'' y => ?_⟩
    obtain ⟨rfl, y⟩ := y
    have := y us (SqL.of q1)
    rw [h1] at this
    cases this
    exact ⟨rfl, h2⟩
theorem itst_str (z : Str) : ItSt Γ K (Its z) S (charsOf z) := by
  intro S' h' H' i e ix R
  unfold charsOf
  refine ⟨fun q => ?_, fun x q => ?_⟩
  · have := List.getElem?_eq_none_iff.mp q
    rw [List.length_map] at this
    exact this
  · rw [List.getElem?_map] at q
    cases w : z.cps.toList[i]? with
    | none => rw [w] at q; cases q
    | some c =>
      rw [w] at q; cases q
      have hi := (List.getElem?_eq_some_iff.mp w).1
      refine ⟨hi, fun v H'' y => ?_⟩
      obtain ⟨rfl, c', h1, rfl⟩ := y
      rw [Array.getElem?_toList] at w
      rw [w] at h1
      cases h1
      exact ⟨rfl, is_str⟩
theorem itst_range (lo : Int) (n : Nat) : ItSt Γ K (Itr lo n) S (rangeM lo n) := by
  intro S' h' H' i e ix R
  unfold rangeM
  refine ⟨fun q => ?_, fun x q => ?_⟩
  · have := List.getElem?_eq_none_iff.mp q
    rw [List.length_map, List.length_range] at this
    exact this
  · rw [List.getElem?_map] at q
    cases w : (List.range n)[i]? with
    | none => rw [w] at q; cases q
    | some c =>
      rw [w] at q; cases q
      obtain ⟨hi, hc⟩ := List.getElem?_eq_some_iff.mp w
      rw [List.length_range] at hi
      rw [List.getElem_range] at hc
      subst hc
      refine ⟨hi, fun v H'' y => ?_⟩
      obtain ⟨rfl, rfl⟩ := y
      exact ⟨rfl, is_int⟩
theorem exEI {t : TE} {m : ME} {f : MV → MH → Out IterV} {σ : L2.St} {env : MEnv} {R' : It → Hp → Prop} {QQ : VK} (ht : ExE Γ K W t m) (R : Rel Γ K S h H) (G : REnv Γ K S env σ)
    (hp : PostI Γ K S H R' W σ ((m env h).bind f))
    (k : ∀ a h1 S1 H1 v, m env h = .ok a h1 → Ext S H S1 H1 → Rel Γ K S1 h1 H1 → Rep Γ K S1 a v → PostI Γ K S1 H1 R' W σ (f a h1) → QQ v H1) : t σ H QQ := by
  refine ht S H h σ env QQ R G ?_
  cases z : m env h with
  | ok a h1 =>
    rw [z] at hp
    refine fun S' H' b e r q => k a h1 S' H' b z e r q ?_
    have hp' : PostI Γ K S H R' W σ (f a h1) := hp
    cases y : f a h1 with
    | ok iv h2 =>
      rw [y] at hp'
      cases iv with
      | st xs => exact fun S2 H2 J e2 => hp' S2 H2 J (e.trans e2)
      | lv n => exact fun S2 H2 J e2 => hp' S2 H2 J (e.trans e2)
    | exc C xs h2 => rw [y] at hp'; exact fun S2 H2 dd e2 => hp' S2 H2 dd (e.trans e2)
    | stuck => rw [y] at hp'; exact hp'
  | exc C xs h1 => rw [z] at hp; exact hp
  | stuck => rw [z] at hp; exact hp
theorem PI.or {tg l : Expr} {w1 w2 : TI} (a : PI X tg l w1) (b : PI X tg l w2) : PI X tg l (fun σ H R => w1 σ H R ∨ w2 σ H R) := by
  refine ⟨fun pins s σ H R I h => ?_⟩
  rcases h with h | h
  · exact a.run pins s σ H R I h
  · exact b.run pins s σ H R I h
variable {tg e c : Expr} {me : ME} {mt : MT} {ms : MA} {pos p : Pos}
theorem si_seq (he : SE Γ X W e me) : SI Γ X W tg e (iSeq me) := by
  obtain ⟨t, pt, et⟩ := he.ex
  refine ⟨_, PI.or (pi_tup pt) (PI.or (pi_list pt) (pi_str pt)), fun S H h σ env R' R G q => ?_⟩
  unfold iSeq at q
  cases z : me env h with
  | ok d h1 =>
    cases d with
    | tup xs =>
      refine .inl (exEI (t := t) et R G q fun a h2 S1 H1 v y e1 R1 r1 p1 => ?_)
      rw [z] at y; cases y
      have r1' := r1
      unfold Rep at r1'
      obtain ⟨a, us, rfl, q2, q3⟩ := r1'
      exact ⟨a, rfl, ⟨us, sqT_sub R1 q2⟩, p1 S1 H1 _ (Ext.refl _ _) R1 (itst_tup q2 q3)⟩
    | fl xs =>
      refine .inr (.inl (exEI (t := t) et R G q fun a h2 S1 H1 v y e1 R1 r1 p1 => ?_))
      rw [z] at y; cases y
      have r1' := r1
      unfold Rep at r1'
      obtain ⟨a, us, rfl, q2, q3⟩ := r1'
      exact ⟨a, rfl, ⟨us, SqL.of (R1.sub _ _ q2)⟩, p1 S1 H1 _ (Ext.refl _ _) R1 (itst_list (SqL.of q2) q3)⟩
    | sl xs =>
      refine .inr (.inl (exEI (t := t) et R G q fun a h2 S1 H1 v y e1 R1 r1 p1 => ?_))
      rw [z] at y; cases y
      have r1' := r1
      unfold Rep at r1'
      obtain ⟨a, us, rfl, q2, q3⟩ := r1'
      obtain ⟨a', us', ea, q4, _⟩ := lstAt_ok (h := h1) (d := .sl xs) (xs := xs) R1 rfl r1
      cases ea
      exact ⟨a, rfl, ⟨us', q4⟩, p1 S1 H1 _ (Ext.refl _ _) R1 (itst_list q2 q3)⟩
    | ref n =>
      refine .inr (.inl (exEI (t := t) et R G q fun a h2 S1 H1 v y e1 R1 r1 p1 => ?_))
      rw [z] at y; cases y
      simp only at p1
      split at p1
      · rename_i xs hx
        have r1' := r1
        unfold Rep at r1'
        obtain ⟨a, q2, rfl⟩ := r1'
        obtain ⟨_, us, q3, _⟩ := R1.cell n _ a hx q2
        exact ⟨a, rfl, ⟨us, SqL.of q3⟩, p1 S1 H1 _ (Ext.refl _ _) R1 (itlv q2)⟩
      · exact p1.elim
    | str x =>
      refine .inr (.inr (exEI (t := t) et R G q fun a h2 S1 H1 v y e1 R1 r1 p1 => ?_))
      rw [z] at y; cases y
      exact ⟨x, rep_str r1, p1 S1 H1 _ (Ext.refl _ _) R1 (itst_str x)⟩
    | non => rw [z] at q; exact q.elim
    | bl _ => rw [z] at q; exact q.elim
    | int _ => rw [z] at q; exact q.elim
    | ob _ _ _ => rw [z] at q; exact q.elim
    | exo _ _ _ _ => rw [z] at q; exact q.elim
  | exc C xs h1 => exact .inl (exEI (t := t) et R G q fun a h2 S1 H1 v y => by rw [z] at y; cases y)
  | stuck => rw [z] at q; exact q.elim
theorem exAI {t : TA} {m : MA} {f : List MV → MH → Out IterV} {σ : L2.St} {env : MEnv} {R' : It → Hp → Prop} {QQ : List V → Hp → Prop} (ht : ExA Γ K W t m) (R : Rel Γ K S h H) (G : REnv Γ K S env σ)
    (hp : PostI Γ K S H R' W σ ((m env h).bind f))
    (k : ∀ a h1 S1 H1 v, Ext S H S1 H1 → Rel Γ K S1 h1 H1 → RepL Γ K S1 a v → PostI Γ K S1 H1 R' W σ (f a h1) → QQ v H1) : t σ H QQ := by
  refine ht S H h σ env QQ R G ?_
  cases z : m env h with
  | ok a h1 =>
    rw [z] at hp
    refine fun S' H' b e r q => k a h1 S' H' b e r q ?_
    have hp' : PostI Γ K S H R' W σ (f a h1) := hp
    cases y : f a h1 with
    | ok iv h2 =>
      rw [y] at hp'
      cases iv with
      | st xs => exact fun S2 H2 J e2 => hp' S2 H2 J (e.trans e2)
      | lv n => exact fun S2 H2 J e2 => hp' S2 H2 J (e.trans e2)
    | exc C xs h2 => rw [y] at hp'; exact fun S2 H2 dd e2 => hp' S2 H2 dd (e.trans e2)
    | stuck => rw [y] at hp'; exact hp'
  | exc C xs h1 => rw [z] at hp; exact hp
  | stuck => rw [z] at hp; exact hp
theorem repL_1 {d : MV} {vs : List V} (r : RepL Γ K S [d] vs) : ∃ v, vs = [v] ∧ Rep Γ K S d v := by
  unfold RepL at r
  obtain ⟨u, r', rfl, q1, q2⟩ := r
  unfold RepL at q2
  subst q2
  exact ⟨u, rfl, q1⟩
theorem repL_2 {d e : MV} {vs : List V} (r : RepL Γ K S [d, e] vs) : ∃ v w, vs = [v, w] ∧ Rep Γ K S d v ∧ Rep Γ K S e w := by
  unfold RepL at r
  obtain ⟨u, r', rfl, q1, q2⟩ := r
  obtain ⟨w, rfl, q3⟩ := repL_1 q2
  exact ⟨u, w, rfl, q1, q3⟩
theorem si_range1 {a : Expr} (hm : X.mg "range" = none) (ha : SA Γ X W [a] ms) (hg : Gl X "range" := by rfl) (hs : starEach [a] X.env = [(false, eval a X.env)] := by rfl) : SI Γ X W tg (.Call (.Name "range" p) [a] [] pos) (iRange1 ms) := by
  obtain ⟨t, pt, et⟩ := ha.ex
  refine ⟨_, pi_range1 hg hm pt hs, fun S H h σ env R' R G q => exAI (t := t) et R G q fun vs h1 S1 H1 us e1 R1 r1 p1 => ?_⟩
  split at p1
  · rename_i j
    obtain ⟨v, rfl, q1⟩ := repL_1 r1
    split at p1
    · rename_i hz
      exact ⟨j, by rw [rep_int q1], hz.1, hz.2, p1 S1 H1 _ (Ext.refl _ _) R1 (itst_range 0 j.toNat)⟩
    · exact p1.elim
  · exact p1.elim
theorem si_range2 {a b : Expr} (hm : X.mg "range" = none) (ha : SA Γ X W [a, b] ms) (hg : Gl X "range" := by rfl) (hs : starEach [a, b] X.env = [(false, eval a X.env), (false, eval b X.env)] := by rfl) (hs2 : starEach [b] X.env = [(false, eval b X.env)] := by rfl) : SI Γ X W tg (.Call (.Name "range" p) [a, b] [] pos) (iRange2 ms) := by
  obtain ⟨t, pt, et⟩ := ha.ex
  refine ⟨_, pi_range2 hg hm pt hs hs2, fun S H h σ env R' R G q => exAI (t := t) et R G q fun vs h1 S1 H1 us e1 R1 r1 p1 => ?_⟩
  split at p1
  · rename_i i j
    obtain ⟨v, w, rfl, q1, q2⟩ := repL_2 r1
    split at p1
    · rename_i hz
      exact ⟨i, j, by rw [rep_int q1, rep_int q2], hz, p1 S1 H1 _ (Ext.refl _ _) R1 (itst_range i (j - i).toNat)⟩
    · exact p1.elim
  · exact p1.elim

/-! ### while -/
variable {sb : List Stmt} {b : MS}
theorem ss_while {n : Nat} (hp : PassesOwn (model X.prog X.w) X.A X.env X.xe) (ht : ST Γ X W c mt) (hb : SSs Γ X W sb b) : SS Γ X W (.While c sb [] pos) (sWhile mt b n) := by
  obtain ⟨tc, pc, ec⟩ := ht.ex
  obtain ⟨tb, pb, eb⟩ := hb.ex
  refine ⟨_, ps_while hp pc pb, fun S H h σ env D R G q => ?_⟩
  refine ⟨fun m σ' H' => ∃ S' h' env', Ext S H S' H' ∧ Rel Γ X.K S' h' H' ∧ REnv Γ X.K S' env' σ' ∧ PostS Γ X.K S' H' D W (sWhile mt b m env' h'), ⟨n, S, h, env, Ext.refl _ _, R, G, q⟩, ?_⟩
  rintro m σ1 H1 ⟨S1, h1, env1, e1, R1, G1, q1⟩
  cases m with
  | zero => exact q1.elim
  | succ m =>
    unfold sWhile at q1
    refine exTS (t := tc) ec R1 G1 q1 fun a h2 S2 H2 e2 R2 G2 q2 => ?_
    cases a with
    | false =>
      rw [if_neg Bool.false_ne_true] at q2 ⊢
      exact q2 S2 H2 σ1 (Ext.refl _ _) R2 G2
    | true =>
      rw [if_pos rfl] at q2 ⊢
      refine ⟨fun σ' H' => ∃ S' h' env', Ext S H S' H' ∧ Rel Γ X.K S' h' H' ∧ REnv Γ X.K S' env' σ' ∧ PostS Γ X.K S' H' D W (sWhile mt b m env' h'), fun σ' H' w => ⟨m, Nat.lt_succ_self m, w⟩, ?_⟩
      refine eb S2 H2 h2 σ1 env1 _ R2 G2 ?_
      cases z : b env1 h2 with
      | ok f env3 h3 =>
        rw [z] at q2
        cases f with
        | nx => exact fun S3 H3 σ3 e3 R3 G3 => ⟨S3, h3, env3, (e1.trans e2).trans e3, R3, G3, PostS.ext q2 e3⟩
        | ct => exact fun S3 H3 σ3 e3 R3 G3 => ⟨S3, h3, env3, (e1.trans e2).trans e3, R3, G3, PostS.ext q2 e3⟩
        | bk => exact q2
        | rt d => exact q2
      | exc C xs env3 h3 => rw [z] at q2; exact q2
      | stuck => rw [z] at q2; exact q2

/-! ### for -/
theorem for_st {g : MG} {tgt : TG} {tb : TS} (eg : ExG Γ K W tgt g) (eb : ExS Γ K W tb b) {J : It} {xs : List MV} {σ : L2.St} {env : MEnv} {D : Ends} (R : Rel Γ K S h H) (G : REnv Γ K S env σ) (it : ItSt Γ K J S xs) (q : PostS Γ K S H D W (sForL g b xs env h)) :
    ∃ W' : Nat → Nat → L2.St → Hp → Prop, (∃ m, W' 0 m σ H) ∧ ∀ i m σ H, W' i m σ H →
      (J.stop i H ∧ D.nx σ H) ∨ (J.go i H ∧ ∃ N : L2.St → Hp → Prop, (∀ σ' H', N σ' H' → ∃ m', m' < m ∧ W' (i + 1) m' σ' H') ∧ ∀ x H', J.yld i H x H' → tgt x σ H' fun σ2 H2 => tb { D with nx := N, ct := N, bk := D.nx } σ2 H2) := by
  refine ⟨fun i m σ' H' => m = xs.length - i ∧ i ≤ xs.length ∧ ∃ S' h' env', Ext S H S' H' ∧ Rel Γ K S' h' H' ∧ REnv Γ K S' env' σ' ∧ PostS Γ K S' H' D W (sForL g b (xs.drop i) env' h'), ⟨xs.length, by simp, Nat.zero_le _, S, h, env, Ext.refl _ _, R, G, q⟩, ?_⟩
  rintro i m σ1 H1 ⟨rfl, hi, S1, h1, env1, e1, R1, G1, q1⟩
  obtain ⟨it1, it2⟩ := it S1 h1 H1 i e1.hs e1.ix R1
  by_cases hlt : i < xs.length
  · have hx : xs[i]? = some xs[i] := List.getElem?_eq_getElem hlt
    obtain ⟨go, yl⟩ := it2 _ hx
    rw [List.drop_eq_getElem_cons hlt] at q1
    unfold sForL at q1
    refine .inr ⟨go, fun σ' H' => ∃ S' h' env', Ext S H S' H' ∧ Rel Γ K S' h' H' ∧ REnv Γ K S' env' σ' ∧ PostS Γ K S' H' D W (sForL g b (xs.drop (i + 1)) env' h'), fun σ' H' w => ⟨xs.length - (i + 1), by omega, rfl, hlt, w⟩, fun v H' y => ?_⟩
    obtain ⟨rfl, rv⟩ := yl v H' y
    refine exGS (t := tgt) eg R1 G1 rv q1 fun env2 h2 S2 H2 σ2 e2 R2 G2 q2 => ?_
    refine eb S2 H2 h2 σ2 env2 _ R2 G2 ?_
    cases z : b env2 h2 with
    | ok f env3 h3 =>
      rw [z] at q2
      cases f with
      | nx => exact fun S3 H3 σ3 e3 R3 G3 => ⟨S3, h3, env3, (e1.trans e2).trans e3, R3, G3, PostS.ext q2 e3⟩
      | ct => exact fun S3 H3 σ3 e3 R3 G3 => ⟨S3, h3, env3, (e1.trans e2).trans e3, R3, G3, PostS.ext q2 e3⟩
      | bk => exact q2
      | rt d => exact q2
    | exc C xs env3 h3 => rw [z] at q2; exact q2
    | stuck => rw [z] at q2; exact q2
  · have hz : xs[i]? = none := List.getElem?_eq_none_iff.mpr (by omega)
    have hd : xs.drop i = [] := List.drop_eq_nil_iff.mpr (by omega)
    rw [hd] at q1
    exact .inl ⟨it1 hz, q1 S1 H1 σ1 (Ext.refl _ _) R1 G1⟩
theorem for_lv {g : MG} {tgt : TG} {tb : TS} (eg : ExG Γ K W tgt g) (eb : ExS Γ K W tb b) {J : It} {n : Nat} {σ : L2.St} {env : MEnv} {D : Ends} {N0 : Nat} (R : Rel Γ K S h H) (G : REnv Γ K S env σ) (it : ItLv Γ K J S n) (q : PostS Γ K S H D W (sForR g b n N0 0 env h)) :
    ∃ W' : Nat → Nat → L2.St → Hp → Prop, (∃ m, W' 0 m σ H) ∧ ∀ i m σ H, W' i m σ H →
      (J.stop i H ∧ D.nx σ H) ∨ (J.go i H ∧ ∃ N : L2.St → Hp → Prop, (∀ σ' H', N σ' H' → ∃ m', m' < m ∧ W' (i + 1) m' σ' H') ∧ ∀ x H', J.yld i H x H' → tgt x σ H' fun σ2 H2 => tb { D with nx := N, ct := N, bk := D.nx } σ2 H2) := by
  refine ⟨fun i m σ' H' => ∃ S' h' env', Ext S H S' H' ∧ Rel Γ K S' h' H' ∧ REnv Γ K S' env' σ' ∧ PostS Γ K S' H' D W (sForR g b n m i env' h'), ⟨N0, S, h, env, Ext.refl _ _, R, G, q⟩, ?_⟩
  rintro i m σ1 H1 ⟨S1, h1, env1, e1, R1, G1, q1⟩
  cases m with
  | zero => exact q1.elim
  | succ m =>
    unfold sForR at q1
    split at q1
    · rename_i xs hxs
      obtain ⟨it1, it2⟩ := it S1 h1 H1 i xs e1.hs e1.ix R1 hxs
      split at q1
      · rename_i hz
        exact .inl ⟨it1 hz, q1 S1 H1 σ1 (Ext.refl _ _) R1 G1⟩
      · rename_i x hx
        obtain ⟨go, yl⟩ := it2 _ hx
        refine .inr ⟨go, fun σ' H' => ∃ S' h' env', Ext S H S' H' ∧ Rel Γ K S' h' H' ∧ REnv Γ K S' env' σ' ∧ PostS Γ K S' H' D W (sForR g b n m (i + 1) env' h'), fun σ' H' w => ⟨m, Nat.lt_succ_self m, w⟩, fun v H' y => ?_⟩
        obtain ⟨rfl, rv⟩ := yl v H' y
        refine exGS (t := tgt) eg R1 G1 rv q1 fun env2 h2 S2 H2 σ2 e2 R2 G2 q2 => ?_
        refine eb S2 H2 h2 σ2 env2 _ R2 G2 ?_
        cases z : b env2 h2 with
        | ok f env3 h3 =>
          rw [z] at q2
          cases f with
          | nx => exact fun S3 H3 σ3 e3 R3 G3 => ⟨S3, h3, env3, (e1.trans e2).trans e3, R3, G3, PostS.ext q2 e3⟩
          | ct => exact fun S3 H3 σ3 e3 R3 G3 => ⟨S3, h3, env3, (e1.trans e2).trans e3, R3, G3, PostS.ext q2 e3⟩
          | bk => exact q2
          | rt d => exact q2
        | exc C xs env3 h3 => rw [z] at q2; exact q2
        | stuck => rw [z] at q2; exact q2
    · exact q1.elim
theorem ss_for {g : MG} {mi : MIt} (hp : PassesOwn (model X.prog X.w) X.A X.env X.xe) (hc : X.calm = true) (hi : SI Γ X W tg e mi) (hg : SG Γ X W tg g) (hb : SSs Γ X W sb b) (hs : ∀ x, foldedSetIterable e X.env x = pure x := by intro _; rfl) : SS Γ X W (.For tg e sb [] pos) (sFor mi g b) := by
  obtain ⟨wi, pi, ei⟩ := hi.ex
  obtain ⟨tgt, pg, eg⟩ := hg.ex
  obtain ⟨tb, pb, eb⟩ := hb.ex
  refine ⟨_, ps_for hp hc pi pg pb hs, fun S H h σ env D R G q => ?_⟩
  refine ei S H h σ env _ R G ?_
  unfold sFor at q
  cases z : mi env h with
  | ok iv h1 =>
    rw [z] at q
    cases iv with
    | st xs => exact fun S1 H1 J e1 R1 it => for_st eg eb R1 (G.mono e1) it (PostS.ext q e1)
    | lv n => exact fun S1 H1 J e1 R1 it => for_lv eg eb R1 (G.mono e1) it (PostS.ext q e1)
  | exc C xs h1 => rw [z] at q; exact fun S1 H1 dd e1 R1 x1 => q S1 H1 σ dd e1 R1 (G.mono e1) x1
  | stuck => rw [z] at q; exact q

/-! ### comprehensions -/
abbrev W0 : WX := fun _ _ _ _ => False
theorem post_nox {α β γ : Type} {R' : Sh → α → β → Prop} {f : α → MH → Out (List MV)} {x : Out α} {P : Out (List MV) → Prop} (hs : ¬ P .stuck) (hp : P (x.nox.bind f)) : ∃ a h, x = .ok a h ∧ P (f a h) := by
  cases x with
  | ok a h => exact ⟨a, h, rfl, hp⟩
  | exc C xs h => exact absurd hp hs
  | stuck => exact absurd hp hs
/-- what the walk of a comprehension keeps: D holds what is made so far, and is no cell of ours -/
structure AtD (Γ : Gm) (K : PySem.W.Frag) (D : Addr) (S1 : Sh) (H1 : Hp) (acc : List MV) (S : Sh) (h : MH) (H : Hp) : Prop where
  ext : Ext S1 H1 S H
  rel : Rel Γ K S h H
  at_ : ∃ us, H D = some (.lst us) ∧ RepL Γ K S acc us
  no : S.Hs D = none
  ni : D ∉ S.ι
theorem AtD.step {D : Addr} {S1 S' : Sh} {H1 H' : Hp} {acc : List MV} {h' : MH} (a : AtD Γ K D S1 H1 acc S h H) (e : Ext S H S' H') (R : Rel Γ K S' h' H') : AtD Γ K D S1 H1 acc S' h' H' := by
  obtain ⟨us, q1, q2⟩ := a.at_
  obtain ⟨f1, f2, f3⟩ := e.fr D _ q1 a.no a.ni
  exact ⟨a.ext.trans e, R, ⟨us, f1, q2.ext e⟩, f2, f3⟩
theorem Rel.other {D : Addr} {o : HO} (R : Rel Γ K S h H) (no : S.Hs D = none) (ni : D ∉ S.ι) : Rel Γ K S h (upd H D o) := by
  refine ⟨fun a u e => ?_, R.len, R.nd, fun a hm => ?_, fun n c a h1 h2 => ?_⟩
  · have na : a ≠ D := fun z => by rw [z, no] at e; cases e
    rw [upd_ne na]; exact R.sub a u e
  · have na : a ≠ D := fun z => ni (z ▸ hm)
    rw [upd_ne na]; exact R.trk a hm
  · have na : a ≠ D := fun z => ni (z ▸ List.mem_of_getElem? h2)
    exact (R.cell n c a h1 h2).mono (fun _ _ e => e) (fun _ _ e => e) (fun z => z) (fun u e => by rw [upd_ne na]; exact e)
theorem AtD.push {D : Addr} {S1 : Sh} {H1 : Hp} {acc : List MV} {y : MV} {v : V} (a : AtD Γ K D S1 H1 acc S h H) (hn : H1 D = none) (r : Rep Γ K S y v) : ∃ us, H D = some (.lst us) ∧ us.length = acc.length ∧ AtD Γ K D S1 H1 (acc ++ [y]) S h (upd H D (.lst (us ++ [v]))) := by
  obtain ⟨us, q1, q2⟩ := a.at_
  refine ⟨us, q1, (repL_len q2).symm, ⟨⟨a.ext.hs, a.ext.ix, fun b o h1 h2 h3 => ?_⟩, a.rel.other a.no a.ni, ⟨_, upd_same, repL_app q2 (repL_cons r repL_nil)⟩, a.no, a.ni⟩⟩
  obtain ⟨f1, f2, f3⟩ := a.ext.fr b o h1 h2 h3
  have nb : b ≠ D := fun z => by rw [z, hn] at h1; cases h1
  exact ⟨by rw [upd_ne nb]; exact f1, f2, f3⟩
theorem AtD.begin {D : Addr} (R : Rel Γ K S h H) (hn : H D = none) : AtD Γ K D S H [] S h (upd H D (.lst [])) := by
  have no : S.Hs D = none := by
    cases z : S.Hs D with
    | none => rfl
    | some o => rw [R.sub _ _ z] at hn; cases hn
  have ni : D ∉ S.ι := fun hm => by
    obtain ⟨o, e⟩ := R.trk D hm
    rw [hn] at e; cases e
  refine ⟨⟨fun _ _ e => e, fun _ _ e => e, fun b o h1 h2 h3 => ⟨?_, h2, h3⟩⟩, R.other no ni, ⟨[], upd_same, repL_nil⟩, no, ni⟩
  rw [upd_ne (ne_of_none h1 hn)]; exact h1
theorem AtD.end_ {D : Addr} {S1 : Sh} {H1 : Hp} {acc : List MV} {bb : Bool} {Q : VK} {E : XK} (a : AtD Γ K D S1 H1 acc S h H) (hn : H1 D = none) (p : Post Γ K (Rep Γ K) S1 H1 Q E (retL bb acc h)) : Q (.ref D) H := by
  obtain ⟨us, q1, q2⟩ := a.at_
  have R := a.rel
  have m1 : ∀ b u, S.Hs b = some u → upd S.Hs D (.lst us) b = some u := fun b u e => by
    have nb : b ≠ D := fun z => by rw [z, a.no] at e; cases e
    rw [upd_ne nb]; exact e
  cases bb with
  | false =>
    have e' : Ext S1 H1 ⟨upd S.Hs D (.lst us), S.ι⟩ H := ⟨fun b o e => m1 _ _ (a.ext.hs b o e), a.ext.ix, fun b o h1 h2 h3 => by
      obtain ⟨f1, f2, f3⟩ := a.ext.fr b o h1 h2 h3
      have nb : b ≠ D := fun z => by rw [z, hn] at h1; cases h1
      refine ⟨f1, ?_, f3⟩
      show upd S.Hs D (.lst us) b = none
      rw [upd_ne nb]; exact f2⟩
    refine p ⟨upd S.Hs D (.lst us), S.ι⟩ H (.ref D) e' ⟨fun b u e => ?_, R.len, R.nd, R.trk, fun n c b h1 h2 => ?_⟩ ?_
    · have e' : upd S.Hs D (.lst us) b = some u := e
      by_cases hb : b = D
      · subst hb; rw [upd_same] at e'; cases e'; exact q1
      · rw [upd_ne hb] at e'; exact R.sub _ _ e'
    · have nb : b ≠ D := fun z => a.ni (z ▸ List.mem_of_getElem? h2)
      refine (R.cell n c b h1 h2).mono m1 (fun _ _ e => e) (fun z => ?_) (fun u e => e)
      show upd S.Hs D (.lst us) b = none
      rw [upd_ne nb]; exact z
    · unfold Rep
      exact ⟨D, us, rfl, upd_same, repL_mono (S := S) (S' := ⟨upd S.Hs D (.lst us), S.ι⟩) m1 (fun _ _ e => e) _ _ q2⟩
  | true =>
    have m2 : ∀ (n : Nat) (b : Addr), S.ι[n]? = some b → (S.ι ++ [D])[n]? = some b := fun n b e => by
      rw [List.getElem?_append_left (List.getElem?_eq_some_iff.mp e).1]; exact e
    have e' : Ext S1 H1 ⟨S.Hs, S.ι ++ [D]⟩ H := ⟨a.ext.hs, fun n b e => m2 n b (a.ext.ix n b e), fun b o h1 h2 h3 => by
      obtain ⟨f1, f2, f3⟩ := a.ext.fr b o h1 h2 h3
      have nb : b ≠ D := fun z => by rw [z, hn] at h1; cases h1
      refine ⟨f1, f2, fun hm => ?_⟩
      rcases List.mem_append.mp (show b ∈ S.ι ++ [D] from hm) with hm | hm
      · exact f3 hm
      · exact nb (by simpa using hm)⟩
    refine p ⟨S.Hs, S.ι ++ [D]⟩ H (.ref D) e' ⟨R.sub, ?_, ?_, fun b hm => ?_, fun n c b h1 h2 => ?_⟩ ?_
    · show (S.ι ++ [D]).length = (h ++ [_]).length
      rw [List.length_append, List.length_append, R.len]; rfl
    · show (S.ι ++ [D]).Nodup
      rw [List.nodup_append]
      refine ⟨R.nd, by simp, fun b hb d hd => ?_⟩
      have : d = D := by simpa using hd
      subst this
      exact fun z => a.ni (z ▸ hb)
    · rcases List.mem_append.mp (show b ∈ S.ι ++ [D] from hm) with hm | hm
      · exact R.trk b hm
      · have : b = D := by simpa using hm
        subst this; exact ⟨_, q1⟩
    · have h2' : (S.ι ++ [D])[n]? = some b := h2
      by_cases hn' : n < h.length
      · rw [List.getElem?_append_left hn'] at h1
        rw [List.getElem?_append_left (by rw [R.len]; exact hn')] at h2'
        exact (R.cell n c b h1 h2').mono (S' := ⟨S.Hs, S.ι ++ [D]⟩) (fun _ _ e => e) m2 (fun z => z) (fun u e => e)
      · have hn'' : n = h.length := by
          have := (List.getElem?_eq_some_iff.mp h1).1
          rw [List.length_append] at this
          simp only [List.length_cons, List.length_nil] at this
          omega
        subst hn''
        rw [List.getElem?_append_right (Nat.le_refl _), Nat.sub_self] at h1
        rw [List.getElem?_append_right (by rw [R.len]; exact Nat.le_refl _), R.len, Nat.sub_self] at h2'
        simp only [List.getElem?_cons_zero, Option.some.injEq] at h1 h2'
        subst h1 h2'
        exact ⟨a.no, us, q1, repL_mono (S := S) (S' := ⟨S.Hs, S.ι ++ [D]⟩) (fun _ _ e => e) m2 _ _ q2⟩
    · unfold Rep
      exact ⟨D, by show (S.ι ++ [D])[h.length]? = some D; rw [← R.len]; simp, rfl⟩
/-- the weakest readings -/
def tOf (Γ : Gm) (K : PySem.W.Frag) (W : WX) (m : ME) : TE := fun σ H Q => ∃ S h env, Rel Γ K S h H ∧ REnv Γ K S env σ ∧ Post Γ K (Rep Γ K) S H Q (WE' W σ) (m env h)
def tOfT (Γ : Gm) (K : PySem.W.Frag) (W : WX) (m : MT) : TT := fun σ H Q => ∃ S h env, Rel Γ K S h H ∧ REnv Γ K S env σ ∧ Post Γ K (fun _ (a b : Bool) => b = a) S H Q (WE' W σ) (m env h)
theorem SE.of (h : SE Γ X W e me) : PE X e (tOf Γ X.K W me) := by
  obtain ⟨t, pt, et⟩ := h.ex
  exact ⟨fun pins s σ H Q I ⟨S, h, env, R, G, p⟩ => pt.run pins s σ H Q I (et S H h σ env Q R G p)⟩
theorem ST.of (h : ST Γ X W e mt) : PT X e (tOfT Γ X.K W mt) := by
  obtain ⟨t, pt, et⟩ := h.ex
  exact ⟨fun pins s σ H Q I ⟨S, h, env, R, G, p⟩ => pt.run pins s σ H Q I (et S H h σ env Q R G p)⟩
theorem exE_tOf {m : ME} : ExE Γ K W (tOf Γ K W m) m := fun S H h σ env Q R G p => ⟨S, h, env, R, G, p⟩
theorem exT_tOf {m : MT} : ExT Γ K W (tOfT Γ K W m) m := fun S H h σ env Q R G p => ⟨S, h, env, R, G, p⟩
/-- a target that stores into the slots vs alone -/
def TgW (tgt : TG) (vs : List Nat) : Prop := ∀ v (σ0 σ : L2.St) H Q, L2.wipe σ vs = L2.wipe σ0 vs → tgt v σ H Q → tgt v σ H (fun σ2 H2 => L2.wipe σ2 vs = L2.wipe σ0 vs ∧ Q σ2 H2)
theorem wipe_set {x : Option V} : ∀ {vs : List Nat} {i : Nat} {σ : L2.St}, i ∈ vs → L2.wipe (σ.set i x) vs = L2.wipe σ vs
  | v :: vs, i, σ, h => by
    unfold L2.wipe
    by_cases hi : i ∈ vs
    · rw [wipe_set hi]
    · have e : i = v := (List.mem_cons.mp h).resolve_right hi
      subst e
      have gen : ∀ {vs : List Nat} {σ : L2.St}, i ∉ vs → L2.wipe (σ.set i x) vs = (L2.wipe σ vs).set i x := by
        intro vs
        induction vs with
        | nil => intro σ _; rfl
        | cons w vs ih =>
          intro σ hn
          unfold L2.wipe
          rw [ih (fun z => hn (List.mem_cons_of_mem _ z)), List.set_comm _ _ (fun z => hn (by rw [z]; exact List.mem_cons_self))]
      rw [gen hi, List.set_set]
theorem wipe_wipe : ∀ {vs ws : List Nat} {σ : L2.St}, (∀ v ∈ ws, v ∈ vs) → L2.wipe (L2.wipe σ ws) vs = L2.wipe σ vs
  | vs, [], σ, _ => rfl
  | vs, w :: ws, σ, h => by
    show L2.wipe ((L2.wipe σ ws).set w none) vs = _
    rw [wipe_set (h w List.mem_cons_self), wipe_wipe (fun v hv => h v (List.mem_cons_of_mem _ hv))]
theorem tgw_name {i : Nat} {vs : List Nat} (hi : i ∈ vs) : TgW (gName i) vs := fun v σ0 σ H Q h q => ⟨(wipe_set hi).trans h, q⟩
def gNames : List Nat → TGs
  | [] => gNil
  | i :: is => gCons (gName i) (gNames is)
theorem tgs_names : ∀ {is vs : List Nat}, (∀ i ∈ is, i ∈ vs) → ∀ us (σ0 σ : L2.St) H Q, L2.wipe σ vs = L2.wipe σ0 vs → gNames is us σ H Q → gNames is us σ H (fun σ2 H2 => L2.wipe σ2 vs = L2.wipe σ0 vs ∧ Q σ2 H2)
  | [], vs, _, us, σ0, σ, H, Q, e, ⟨q1, q2⟩ => ⟨q1, e, q2⟩
  | i :: is, vs, h, us, σ0, σ, H, Q, e, ⟨v, r, q1, q2⟩ => ⟨v, r, q1, tgs_names (fun j hj => h j (List.mem_cons_of_mem _ hj)) r σ0 _ H Q ((wipe_set (h i List.mem_cons_self)).trans e) q2⟩
theorem tgw_tup {is vs : List Nat} {n : Nat} (h : ∀ i ∈ is, i ∈ vs) : TgW (L2.gTup K n (gNames is)) vs := fun v σ0 σ H Q e ⟨a, xs, q1, q2, q3, q4⟩ => ⟨a, xs, q1, q2, q3, tgs_names h xs σ0 σ H Q e q4⟩
theorem exg_name {i : Nat} : ExG Γ K W (gName i) (gNm i) := fun S H h σ env d v Q R G r p => p S H _ (Ext.refl _ _) R (G.set r i)
theorem exgs_names : ∀ {is : List Nat} S H h σ env ds vs Q, Rel Γ K S h H → REnv Γ K S env σ → RepL Γ K S ds vs → PostG Γ K S H Q W σ (gTp (is.map gNm) ds env h) → gNames is vs σ H Q
  | [], S, H, h, σ, env, ds, vs, Q, R, G, r, p => by
    cases ds with
    | nil => exact ⟨by unfold RepL at r; exact r, p S H σ (Ext.refl _ _) R G⟩
    | cons d ds => exact p.elim
  | i :: is, S, H, h, σ, env, ds, vs, Q, R, G, r, p => by
    cases ds with
    | nil => exact p.elim
    | cons d ds =>
      unfold RepL at r
      obtain ⟨v, vr, rfl, r1, r2⟩ := r
      refine ⟨v, vr, rfl, exgs_names S H h _ (env.set i (some d)) ds vr Q R (G.set r1 i) r2 ?_⟩
      have p' : PostG Γ K S H Q W σ (gTp (is.map gNm) ds (env.set i (some d)) h) := p
      rcases gTp_nox (is.map gNm) ds (env.set i (some d)) h with ⟨env2, h2, y⟩ | y
      · rw [y] at p' ⊢; exact p'
      · rw [y] at p'; exact p'.elim
theorem gtp_len {W : WX} {Q : L2.St → Hp → Prop} {S : Sh} {H : Hp} {σ : L2.St} : ∀ {gs : List MG} {ds : List MV} {env : MEnv} {h : MH}, PostG Γ K S H Q W σ (gTp gs ds env h) → ds.length = gs.length
  | [], [], _, _, _ => rfl
  | [], _ :: _, _, _, p => p.elim
  | _ :: _, [], _, _, p => p.elim
  | g :: gs, d :: ds, env, h, p => by
    unfold gTp at p
    cases z : g d env h with
    | ok env1 h1 =>
      rw [z] at p
      have p' : PostG Γ K S H Q W σ (gTp gs ds env1 h1) := p
      rw [List.length_cons, List.length_cons, gtp_len p']
    | exc C xs h1 => rw [z] at p; exact p.elim
    | stuck => rw [z] at p; exact p.elim
theorem exg_tup {is : List Nat} {n : Nat} (hn : is.length = n) : ExG Γ K W (L2.gTup K n (gNames is)) (gTup (is.map gNm)) := by
  intro S H h σ env d v Q R G r p
  unfold gTup at p
  split at p
  · rename_i xs
    obtain ⟨a, us, rfl, q2, q3⟩ := tup_ok R r
    exact ⟨a, us, rfl, q2, by rw [← repL_len q3, gtp_len p, List.length_map, hn], exgs_names S H h σ env xs us Q R G q3 p⟩
  · exact p.elim

/-- one turn -/
theorem comp_turn {tgt : TG} {g : MG} {mtt : MT} {mee : ME} {vs : List Nat} (eg : ExG Γ K W0 tgt g) (hw : TgW tgt vs) {D : Addr} {S1 : Sh} {H1 : Hp} {acc : List MV} {x : MV} {v : V} {σ : L2.St} {env : MEnv}
    (hn : H1 D = none) (a : AtD Γ K D S1 H1 acc S h H) (G : REnv Γ K S env σ) (rv : Rep Γ K S x v) {Nx : Hp → Prop}
    {acc1 : List MV} {h1 : MH} (hc : compT g mtt mee x acc (wipeM env vs) h = .ok acc1 h1) (hk : ∀ S' H', AtD Γ K D S1 H1 acc1 S' h1 H' → Ext S H S' H' ∨ True → (∀ env' σ', REnv Γ K S env' σ' → REnv Γ K S' env' σ') → Nx H') :
    tgt v (L2.wipe σ vs) H fun σ2 H2 => L2.wipe σ2 vs = L2.wipe σ vs ∧ tOfT Γ K W0 mtt σ2 H2 fun b H3 => if b = true then tOf Γ K W0 mee σ2 H3 fun y H4 => ∃ acc, H4 D = some (.lst acc) ∧ acc.length < sizeLine ∧ Nx (upd H4 D (.lst (acc ++ [y]))) else Nx H3 := by
  unfold compT at hc
  refine hw v σ (L2.wipe σ vs) H _ (wipe_wipe fun _ hv => hv) ?_
  cases z1 : g x (wipeM env vs) h with
  | exc C xs h2 => rw [z1] at hc; cases hc
  | stuck => rw [z1] at hc; cases hc
  | ok env2 h2 =>
    rw [z1] at hc
    refine eg S H h _ _ x v _ a.rel (G.wipe vs) rv ?_
    rw [z1]
    intro S2 H2 σ2 e2 R2 G2
    have a2 := a.step e2 R2
    cases z2 : mtt env2 h2 with
    | exc C xs h2 => simp only [z2, Out.nox, Out.bind] at hc; cases hc
    | stuck => simp only [z2, Out.nox, Out.bind] at hc; cases hc
    | ok bb h3 =>
      simp only [z2, Out.nox, Out.bind] at hc
      refine ⟨S2, h2, env2, R2, G2, ?_⟩
      rw [z2]
      intro S3 H3 b' e3 R3 eb'
      have eb'' : b' = bb := eb'
      subst eb''
      have a3 := a2.step e3 R3
      cases b' with
      | false =>
        rw [if_neg Bool.false_ne_true] at hc ⊢
        cases hc
        exact hk S3 H3 a3 (.inr trivial) fun env' σ' g => (g.mono e2).mono e3
      | true =>
        rw [if_pos rfl] at hc ⊢
        cases z3 : mee env2 h3 with
        | exc C xs h2 => simp only [z3] at hc; cases hc
        | stuck => simp only [z3] at hc; cases hc
        | ok y h4 =>
          simp only [z3] at hc
          split at hc
          · rename_i hlen
            cases hc
            refine ⟨S3, h3, env2, R3, G2.mono e3, ?_⟩
            rw [z3]
            intro S4 H4 w e4 R4 r4
            obtain ⟨us, q1, q2, q3⟩ := (a3.step e4 R4).push hn r4
            exact ⟨us, q1, by rw [q2]; exact hlen, hk S4 _ q3 (.inr trivial) fun env' σ' g => ((g.mono e2).mono e3).mono e4⟩
          · cases hc
theorem bind_ok {α β γ δ : Type} {R' : Sh → α → β → Prop} {Q : β → Hp → Prop} {E : XK} {x : Out γ} {f : γ → MH → Out α} (hx : ∀ C xs h, x ≠ .exc C xs h) (p : Post Γ K R' S H Q E (x.bind f)) : ∃ a h', x = .ok a h' ∧ Post Γ K R' S H Q E (f a h') := by
  cases x with
  | ok a h => exact ⟨a, h, rfl, p⟩
  | exc C xs h => exact absurd rfl (hx C xs h)
  | stuck => exact p.elim
theorem compT_noexc {g : MG} {t : MT} {e : ME} {x : MV} {acc : List MV} {env : MEnv} {h : MH} : ∀ C xs h', compT g t e x acc env h ≠ .exc C xs h' := by
  intro C xs h' q
  unfold compT at q
  cases z1 : g x env h with
  | exc _ _ _ => rw [z1] at q; cases q
  | stuck => rw [z1] at q; cases q
  | ok env2 h2 =>
    rw [z1] at q
    cases z2 : t env2 h2 with
    | exc _ _ _ => simp only [z2, Out.nox, Out.bind] at q; cases q
    | stuck => simp only [z2, Out.nox, Out.bind] at q; cases q
    | ok bb h3 =>
      simp only [z2, Out.nox, Out.bind] at q
      split at q
      · cases z3 : e env2 h3 with
        | exc _ _ _ => simp only [z3] at q; cases q
        | stuck => simp only [z3] at q; cases q
        | ok y h4 =>
          simp only [z3] at q
          split at q <;> cases q
      · cases q
theorem compL_noexc {g : MG} {t : MT} {e : ME} {env : MEnv} : ∀ (ys : List MV) {acc : List MV} {h : MH} (C xs h'), compL g t e env ys acc h ≠ .exc C xs h'
  | [], _, _, _, _, _, q => by unfold compL at q; cases q
  | y :: ys, acc, h, C, xs, h', q => by
    unfold compL at q
    cases z : compT g t e y acc env h with
    | exc _ _ _ => exact compT_noexc _ _ _ z
    | stuck => rw [z] at q; cases q
    | ok a h1 => rw [z] at q; exact compL_noexc ys _ _ _ q
theorem compR_noexc {g : MG} {t : MT} {e : ME} {env : MEnv} {n : Nat} : ∀ (f i : Nat) {acc : List MV} {h : MH} (C xs h'), compR g t e env n f i acc h ≠ .exc C xs h'
  | 0, _, _, _, _, _, _, q => by unfold compR at q; cases q
  | f + 1, i, acc, h, C, xs, h', q => by
    unfold compR at q
    split at q
    · split at q
      · cases q
      · rename_i y hy
        cases z : compT g t e y acc env h with
        | exc _ _ _ => exact compT_noexc _ _ _ z
        | stuck => rw [z] at q; cases q
        | ok a h1 => rw [z] at q; exact compR_noexc f (i + 1) _ _ _ q
    · cases q
/-- the reading of a comprehension -/
theorem ex_comp {bb : Bool} {wi : TI} {mi : MIt} {tgt : TG} {g : MG} {mtt : MT} {mee : ME} {vs : List Nat} (ei : ExI Γ K W wi mi) (eg : ExG Γ K W0 tgt g) (hw : TgW tgt vs) : ExE Γ K W (tLc wi tgt (tOfT Γ K W0 mtt) (tOf Γ K W0 mee) vs) (mComp bb mi g mtt mee vs) := by
  intro S H h σ env Q R G p
  refine ei S H h σ env _ R G ?_
  unfold mComp at p
  cases z : mi env h with
  | exc C xs h1 => rw [z] at p; exact p
  | stuck => rw [z] at p; exact p
  | ok iv h1 =>
    rw [z] at p
    cases iv with
    | st xs =>
      intro S1 H1 J e1 R1 it D hn
      have G1 := G.mono e1
      have p1 : Post Γ K (Rep Γ K) S1 H1 Q (WE' W σ) ((compL g mtt mee (wipeM env vs) xs [] h1).bind fun ys h => retL bb ys h) := Post.ext p e1
      clear p
      refine ⟨fun i m H' => m = xs.length - i ∧ i ≤ xs.length ∧ ∃ S' h' acc, AtD Γ K D S1 H1 acc S' h' H' ∧ REnv Γ K S' env σ ∧ Post Γ K (Rep Γ K) S1 H1 Q (WE' W σ) ((compL g mtt mee (wipeM env vs) (xs.drop i) acc h').bind fun ys h => retL bb ys h), ⟨xs.length, by simp, Nat.zero_le _, S1, h1, [], AtD.begin R1 hn, G1, p1⟩, ?_⟩
      rintro i m H2 ⟨rfl, hi, S2, h2, acc, a2, G2, p2⟩
      obtain ⟨it1, it2⟩ := it S2 h2 H2 i a2.ext.hs a2.ext.ix a2.rel
      by_cases hlt : i < xs.length
      · have hx : xs[i]? = some xs[i] := List.getElem?_eq_getElem hlt
        obtain ⟨go, yl⟩ := it2 _ hx
        rw [List.drop_eq_getElem_cons hlt] at p2
        unfold compL at p2
        cases zc : compT g mtt mee xs[i] acc (wipeM env vs) h2 with
        | exc C ys h3 => exact absurd zc (compT_noexc _ _ _)
        | stuck => rw [zc] at p2; exact p2.elim
        | ok acc3 h3 =>
          rw [zc] at p2
          refine .inr ⟨go, fun H' => ∃ S' h' acc, AtD Γ K D S1 H1 acc S' h' H' ∧ REnv Γ K S' env σ ∧ Post Γ K (Rep Γ K) S1 H1 Q (WE' W σ) ((compL g mtt mee (wipeM env vs) (xs.drop (i + 1)) acc h').bind fun ys h => retL bb ys h), fun H' w => ⟨xs.length - (i + 1), by omega, rfl, hlt, w⟩, fun v H' y => ?_⟩
          obtain ⟨rfl, rv⟩ := yl v H' y
          exact comp_turn eg hw hn a2 G2 rv zc fun S' H' a' _ mono => ⟨S', h3, acc3, a', mono _ _ G2, p2⟩
      · have hz : xs[i]? = none := List.getElem?_eq_none_iff.mpr (by omega)
        have hd : xs.drop i = [] := List.drop_eq_nil_iff.mpr (by omega)
        rw [hd] at p2
        exact .inl ⟨it1 hz, a2.end_ hn p2⟩
    | lv n =>
      intro S1 H1 J e1 R1 it D hn
      have G1 := G.mono e1
      have p1 : Post Γ K (Rep Γ K) S1 H1 Q (WE' W σ) ((compR g mtt mee (wipeM env vs) n big 0 [] h1).bind fun ys h => retL bb ys h) := Post.ext p e1
      clear p
      refine ⟨fun i m H' => ∃ S' h' acc, AtD Γ K D S1 H1 acc S' h' H' ∧ REnv Γ K S' env σ ∧ Post Γ K (Rep Γ K) S1 H1 Q (WE' W σ) ((compR g mtt mee (wipeM env vs) n m i acc h').bind fun ys h => retL bb ys h), ⟨big, S1, h1, [], AtD.begin R1 hn, G1, p1⟩, ?_⟩
      rintro i m H2 ⟨S2, h2, acc, a2, G2, p2⟩
      cases m with
      | zero => exact p2.elim
      | succ m =>
        unfold compR at p2
        split at p2
        · rename_i xs hxs
          obtain ⟨it1, it2⟩ := it S2 h2 H2 i xs a2.ext.hs a2.ext.ix a2.rel hxs
          split at p2
          · rename_i hz
            exact .inl ⟨it1 hz, a2.end_ hn p2⟩
          · rename_i x hx
            obtain ⟨go, yl⟩ := it2 _ hx
            cases zc : compT g mtt mee x acc (wipeM env vs) h2 with
            | exc C ys h3 => exact absurd zc (compT_noexc _ _ _)
            | stuck => rw [zc] at p2; exact p2.elim
            | ok acc3 h3 =>
              rw [zc] at p2
              refine .inr ⟨go, fun H' => ∃ S' h' acc, AtD Γ K D S1 H1 acc S' h' H' ∧ REnv Γ K S' env σ ∧ Post Γ K (Rep Γ K) S1 H1 Q (WE' W σ) ((compR g mtt mee (wipeM env vs) n m (i + 1) acc h').bind fun ys h => retL bb ys h), fun H' w => ⟨m, Nat.lt_succ_self m, w⟩, fun v H' y => ?_⟩
              obtain ⟨rfl, rv⟩ := yl v H' y
              exact comp_turn eg hw hn a2 G2 rv zc fun S' H' a' _ mono => ⟨S', h3, acc3, a', mono _ _ G2, p2⟩
        · exact p2.elim
/-- what a comprehension's target is -/
inductive TgOk (K : PySem.W.Frag) (X : Cx) (scope : Scope) (vs : List Nat) (tg : Expr) : TG → MG → Prop
  | nm {i : Nat} (hi : i ∈ vs) (hp : ∀ (s : Shared) (H : Hp) (C : Addr) (cl : List (Str × Addr)) (fp : List Addr), PG (X.blk s H scope (compEnvC scope cl C X.env) fp) tg (gName i)) : TgOk K X scope vs tg (gName i) (gNm i)
  | tp {is : List Nat} {n : Nat} (hi : ∀ i ∈ is, i ∈ vs) (hn : is.length = n) (hp : ∀ (s : Shared) (H : Hp) (C : Addr) (cl : List (Str × Addr)) (fp : List Addr), PG (X.blk s H scope (compEnvC scope cl C X.env) fp) tg (L2.gTup K n (gNames is))) : TgOk K X scope vs tg (L2.gTup K n (gNames is)) (gTup (is.map gNm))
variable {elt iter : Expr} {ifs : List Expr} {scope : Scope} {own : List (Str × Nat)} {mi : MIt} {mee : ME} {mtt : MT} {g : MG} {tgt : TG}
/-- a clause's tests: none, or one -/
structure STs (Γ : Gm) (X : Cx) (W : WX) (es : List Expr) (m : MT) : Prop where
  run : PTs X es (tOfT Γ X.K W m)
theorem sts_nil : STs Γ X W [] tYesM := ⟨⟨fun pins s σ H Q I ⟨S, h, env, R, G, p⟩ => pts_nil.run pins s σ H Q I (p S H true (Ext.refl _ _) R rfl)⟩⟩
theorem sts_one (h : ST Γ X W c mt) : STs Γ X W [c] mt := ⟨pts_one h.of⟩
theorem se_comp (bb : Bool) (hc : X.calm = true) (hN : X.N.Nodup) (hi : SI Γ X W tg iter mi) (ok : BlkOk X.N X.env.scope scope own) (hg : TgOk X.K X scope (own.map (·.2)) tg tgt g)
    (ht : ∀ (s : Shared) (H : Hp) (C : Addr) (cl : List (Str × Addr)) (fp : List Addr), STs Γ (X.blk s H scope (compEnvC scope cl C X.env) fp) W0 ifs mtt)
    (he : ∀ (s : Shared) (H : Hp) (C : Addr) (cl : List (Str × Addr)) (fp : List Addr), SE Γ (X.blk s H scope (compEnvC scope cl C X.env) fp) W0 elt mee)
    (hs : ∀ x, foldedSetIterable iter X.env x = pure x := by intro _; rfl) : SE Γ X W (.ListComp elt [⟨tg, iter, ifs, 0⟩] scope pos) (mComp bb mi g mtt mee (own.map (·.2))) := by
  obtain ⟨wi, pi, ei⟩ := hi.ex
  cases hg with
  | nm h1 h2 => exact ⟨_, pe_lc hc hN pi ok h2 (fun s H C cl fp => (ht s H C cl fp).run) (fun s H C cl fp => (he s H C cl fp).of) hs, ex_comp ei exg_name (tgw_name h1)⟩
  | tp h1 hn h2 => exact ⟨_, pe_lc hc hN pi ok h2 (fun s H C cl fp => (ht s H C cl fp).run) (fun s H C cl fp => (he s H C cl fp).of) hs, ex_comp ei (exg_tup hn) (tgw_tup h1)⟩
theorem ss_setLc (bb : Bool) (i : Nat) {y : Str} {py spos : Pos} (hc : X.calm = true) (hN : X.N.Nodup) (hsw : swapsWith (.ListComp elt [⟨tg, iter, ifs, 0⟩] scope pos) (some (.Name y py)) spos.line X.env = pure true) (hi : SI Γ X W tg iter mi) (ok : BlkOk X.N X.env.scope scope own) (hg : TgOk X.K X scope (own.map (·.2)) tg tgt g)
    (ht : ∀ (s : Shared) (H : Hp) (C : Addr) (cl : List (Str × Addr)) (fp : List Addr), STs Γ (X.blk s H scope (compEnvC scope cl C X.env) fp) W0 ifs mtt)
    (he : ∀ (s : Shared) (H : Hp) (C : Addr) (cl : List (Str × Addr)) (fp : List Addr), SE Γ (X.blk s H scope (compEnvC scope cl C X.env) fp) W0 elt mee)
    (hy : X.N[i]? = some y := by rfl) (hl : X.env.scope.names.lookup y = some .local := by rfl)
    (hs : ∀ x, foldedSetIterable iter X.env x = pure x := by intro _; rfl) : SS Γ X W (.Assign [.Name y py] (.ListComp elt [⟨tg, iter, ifs, 0⟩] scope pos) spos) (sSet i (mComp bb mi g mtt mee (own.map (·.2)))) := by
  obtain ⟨wi, pi, ei⟩ := hi.ex
  have fin : ∀ {t : TE}, ExE Γ X.K W t (mComp bb mi g mtt mee (own.map (·.2))) → ExS Γ X.K W (tAsg t (gName i)) (sSet i (mComp bb mi g mtt mee (own.map (·.2)))) := fun {t} et S H h σ env D R G p => exES (t := t) et R G p fun d h1 S1 H1 v e1 R1 G1 r1 p1 => p1 S1 H1 _ (Ext.refl _ _) R1 (G1.set r1 i)
  cases hg with
  | nm h1 h2 => exact ⟨_, ps_setLc hc hN hy hl hsw pi ok h2 (fun s H C cl fp => (ht s H C cl fp).run) (fun s H C cl fp => (he s H C cl fp).of) hs, fin (ex_comp ei exg_name (tgw_name h1))⟩
  | tp h1 hn h2 => exact ⟨_, ps_setLc hc hN hy hl hsw pi ok h2 (fun s H C cl fp => (ht s H C cl fp).run) (fun s H C cl fp => (he s H C cl fp).of) hs, fin (ex_comp ei (exg_tup hn) (tgw_tup h1))⟩
end
end Mn
/-! ## MnF -/
set_option Elab.async false
set_option linter.all false
set_option maxRecDepth 100000
/-! Mn, part F: defs, their calls; raise, try. -/
namespace Mn
open PySem PySem.Spec PyProof.Rows L2

/-! ### defs -/
def spM (Γ : Gm) (K : PySem.W.Frag) (n : Nat) (f : MF) : Sp := fun vs H Q E => vs.length = n ∧ ∃ S h ds, Rel Γ K S h H ∧ RepL Γ K S ds vs ∧ Post Γ K (Rep Γ K) S H Q E (f ds h)
@[reducible] def OutS.out : OutS → Out MV
  | .ok (.rt d) _ h => .ok d h
  | .ok .nx _ h => .ok .non h
  | .exc C xs _ h => .exc C xs h
  | _ => .stuck
/-- a def's body run; N: how many names it has -/
def runF (N : Nat) (m : MS) : MF := fun ds h => (m (ds.map some ++ List.replicate (N - ds.length) none) h).out
section
variable {P : Program} {w : World} {K : PySem.W.Frag} {mg : Str → Option Value} {base : Heap} {Γ : Gm}
theorem start_env {S : Sh} {N : List Str} : ∀ {ds : List MV} {vs : List V}, RepL Γ K S ds vs → ∀ n, REnv Γ K S (ds.map some ++ List.replicate n none) (vs.map some ++ List.replicate n none)
  | [], vs, r, n => by
    unfold RepL at r; subst r
    refine ⟨by simp, fun i d e => ?_⟩
    have e' : (List.replicate n (none : Option MV))[i]? = some (some d) := e
    rw [List.getElem?_replicate] at e'
    split at e' <;> cases e'
  | d :: ds, vs, r, n => by
    unfold RepL at r
    obtain ⟨v, vr, rfl, r1, r2⟩ := r
    obtain ⟨h1, h2⟩ := start_env (N := N) r2 n
    refine ⟨by simpa using h1, fun i d' e => ?_⟩
    cases i with
    | zero =>
      have e' : some (some d) = some (some d') := e
      cases e'
      exact ⟨v, rfl, r1⟩
    | succ i => exact h2 i d' e
theorem fn_ok {x qual : Str} {st : Stmt} {f : Addr} {fd : FuncData} {N ps : List Str} {k : Nat} {m : MS} (F : Fun K x qual st f fd) (S : FnScope N ps (defScope st))
    (hb : ∀ (cdv : Value) (A : Around) (outer : List Env) (s : Shared) (H : Hp) (E : XK), Room k (A.deeper (envOfC qual (defScope st) s.heap.objs.size f cdv)) →
      SSs Γ (cxOf (L2.CX P w) P w K mg base N qual (defScope st) f cdv A outer s H E) (fun c d _ H => E c d H) (defBody st) m) :
    FnOk P w K mg base (L2.CX P w) (k + 1) f fd ps (spM Γ K ps.length (runF N.length m)) := by
  refine F.okX S (fun vs H Q E h => h.1) (fun cdv A outer s H vs Q E hr hsp => ?_)
  obtain ⟨hl, Sh, h, ds, R, r, p⟩ := hsp
  obtain ⟨t, pt, et⟩ := (hb cdv A outer s H E hr).ex
  refine ⟨t, pt, et Sh H h (L2.start N vs) (ds.map some ++ List.replicate (N.length - ds.length) none) _ R ?_ ?_⟩
  · have := start_env (N := N) r (N.length - ds.length)
    unfold L2.start
    rw [repL_len r] at this ⊢
    exact this
  · unfold runF at p
    cases z : m (ds.map some ++ List.replicate (N.length - ds.length) none) h with
    | ok fl env h1 =>
      rw [z] at p
      cases fl with
      | nx => exact fun S' H' σ' e R' G' => p S' H' .non e R' is_non
      | rt d => exact fun S' H' v e R' rv => p S' H' v e R' rv
      | bk => exact p.elim
      | ct => exact p.elim
    | exc C xs env h1 =>
      rw [z] at p
      exact fun S' H' σ' dd e R' G' x => p S' H' dd e R' x
    | stuck => rw [z] at p; exact p.elim
variable {X : Cx} {W : WX} {e : Expr} {es : List Expr} {ms : MA} {me : ME} {pos p apos : Pos} {fd : FuncData} {ps : List Str} {k : Nat} {f C : Addr} {x m : Str}
/-- the promise for a call, from the mirror -/
theorem sp_of {n : Nat} {g : MF} {S : Sh} {H : Hp} {h : MH} {ds : List MV} {vs : List V} {Q : VK} {E : XK} (R : Rel Γ K S h H) (r : RepL Γ K S ds vs) (hn : ds.length = n) (p : Post Γ K (Rep Γ K) S H Q E (g ds h)) : spM Γ K n g vs H Q E := ⟨by rw [← repL_len r]; exact hn, S, h, ds, R, r, p⟩
def mCall (n : Nat) (g : MF) (a : MA) : ME := fun env h => (a env h).bind fun ds h => if ds.length = n then g ds h else .stuck
theorem se_call {n : Nat} {g : MF} (F : FnOk X.prog X.w X.K X.mg X.base (L2.CX X.prog X.w) k f fd ps (spM Γ X.K n g)) (hr : Room k X.A) (hm : X.mg x = some (.ref f)) (hk : PySem.W.keepIn X.K (.ref f) = true) (hb : Binds X.K fd ps []) (tk : Takes X W)
    (ha : SA Γ X W (e :: es) ms) (hg : Gl X x := by rfl) (hdb : (x == ("__debug__" : Str)) = false := by decide) (he : starEach (e :: es) X.env = (false, eval e X.env) :: starEach es X.env := by rfl) (hpl : (backTo pos (starEach es X.env)).any (·.1) = false := by rfl) :
    SE Γ X W (.Call (.Name x p) (e :: es) [] pos) (mCall n g ms) := by
  obtain ⟨t, pt, et⟩ := ha.ex
  refine ⟨_, pe_callSD (E := WE W) F hr hg hm hk hb .nil (fun σ => passAt tk σ) pt hdb he hpl, fun S H h σ env Q R G p => exA_bind (t := t) et R G p fun ds h1 S1 H1 vs e1 R1 G1 r1 p1 => ?_⟩
  split at p1
  · rename_i hn
    rw [List.append_nil]
    exact sp_of R1 r1 hn p1
  · exact p1.elim
/-- .. with defaults: dvs, of the values ds -/
theorem se_callD {n : Nat} {g : MF} {dvs : List V} {ds : List Value} {dms : List MV} (F : FnOk X.prog X.w X.K X.mg X.base (L2.CX X.prog X.w) k f fd ps (spM Γ X.K n g)) (hr : Room k X.A) (hm : X.mg x = some (.ref f)) (hk : PySem.W.keepIn X.K (.ref f) = true) (hb : Binds X.K fd ps ds) (hd : Vals dvs ds) (hdm : ∀ S, RepL Γ X.K S dms dvs) (tk : Takes X W)
    (ha : SA Γ X W (e :: es) ms) (hg : Gl X x := by rfl) (hdb : (x == ("__debug__" : Str)) = false := by decide) (he : starEach (e :: es) X.env = (false, eval e X.env) :: starEach es X.env := by rfl) (hpl : (backTo pos (starEach es X.env)).any (·.1) = false := by rfl) :
    SE Γ X W (.Call (.Name x p) (e :: es) [] pos) (mCall n g fun env h => (ms env h).bind fun xs h => .ok (xs ++ dms) h) := by
  obtain ⟨t, pt, et⟩ := ha.ex
  refine ⟨_, pe_callSD (E := WE W) F hr hg hm hk hb hd (fun σ => passAt tk σ) pt hdb he hpl, fun S H h σ env Q R G p => ?_⟩
  have p' : Post Γ X.K (Rep Γ X.K) S H Q (WE' W σ) ((ms env h).bind fun xs h => if (xs ++ dms).length = n then g (xs ++ dms) h else .stuck) := by
    unfold mCall at p
    dsimp only at p
    cases z : ms env h with
    | ok a h1 => rw [z] at p; exact p
    | exc C xs h1 => rw [z] at p; exact p
    | stuck => rw [z] at p; exact p
  refine exA_bind (t := t) et R G p' fun ds' h1 S1 H1 vs e1 R1 G1 r1 p1 => ?_
  split at p1
  · rename_i hn
    exact sp_of R1 (repL_app r1 (hdm S1)) hn p1
  · exact p1.elim
end

/-! ### raise -/
def sRaise (C : Str) : MS := fun env h => .exc C [] env h
section
variable {Γ : Gm} {X : Cx} {W : WX}
theorem ss_raise {x m : Str} {j : Nat} {p p2 pos pos' : Pos} {bmB : List Value} {B newId initId : String} (hc : X.calm = true) (tk : Takes X W) (F : ExcBaseFacts B newId initId bmB) (q : PySem.W.excIn X.K (Γ.cls x) bmB newId = true) (gC : X.mg x = some (.ref (Γ.cls x))) (kC : PySem.W.keepIn X.K (.ref (Γ.cls x)) = true) (r : Raises X (.ref (Γ.cls x)))
    (hg : Gl X x := by rfl) (hdb : (x == ("__debug__" : Str)) = false := by decide) : SS Γ X W (.Raise (some (.Call (.Name x p) [.Constant (.str m) j p2] [] pos)) none pos') (sRaise x) :=
  ⟨_, ps_raise hc tk (pmk_own F q gC kC r hg hdb), fun S H h σ env D R G p => p S H σ none (Ext.refl _ _) R G rfl⟩
end

/-! ### try -/
/-- what the clauses wish of an exception of the body, one after the other; sl: the slot of 'as' -/
def wGen (K : PySem.W.Frag) (Wout : WX) (D : Ends) : List (Value × Option Nat × (Addr → Value → Option Addr → TS)) → WX
  | [] => Wout
  | (c, none, ts) :: r => fun cls d σ H => ∃ b, PySem.W.exmOne K cls c = some b ∧ (b = true → ∀ a, H a = none → ts a cls d D σ H) ∧ (b = false → wGen K Wout D r cls d σ H)
  | (c, some i, ts) :: r => fun cls d σ H => ∃ b, PySem.W.exmOne K cls c = some b ∧ (b = true → ∀ a, H a = none → ts a cls d { nx := fun σ' H' => D.nx (σ'.set i none) H', rt := D.rt, bk := fun σ' H' => D.bk (σ'.set i none) H', ct := fun σ' H' => D.ct (σ'.set i none) H' } (σ.set i (some (.ref a))) H) ∧ (b = false → wGen K Wout D r cls d σ H)
inductive HdsG (X : Cx) : List ExceptHandler → List (Value × Option Nat × (Addr → Value → Option Addr → TS)) → Prop
  | nil : HdsG X [] []
  | cons {x : Str} {c : Value} {ts : Addr → Value → Option Addr → TS} {b₀ : Stmt} {suite : List Stmt} {np pos' : Pos} {hds : List ExceptHandler} {l : List (Value × Option Nat × (Addr → Value → Option Addr → TS))} (hc : Names X x c)
      (hsu : ∀ (a : Addr) (oe : Obj) (cls : Value) (d : Option Addr) (pn : List (Addr × Obj)), Zc cls d oe → (∃ vs, oe.data = .fields vs) → PSs (X.suite a ((a, oe) :: pn)) (b₀ :: suite) (ts a cls d)) (r : HdsG X hds l) :
      HdsG X (.ExceptHandler (some (.Name x np)) none (b₀ :: suite) pos' :: hds) ((c, none, ts) :: l)
  | consA {x n : Str} {i : Nat} {c : Value} {ts : Addr → Value → Option Addr → TS} {b₀ : Stmt} {suite : List Stmt} {np pos' : Pos} {hds : List ExceptHandler} {l : List (Value × Option Nat × (Addr → Value → Option Addr → TS))} (hN : X.N.Nodup) (hi : X.N[i]? = some n) (hln : X.env.kindOf n = some .local) (hc : Names X x c)
      (hsu : ∀ (a : Addr) (oe : Obj) (cls : Value) (d : Option Addr) (pn : List (Addr × Obj)), Zc cls d oe → (∃ vs, oe.data = .fields vs) → PSs (X.suite a ((a, oe) :: pn)) (b₀ :: suite) (ts a cls d)) (r : HdsG X hds l) :
      HdsG X (.ExceptHandler (some (.Name x np)) (some n) (b₀ :: suite) pos' :: hds) ((c, some i, ts) :: l)
section
variable {X : Cx} {body : List Stmt} {h₀ : ExceptHandler} {hds : List ExceptHandler} {l : List (Value × Option Nat × (Addr → Value → Option Addr → TS))} {pos : Pos} {tb : WX → TS} {Wout : WX}
theorem ps_try_gen (hs : X.stack = X.env :: X.outer) (hf : X.env.frame = some X.env.locals) (tk : Takes X Wout)
    (hb : ∀ (W : WX) (pn : List (Addr × Obj)) (xe : Value → Shared → Prop), Takes (X.tr pn xe) W → PassesOwn (model X.prog X.w) X.A X.env xe → PSs (X.tr pn xe) body (tb W))
    (hh : HdsG X (h₀ :: hds) l) : PS X (.Try body (h₀ :: hds) [] [] pos) (fun D σ H => tb (wGen X.K Wout D l) D σ H) := by
  refine ⟨fun pins s σ H D I h => ?_⟩
  have ok := I.ok
  have hfr : X.A.frames = some (X.env :: X.outer) := by rw [ok.frames, hs]
  refine wpAny_Try_except ?_
  refine wpAny_mono ((hb (wGen X.K Wout D l) (X.pn ++ pins) (fun e s₁ => wpAny (model X.prog X.w) X.A (noteFrame e X.env) (fun _ s₂ => wpAny (model X.prog X.w) X.A (setFlight e none) (fun _ s₃ =>
    wpAny (model X.prog X.w) X.A (handleBy e X.env (h₀ :: hds)) (SP X pins D) X.xe s₃) X.xe s₂) X.xe s₁) (fun u s' xx => ?_) PassesOwn.looking).run [] s σ H D (I.toTry _) h) (fun f s1 hsp => ?_) (fun e s1 he => he)
  · obtain ⟨a, B, sI, pins', σ', H', cls, d, rfl, J', nb, up, sky, na, os, ag, w⟩ := xx
    have J : Inv X pins σ' H' sI := J'.ofTry ok
    have sky' : Sky B (X.env :: X.outer) a (Zc cls d) X.env.locals s'.heap := by rw [← hs]; exact sky
    show wpAny (model X.prog X.w) X.A (noteFrame (.ref a) X.env) _ _ _
    refine Sky.land Zc.steady hfr hf sky' fun h3 fl3 up3 => ?_
    have J3 : Inv X pins σ' H' { s' with heap := h3 } := J.landed nb fl3.1 (up.trans up3) os ag
    obtain ⟨oe3, vs3, he3, hz3, hd3⟩ := fl3.there
    have notFr : ∀ {h : Heap} {o : Obj} {vs : Array Value}, h.FunFrames B (X.env :: X.outer) → h.get? a = some o → o.data = .fields vs → a ∉ frs (X.env :: X.outer) := fun {h o vs} ff e dd hm => by
      obtain ⟨_, o', e', hnf⟩ := ff.mem hm
      rw [e] at e'; cases e'
      exact hnf _ dd
    have nfr := notFr fl3.2.2.1 he3 hd3
    have nL : a ≠ X.env.locals := fun z => nfr (List.mem_filterMap.mpr ⟨X.env, List.mem_cons_self, by rw [hf, z]⟩)
    have nF : a ∉ X.fs := fun hm => by
      obtain ⟨e, he, q⟩ := List.mem_filterMap.mp hm
      exact nfr (List.mem_filterMap.mpr ⟨e, List.mem_cons_of_mem _ he, q⟩)
    have S3 := J3.suite he3 hd3 na nL nF
    have test : ∀ {x : Str} {np : Pos} {c : Value} {Q : Value → Shared → Prop} {E : Value → Shared → Prop}, Names X x c → Q c { s' with heap := h3 } → wpAny (model X.prog X.w) (X.A.mark (some (.ref a))) (eval (.Name x np) X.env) Q E { s' with heap := h3 } := fun {x np c Q E} hc q => by
      obtain ⟨hg, hdbg, hm | ⟨hm, hv, hnn⟩⟩ := hc
      · exact ld_glob (X := X.suite a ((a, oe3) :: (X.pn ++ pins))) S3 hg hm q hdbg
      · exact ld_blt (X := X.suite a ((a, oe3) :: (X.pn ++ pins))) S3 hg hm hv q hnn hdbg
    have LT : PySem.W.Looks (model X.prog X.w) h3 (typeOf (.ref a)) cls := fun A Q E s k q => wpAny_typeOf_ref (k _ _ he3) (by rw [hz3.1]; exact q)
    have go : ∀ {hds' : List ExceptHandler} {l' : List (Value × Option Nat × (Addr → Value → Option Addr → TS))}, HdsG X hds' l' → wGen X.K Wout D l' cls d σ' H' →
        wpAny (model X.prog X.w) X.A (handleBy (.ref a) X.env hds') (SP X pins D) X.xe { s' with heap := h3 } := by
      intro hds' l' hk
      induction hk with
      | nil =>
        intro w
        refine wpAny_handleBy_nil ?_
        obtain ⟨k1, k2, k3, oe, vs, T, oT, ts', he, hz, hd, h1, hr⟩ := id fl3
        unfold PySem.passOn
        refine wpAny_bind (wpAny_field he hd h1 ?_)
        rw [if_neg (show ¬ ((Value.ref T == Value.none) = true) from by simp)]
        have fin : wpAny (model X.prog X.w) X.A (setFlight (.ref a) X.env.frame) (fun _ s4 => wpAny (model X.prog X.w) X.A (throw (.ref a) : Sem Flow) (SP X pins D) X.xe s4) X.xe { s' with heap := h3 } := by
          rw [hf]
          refine HandSPX.setFlight_upZ fl3 fun h4 hh4 up4 => wpAny_throw (tk _ _ ?_)
          exact ⟨a, B, sI, pins, σ', H', cls, d, rfl, J, nb, (up.trans up3).trans up4, .inr (.inr (by rw [hs]; exact hh4)), na, os, ag, w⟩
        first
          | exact wpAny_bind (wpAny_pure (wpAny_bind fin))
          | exact wpAny_bind fin
      | @cons x c ts b₀ suite np pos' hds2 l2 hc hsu r ih =>
        intro w
        obtain ⟨b, hb1, hyes, hno⟩ := w
        refine wpAny_handleBy_cons (codeAny_handlers_test ?_) (by intro q; cases q)
        have LM := PySem.W.exm_one (M := model X.prog X.w) (J3.kIn) LT hb1
        refine test hc (LM.here ?_)
        cases b with
        | true =>
          refine codeAny_handlers_suite ?_
          refine HandSPX.lands_againZ fl3 fun h4 fl4 up4 => ?_
          have J4 : Inv X pins σ' H' { s' with heap := h4 } := J.landed nb fl4.1 ((up.trans up3).trans up4) os ag
          obtain ⟨oe4, vs4, he4, hz4, hd4⟩ := fl4.there
          have S4 := J4.suite he4 hd4 na nL nF
          refine wpAny_mono ((hsu a oe4 cls d (X.pn ++ pins) hz4 ⟨_, hd4⟩).run [] _ _ H' _ S4 (hyes rfl a na)) (fun f s6 hsp => ?_) (fun _ _ z => False.elim z)
          cases f with
          | next =>
            obtain ⟨σ6, H6, S6, q6⟩ := hsp
            exact ⟨_, _, S6.unsuite ok, q6⟩
          | brk =>
            obtain ⟨σ6, H6, S6, q6⟩ := hsp
            exact ⟨_, _, S6.unsuite ok, q6⟩
          | cont =>
            obtain ⟨σ6, H6, S6, q6⟩ := hsp
            exact ⟨_, _, S6.unsuite ok, q6⟩
          | ret u =>
            obtain ⟨v6, σ6, H6, S6, r6, q6⟩ := hsp
            exact ⟨_, _, _, S6.unsuite ok, r6, q6⟩
        | false =>
          show wpAny _ X.A (handleBy (.ref a) X.env hds2) _ _ _
          exact ih (hno rfl)
      | @consA x n i c ts b₀ suite np pos' hds2 l2 hN hi hln hc hsu r ih =>
        intro w
        obtain ⟨b, hb1, hyes, hno⟩ := w
        refine wpAny_handleBy_cons (codeAny_handlers_test ?_) (by intro q; cases q)
        have LM := PySem.W.exm_one (M := model X.prog X.w) (J3.kIn) LT hb1
        refine test hc (LM.here ?_)
        cases b with
        | true =>
          refine codeAny_handlers_suite_as ?_
          refine HandSPX.lands_againZ fl3 fun h4 fl4 up4 => ?_
          have J4 : Inv X pins σ' H' { s' with heap := h4 } := J.landed nb fl4.1 ((up.trans up3).trans up4) os ag
          obtain ⟨oe4, vs4, he4, hz4, hd4⟩ := fl4.there
          have S4 := J4.suite he4 hd4 na nL nF
          refine store_ok (X := X.suite a ((a, oe4) :: (X.pn ++ pins))) (v := .ref a) S4 hN hi (.inl hln) rfl (fun s5 S5 => ?_) (.inr hln)
          refine wpAny_mono ((hsu a oe4 cls d (X.pn ++ pins) hz4 ⟨_, hd4⟩).run [] s5 _ H' _ S5 (hyes rfl a na)) (fun f s6 hsp => ?_) (fun _ _ z => False.elim z)
          have end_ : ∀ {σ6 : L2.St} {H6 : Hp} {Q : Shared → Prop}, Inv (X.suite a ((a, oe4) :: (X.pn ++ pins))) [] σ6 H6 s6 → (∀ s7, Inv X pins (σ6.set i none) H6 s7 → Q s7) →
              wpAny (model X.prog X.w) X.A (do bindName X.env n .none; unbindBehindTheSuite X.env n pos') (fun _ s7 => Q s7) X.xe s6 := fun {σ6 H6 Q} S6 hq => gone_ok (S6.unsuite ok) hN hi hln hq
          cases f with
          | next =>
            obtain ⟨σ6, H6, S6, q6⟩ := hsp
            exact end_ S6 fun s7 J7 => ⟨_, _, J7, q6⟩
          | brk =>
            obtain ⟨σ6, H6, S6, q6⟩ := hsp
            exact end_ S6 fun s7 J7 => ⟨_, _, J7, q6⟩
          | cont =>
            obtain ⟨σ6, H6, S6, q6⟩ := hsp
            exact end_ S6 fun s7 J7 => ⟨_, _, J7, q6⟩
          | ret u =>
            obtain ⟨v6, σ6, H6, S6, r6, q6⟩ := hsp
            exact end_ S6 fun s7 J7 => ⟨_, _, _, J7, r6, q6⟩
        | false =>
          show wpAny _ X.A (handleBy (.ref a) X.env hds2) _ _ _
          exact ih (hno rfl)
    exact go hh w
  · cases f with
    | next =>
      obtain ⟨σ', H', J', q⟩ := hsp
      exact wpAny_execs_nil ⟨σ', H', J'.ofTry ok, q⟩
    | brk =>
      obtain ⟨σ', H', J', q⟩ := hsp
      exact ⟨σ', H', J'.ofTry ok, q⟩
    | cont =>
      obtain ⟨σ', H', J', q⟩ := hsp
      exact ⟨σ', H', J'.ofTry ok, q⟩
    | ret u =>
      obtain ⟨v, σ', H', J', r, q⟩ := hsp
      exact ⟨v, σ', H', J'.ofTry ok, r, q⟩
end
/-- a clause's mirror: which classes it takes (those that may come), the slot of 'as', the suite -/
structure Hd where
  tab : List (Str × Bool)
  sl : Option Nat
  su : MV → MS
@[reducible] def OutS.noxS : OutS → OutS
  | .exc _ _ _ _ => .stuck
  | o => o
/-- at a clause's end its name is gone -/
def wipeO (i : Nat) : OutS → OutS
  | .ok f env h => .ok f (env.set i none) h
  | _ => .stuck
open Classical in
noncomputable def runHds (C : Str) (xs : List MV) : List Hd → MEnv → MH → OutS
  | [], env, h => .exc C xs env h
  | hd :: r, env, h => match hd.tab.lookup C with
    | some true => match hd.sl with
      | none => (hd.su .non env h).noxS
      | some i => if ∀ a d, wipeO i (hd.su (.exo a d C xs) (env.set i (some (.exo a d C xs))) h) = wipeO i (hd.su (.exo 0 none C xs) (env.set i (some (.exo 0 none C xs))) h) then
          wipeO i (hd.su (.exo 0 none C xs) (env.set i (some (.exo 0 none C xs))) h) else .stuck
    | some false => runHds C xs r env h
    | none => .stuck
noncomputable def sTry (b : MS) (hds : List Hd) : MS := fun env h => match b env h with
  | .exc C xs env' h' => runHds C xs hds env' h'
  | o => o
def tOfS (Γ : Gm) (K : PySem.W.Frag) (W : WX) (m : MS) : TS := fun D σ H => ∃ S h env, Rel Γ K S h H ∧ REnv Γ K S env σ ∧ PostS Γ K S H D W (m env h)
section
variable {Γ : Gm} {X : Cx} {W : WX}
theorem SSs.of {sts : List Stmt} {m : MS} (h : SSs Γ X W sts m) : PSs X sts (tOfS Γ X.K W m) := by
  obtain ⟨t, pt, et⟩ := h.ex
  exact ⟨fun pins s σ H D I ⟨S, h, env, R, G, p⟩ => pt.run pins s σ H D I (et S H h σ env D R G p)⟩
theorem pss_exW {ι : Type} {sts : List Stmt} {t : ι → TS} (h : ∀ i, PSs X sts (t i)) : PSs X sts (fun D σ H => ∃ i, t i D σ H) := ⟨fun pins s σ H D I ⟨i, q⟩ => (h i).run pins s σ H D I q⟩
/-- the reading of a clause's suite -/
def tHd (Γ : Gm) (K : PySem.W.Frag) (hd : Hd) (a : Addr) (cls : Value) (d : Option Addr) : TS := fun D σ H => ∃ i : { q : Str × List MV // cls = .ref (Γ.cls q.1) ∧ hd.tab.lookup q.1 = some true },
  tOfS Γ K W0 (hd.su (match hd.sl with | none => .non | some _ => .exo a d i.1.1 i.1.2)) D σ H
inductive SHd (Γ : Gm) (X : Cx) : List ExceptHandler → List Hd → Prop
  | nil : SHd Γ X [] []
  | cons {x : Str} {c : Value} {b₀ : Stmt} {suite : List Stmt} {np pos' : Pos} {hds : List ExceptHandler} {tab : List (Str × Bool)} {su : MV → MS} {l : List Hd} (hc : Names X x c) (ht : ∀ p ∈ tab, PySem.W.exmOne X.K (.ref (Γ.cls p.1)) c = some p.2)
      (hsu : ∀ (a : Addr) (oe : Obj) (C : Str) (d : Option Addr) (pn : List (Addr × Obj)), Zc (.ref (Γ.cls C)) d oe → (∃ vs, oe.data = .fields vs) → SSs Γ (X.suite a ((a, oe) :: pn)) W0 (b₀ :: suite) (su .non)) (r : SHd Γ X hds l) :
      SHd Γ X (.ExceptHandler (some (.Name x np)) none (b₀ :: suite) pos' :: hds) (⟨tab, none, su⟩ :: l)
  | consA {x n : Str} {i : Nat} {c : Value} {b₀ : Stmt} {suite : List Stmt} {np pos' : Pos} {hds : List ExceptHandler} {tab : List (Str × Bool)} {su : MV → MS} {l : List Hd} (hN : X.N.Nodup) (hi : X.N[i]? = some n) (hln : X.env.kindOf n = some .local) (hc : Names X x c) (ht : ∀ p ∈ tab, PySem.W.exmOne X.K (.ref (Γ.cls p.1)) c = some p.2)
      (hsu : ∀ (a : Addr) (oe : Obj) (C : Str) (xs : List MV) (d : Option Addr) (pn : List (Addr × Obj)), Zc (.ref (Γ.cls C)) d oe → (∃ vs, oe.data = .fields vs) → tab.lookup C = some true → SSs Γ (X.suite a ((a, oe) :: pn)) W0 (b₀ :: suite) (su (.exo a d C xs))) (r : SHd Γ X hds l) :
      SHd Γ X (.ExceptHandler (some (.Name x np)) (some n) (b₀ :: suite) pos' :: hds) (⟨tab, some i, su⟩ :: l)
theorem SHd.hds {hs : List ExceptHandler} {l : List Hd} (h : SHd Γ X hs l) : ∃ g : List (Value × Option Nat × (Addr → Value → Option Addr → TS)), HdsG X hs g ∧
    ∀ (Wout : WX) (D : Ends) (C : Str) (xs : List MV) (env : MEnv) (hh : MH) S H σ dd, Rel Γ X.K S hh H → REnv Γ X.K S env σ → RepX Γ X.K C xs dd S H → PostS Γ X.K S H D Wout (runHds C xs l env hh) → wGen X.K Wout D g (.ref (Γ.cls C)) dd σ H := by
  induction h with
  | nil => exact ⟨[], .nil, fun Wout D C xs env hh S H σ dd R G x p => p S H σ dd (Ext.refl _ _) R G x⟩
  | @cons x c b₀ suite np pos' hds tab su l hc ht hsu r ih =>
    obtain ⟨g, hg, ih⟩ := ih
    refine ⟨(c, none, tHd Γ X.K ⟨tab, none, su⟩) :: g, .cons hc (fun a oe cls d pn hz hf => pss_exW fun ⟨⟨C, xs⟩, e, _⟩ => ?_) hg, fun Wout D C xs env hh S H σ dd R G x p => ?_⟩
    · have e' : cls = .ref (Γ.cls C) := e
      subst e'
      exact (hsu a oe C d pn hz hf).of
    · unfold runHds at p
      simp only at p
      split at p
      · rename_i ht1
        refine ⟨true, ht (C, true) (PySem.mem_of_lookup ht1), fun _ a ha => ⟨⟨(C, xs), rfl, ht1⟩, S, hh, env, R, G, ?_⟩, fun z => by cases z⟩
        show PostS Γ X.K S H D W0 (su .non env hh)
        cases z : su .non env hh with
        | ok f env1 h1 => rw [z] at p; cases f <;> exact p
        | exc _ _ _ _ => rw [z] at p; exact p.elim
        | stuck => rw [z] at p; exact p
      · rename_i ht1
        exact ⟨false, ht (C, false) (PySem.mem_of_lookup ht1), fun z => (by cases z), fun _ => ih Wout D C xs env hh S H σ dd R G x p⟩
      · exact p.elim
  | @consA x n i c b₀ suite np pos' hds tab su l hN hi hln hc ht hsu r ih =>
    obtain ⟨g, hg, ih⟩ := ih
    refine ⟨(c, some i, tHd Γ X.K ⟨tab, some i, su⟩) :: g, .consA hN hi hln hc (fun a oe cls d pn hz hf => pss_exW fun ⟨⟨C, xs⟩, e, ht1⟩ => ?_) hg, fun Wout D C xs env hh S H σ dd R G x p => ?_⟩
    · have e' : cls = .ref (Γ.cls C) := e
      subst e'
      exact (hsu a oe C xs d pn hz hf ht1).of
    · unfold runHds at p
      simp only at p
      split at p
      · rename_i ht1
        split at p
        · rename_i hall
          refine ⟨true, ht (C, true) (PySem.mem_of_lookup ht1), fun _ a ha => ⟨⟨(C, xs), rfl, ht1⟩, S, hh, env.set i (some (.exo a dd C xs)), R, G.set ?_ i, ?_⟩, fun z => by cases z⟩
          · unfold Rep
            refine ⟨rfl, ?_⟩
            unfold RepX at x
            split at x
            · exact ⟨[], .inl ⟨rfl, x⟩, repL_nil⟩
            · obtain ⟨d, v, q1, q2, q3⟩ := x
              exact ⟨[v], .inr ⟨d, v, rfl, q1, q2⟩, repL_cons q3 repL_nil⟩
            · exact x.elim
          · show PostS Γ X.K S H _ W0 (su (.exo a dd C xs) (env.set i (some (.exo a dd C xs))) hh)
            rw [← hall a dd] at p
            cases z : su (.exo a dd C xs) (env.set i (some (.exo a dd C xs))) hh with
            | ok f env1 h1 =>
              rw [z] at p
              cases f with
              | nx => exact fun S' H' σ' e R' G' => p S' H' _ e R' (G'.drop i none)
              | bk => exact fun S' H' σ' e R' G' => p S' H' _ e R' (G'.drop i none)
              | ct => exact fun S' H' σ' e R' G' => p S' H' _ e R' (G'.drop i none)
              | rt d => exact p
            | exc _ _ _ _ => rw [z] at p; exact p.elim
            | stuck => rw [z] at p; exact p.elim
        · exact p.elim
      · rename_i ht1
        exact ⟨false, ht (C, false) (PySem.mem_of_lookup ht1), fun z => (by cases z), fun _ => ih Wout D C xs env hh S H σ dd R G x p⟩
      · exact p.elim
/-- try: body / except ..: .. -/
theorem ss_try {body : List Stmt} {h₀ : ExceptHandler} {hds : List ExceptHandler} {pos : Pos} {b : MS} {l : List Hd} (hs : X.stack = X.env :: X.outer) (hf : X.env.frame = some X.env.locals) (tk : Takes X W)
    (hb : ∀ (W' : WX) (pn : List (Addr × Obj)) (xe : Value → Shared → Prop), Takes (X.tr pn xe) W' → PassesOwn (model X.prog X.w) X.A X.env xe → SSs Γ (X.tr pn xe) W' body b)
    (hh : SHd Γ X (h₀ :: hds) l) : SS Γ X W (.Try body (h₀ :: hds) [] [] pos) (sTry b l) := by
  obtain ⟨g, hg, eg⟩ := hh.hds
  refine ⟨_, ps_try_gen hs hf tk (tb := fun W' => tOfS Γ X.K W' b) (fun W' pn xe t1 t2 => (hb W' pn xe t1 t2).of) hg, fun S H h σ env D R G p => ⟨S, h, env, R, G, ?_⟩⟩
  unfold sTry at p
  cases z : b env h with
  | ok f env1 h1 => rw [z] at p; cases f <;> exact p
  | exc C xs env1 h1 =>
    rw [z] at p
    exact fun S' H' σ' dd e R' G' x => eg W D C xs env1 h1 S' H' σ' dd R' G' x (PostS.ext p e)
  | stuck => rw [z] at p; exact p.elim
end
end Mn
/-! ## MnG -/
set_option Elab.async false
set_option linter.all false
set_option maxRecDepth 100000
/-! Mn, part G: built-ins by call, methods of built-in types. -/
namespace Mn
open PySem PySem.Spec PyProof.Rows L2

theorem CallR.or {X : Cx} {f : Value} {r r' : List V → Hp → VK → Prop} (a : CallR X f r) (b : CallR X f r') : CallR X f (fun xs H Q => r xs H Q ∨ r' xs H Q) := by
  intro pins s σ H xs us Q I r h
  rcases h with h | h
  · exact a pins s σ H xs us Q I r h
  · exact b pins s σ H xs us Q I r h
section
variable {Γ : Gm} {K : PySem.W.Frag} {X : Cx} {W : WX}

/-! len -/
def fLen : MF
  | [.str z], h => if z.length ≤ sizeLine then .ok (.int z.length) h else .stuck
  | [.ref n], h => match h[n]? with
    | some (.lst xs) => .ok (.int xs.length) h
    | some (.dct kvs) => .ok (.int kvs.length) h
    | _ => .stuck
  | [x], h => match seqAt h x with
    | some xs => .ok (.int xs.length) h
    | none => .stuck
  | _, _ => .stuck
theorem repD_len : ∀ {kvs : List (MV × MV)} {us : List (Key × V)} {S : Sh}, RepD Γ K S kvs us → kvs.length = us.length
  | [], us, S, r => by unfold RepD at r; rw [r]; rfl
  | x :: xs, us, S, ⟨k, u, r, e1, e2, e3, e4⟩ => by rw [e1, List.length_cons, List.length_cons, repD_len e4]
def rLenAll (K : PySem.W.Frag) : List V → Hp → VK → Prop := fun xs H Q => (∃ x n, xs = [x] ∧ LenV K x H n ∧ Q (.int n) H) ∨ ∃ a kvs, xs = [V.ref a] ∧ H a = some (.dK kvs) ∧ Q (.int kvs.length) H
theorem call_lenAll : CallR X (.builtin "len") (rLenAll X.K) := CallR.or call_len call_lenD
theorem lift_len : LiftF Γ K (rLenAll K) fLen := by
  intro S H h xs us Q E R r p
  unfold fLen at p
  split at p
  · obtain ⟨v, rfl, q1⟩ := repL_1 r
    split at p
    · rename_i hz
      have := rep_str q1
      subst this
      exact .inl ⟨_, _, rfl, ⟨hz, rfl⟩, p.val R is_int⟩
    · exact p.elim
  · obtain ⟨v, rfl, q1⟩ := repL_1 r
    split at p
    · rename_i n _ xs hx
      obtain ⟨a, us, rfl, q2, q3⟩ := lstAt_ok (xs := xs) R (d := .ref n) (show lstAt h (.ref n) = some xs by unfold lstAt; simp only; rw [hx]) q1
      exact .inl ⟨_, us.length, rfl, .inl ⟨us, q2, rfl⟩, by rw [← repL_len q3]; exact p.val R is_int⟩
    · rename_i n _ kvs hx
      unfold Rep at q1
      obtain ⟨a, e1, rfl⟩ := q1
      obtain ⟨_, us, q2, q3⟩ := R.cell n _ a hx e1
      exact .inr ⟨a, us, rfl, q2, by rw [← repD_len q3]; exact p.val R is_int⟩
    · exact p.elim
  · rename_i x _ _ _
    obtain ⟨v, rfl, q1⟩ := repL_1 r
    split at p
    · rename_i xs hx
      obtain ⟨a, us, rfl, q2, q3⟩ := seqAt_ok R hx q1
      refine .inl ⟨_, us.length, rfl, ?_, by rw [← repL_len q3]; exact p.val R is_int⟩
      rcases q2 with q2 | q2
      · exact .inl ⟨us, q2, rfl⟩
      · exact .inr ⟨us, q2, rfl⟩
    · exact p.elim
  · exact p.elim

/-! int -/
def fInt : MF
  | [.int i], h => .ok (.int i) h
  | [.bl b], h => .ok (.int (if b then 1 else 0)) h
  | _, _ => .stuck
theorem lift_int : LiftF Γ K (fun xs H Q => (∃ i, xs = [V.int i] ∧ Q (.int i) H) ∨ ∃ k, xs = [V.bl k] ∧ Q (.int (if k then 1 else 0)) H) fInt := by
  intro S H h xs us Q E R r p
  unfold fInt at p
  split at p
  · obtain ⟨v, rfl, q1⟩ := repL_1 r
    exact .inl ⟨_, by rw [rep_int q1], p.val R is_int⟩
  · obtain ⟨v, rfl, q1⟩ := repL_1 r
    exact .inr ⟨_, by rw [rep_bl q1], p.val R is_int⟩
  · exact p.elim
/-! list, tuple -/
def fList (b : Bool) : MF
  | [x], h => match seqAt h x with
    | some xs => retL b xs h
    | none => .stuck
  | _, _ => .stuck
theorem lift_list {b : Bool} : LiftF Γ K (fun xs H Q => ∃ p ys, xs = [V.ref p] ∧ (SqL K H p ys ∨ SqT K H p ys) ∧ ∀ l, H l = none → Q (.ref l) (upd H l (.lst ys))) (fList b) := by
  intro S H h xs us Q E R r p
  unfold fList at p
  split at p
  · obtain ⟨v, rfl, q1⟩ := repL_1 r
    split at p
    · rename_i xs hx
      obtain ⟨a, us, rfl, q2, q3⟩ := seqAt_ok R hx q1
      exact ⟨a, us, rfl, q2, newL R q3 p⟩
    · exact p.elim
  · exact p.elim
def fTuple : MF
  | [.tup xs], h => .ok (.tup xs) h
  | [x], h => match lstAt h x with
    | some xs => .ok (.tup xs) h
    | none => .stuck
  | _, _ => .stuck
theorem lift_tuple : LiftF Γ K (fun xs H Q => ∃ p ys, xs = [V.ref p] ∧ ((SqL K H p ys ∧ ∀ l, H l = none → Q (.ref l) (upd H l (.tup ys))) ∨ (SqT K H p ys ∧ Q (.ref p) H))) fTuple := by
  intro S H h xs us Q E R r p
  unfold fTuple at p
  split at p
  · obtain ⟨v, rfl, q1⟩ := repL_1 r
    have q1' := q1
    obtain ⟨a, us, rfl, q2, q3⟩ := tup_ok R q1
    exact ⟨a, us, rfl, .inr ⟨q2, p.val R q1'⟩⟩
  · obtain ⟨v, rfl, q1⟩ := repL_1 r
    split at p
    · rename_i xs hx
      obtain ⟨a, us, rfl, q2, q3⟩ := lstAt_ok R hx q1
      exact ⟨a, us, rfl, .inl ⟨q2, newT R q3 p⟩⟩
    · exact p.elim
  · exact p.elim
/-! max, min of two ints -/
def fMax2 : MF
  | [.int i, .int j], h => .ok (.int (if j > i then j else i)) h
  | _, _ => .stuck
theorem lift_max2 : LiftF Γ K (fun xs H Q => ∃ i j : Int, xs = [V.int i, .int j] ∧ Q (.int (if j > i then j else i)) H) fMax2 := by
  intro S H h xs us Q E R r p
  unfold fMax2 at p
  split at p
  · obtain ⟨v, w, rfl, q1, q2⟩ := repL_2 r
    exact ⟨_, _, by rw [rep_int q1, rep_int q2], p.val R is_int⟩
  · exact p.elim
def fMin2 : MF
  | [.int i, .int j], h => .ok (.int (if j < i then j else i)) h
  | _, _ => .stuck
theorem lift_min2 : LiftF Γ K (fun xs H Q => ∃ i j : Int, xs = [V.int i, .int j] ∧ Q (.int (if j < i then j else i)) H) fMin2 := by
  intro S H h xs us Q E R r p
  unfold fMin2 at p
  split at p
  · obtain ⟨v, w, rfl, q1, q2⟩ := repL_2 r
    exact ⟨_, _, by rw [rep_int q1, rep_int q2], p.val R is_int⟩
  · exact p.elim
/-! sum, max, min of a list of ints -/
def intsOf : List MV → Option (List Int)
  | [] => some []
  | .int i :: xs => match intsOf xs with
    | some ns => some (i :: ns)
    | none => none
  | _ :: _ => none
theorem intsOf_eq : ∀ {xs : List MV} {ns : List Int}, intsOf xs = some ns → xs = ns.map MV.int
  | [], ns, e => by cases e; rfl
  | .int i :: xs, ns, e => by
    unfold intsOf at e
    split at e
    · rename_i ms hm
      cases e
      rw [intsOf_eq hm]; rfl
    · cases e
  | .non :: _, _, e => by cases e
  | .bl _ :: _, _, e => by cases e
  | .str _ :: _, _, e => by cases e
  | .tup _ :: _, _, e => by cases e
  | .fl _ :: _, _, e => by cases e
  | .sl _ :: _, _, e => by cases e
  | .ob _ _ _ :: _, _, e => by cases e
  | .ref _ :: _, _, e => by cases e
  | .exo _ _ _ _ :: _, _, e => by cases e
theorem intsOf_map : ∀ ns : List Int, intsOf (ns.map MV.int) = some ns
  | [] => rfl
  | n :: ns => by show (match intsOf (ns.map MV.int) with | some ms => some (n :: ms) | none => none) = _; rw [intsOf_map ns]
def fSum : MF
  | [x], h => match lstAt h x with
    | some xs => match intsOf xs with
      | some ns => .ok (.int ns.sum) h
      | none => .stuck
    | none => .stuck
  | _, _ => .stuck
theorem ints_ok {S : Sh} {H : Hp} {h : MH} {d : MV} {v : V} {xs : List MV} {ns : List Int} (R : Rel Γ K S h H) (e : lstAt h d = some xs) (e2 : intsOf xs = some ns) (r : Rep Γ K S d v) : ∃ a, v = .ref a ∧ SqL K H a (ns.map V.int) := by
  obtain ⟨a, us, rfl, q2, q3⟩ := lstAt_ok R e r
  rw [intsOf_eq e2] at q3
  rw [repL_ints q3] at q2
  exact ⟨a, rfl, q2⟩
theorem lift_sum : LiftF Γ K (rSum K) fSum := by
  intro S H h xs us Q E R r p
  unfold fSum at p
  split at p
  · obtain ⟨v, rfl, q1⟩ := repL_1 r
    split at p
    · rename_i xs hx
      split at p
      · rename_i ns hn
        obtain ⟨a, rfl, q2⟩ := ints_ok R hx hn q1
        exact ⟨a, ns, rfl, q2, p.val R is_int⟩
      · exact p.elim
    · exact p.elim
  · exact p.elim
def maxL : Int → List Int → Int
  | m, [] => m
  | m, n :: ns => maxL (if n > m then n else m) ns
def minL : Int → List Int → Int
  | m, [] => m
  | m, n :: ns => minL (if n < m then n else m) ns
theorem maxL_ge : ∀ (ns : List Int) (m : Int), m ≤ maxL m ns ∧ ∀ y ∈ ns, y ≤ maxL m ns
  | [], m => ⟨Int.le_refl _, fun _ h => nomatch h⟩
  | n :: ns, m => by
    obtain ⟨h1, h2⟩ := maxL_ge ns (if n > m then n else m)
    unfold maxL
    have e1 : m ≤ if n > m then n else m := by split <;> omega
    have e2 : n ≤ if n > m then n else m := by split <;> omega
    refine ⟨Int.le_trans e1 h1, fun y hy => ?_⟩
    rcases List.mem_cons.mp hy with rfl | hy
    · exact Int.le_trans e2 h1
    · exact h2 y hy
theorem maxL_mem : ∀ (ns : List Int) (m : Int), maxL m ns = m ∨ maxL m ns ∈ ns
  | [], m => .inl rfl
  | n :: ns, m => by
    unfold maxL
    rcases maxL_mem ns (if n > m then n else m) with h | h
    · rw [h]
      split
      · exact .inr List.mem_cons_self
      · exact .inl rfl
    · exact .inr (List.mem_cons_of_mem _ h)
theorem minL_le : ∀ (ns : List Int) (m : Int), minL m ns ≤ m ∧ ∀ y ∈ ns, minL m ns ≤ y
  | [], m => ⟨Int.le_refl _, fun _ h => nomatch h⟩
  | n :: ns, m => by
    obtain ⟨h1, h2⟩ := minL_le ns (if n < m then n else m)
    unfold minL
    have e1 : (if n < m then n else m) ≤ m := by split <;> omega
    have e2 : (if n < m then n else m) ≤ n := by split <;> omega
    refine ⟨Int.le_trans h1 e1, fun y hy => ?_⟩
    rcases List.mem_cons.mp hy with rfl | hy
    · exact Int.le_trans h1 e2
    · exact h2 y hy
theorem minL_mem : ∀ (ns : List Int) (m : Int), minL m ns = m ∨ minL m ns ∈ ns
  | [], m => .inl rfl
  | n :: ns, m => by
    unfold minL
    rcases minL_mem ns (if n < m then n else m) with h | h
    · rw [h]
      split
      · exact .inr List.mem_cons_self
      · exact .inl rfl
    · exact .inr (List.mem_cons_of_mem _ h)
def fMax1 : MF
  | [x], h => match lstAt h x with
    | some xs => match intsOf xs with
      | some (n :: ns) => .ok (.int (maxL n ns)) h
      | _ => .stuck
    | none => .stuck
  | _, _ => .stuck
theorem lift_max1 : LiftF Γ K (rMax K) fMax1 := by
  intro S H h xs us Q E R r p
  unfold fMax1 at p
  split at p
  · obtain ⟨v, rfl, q1⟩ := repL_1 r
    split at p
    · rename_i xs hx
      split at p
      · rename_i n ns hn
        obtain ⟨a, rfl, q2⟩ := ints_ok R hx hn q1
        refine ⟨a, n :: ns, rfl, q2, Nat.succ_pos _, fun m hm hall => ?_⟩
        have hg := maxL_ge ns n
        have e : m = maxL n ns := by
          have h1 : maxL n ns ≤ m := by
            rcases maxL_mem ns n with h | h
            · rw [h]; exact hall n List.mem_cons_self
            · exact hall _ (List.mem_cons_of_mem _ h)
          have h2 : m ≤ maxL n ns := by
            rcases List.mem_cons.mp hm with rfl | hm
            · exact hg.1
            · exact hg.2 m hm
          omega
        rw [e]
        exact p.val R is_int
      · exact p.elim
    · exact p.elim
  · exact p.elim
def fMin1 : MF
  | [x], h => match lstAt h x with
    | some xs => match intsOf xs with
      | some (n :: ns) => .ok (.int (minL n ns)) h
      | _ => .stuck
    | none => .stuck
  | _, _ => .stuck
theorem lift_min1 : LiftF Γ K (rMin K) fMin1 := by
  intro S H h xs us Q E R r p
  unfold fMin1 at p
  split at p
  · obtain ⟨v, rfl, q1⟩ := repL_1 r
    split at p
    · rename_i xs hx
      split at p
      · rename_i n ns hn
        obtain ⟨a, rfl, q2⟩ := ints_ok R hx hn q1
        refine ⟨a, n :: ns, rfl, q2, Nat.succ_pos _, fun m hm hall => ?_⟩
        have hg := minL_le ns n
        have e : m = minL n ns := by
          have h1 : m ≤ minL n ns := by
            rcases minL_mem ns n with h | h
            · rw [h]; exact hall n List.mem_cons_self
            · exact hall _ (List.mem_cons_of_mem _ h)
          have h2 : minL n ns ≤ m := by
            rcases List.mem_cons.mp hm with rfl | hm
            · exact hg.1
            · exact hg.2 m hm
          omega
        rw [e]
        exact p.val R is_int
      · exact p.elim
    · exact p.elim
  · exact p.elim

/-! isinstance, a built-in class -/
def tyOfM (h : MH) : MV → Option String
  | .non => some "NoneType"
  | .bl _ => some "bool"
  | .int _ => some "int"
  | .str _ => some "str"
  | .tup _ => some "tuple"
  | .fl _ => some "list"
  | .ref n => match h[n]? with
    | some (.lst _) => some "list"
    | some (.dct _) => some "dict"
    | _ => none
  | _ => none
def isiB (a T : String) : Option Bool := if a ∈ ["NoneType", "bool", "int", "str", "tuple", "list", "dict"] ∧ T ∈ ["bool", "int", "str", "tuple", "list", "dict"] then some (a == T || (a == "bool" && T == "int")) else none
theorem isiB_ok {a T : String} {b : Bool} (e : isiB a T = some b) : kitB a T = some b := by
  unfold isiB at e
  split at e
  · rename_i hm
    obtain ⟨h1, h2⟩ := hm
    have gen : ∀ x ∈ ["NoneType", "bool", "int", "str", "tuple", "list", "dict"], ∀ y ∈ ["bool", "int", "str", "tuple", "list", "dict"], kitB x y = some (x == y || (x == "bool" && y == "int")) := by decide +kernel
    rw [gen a h1 T h2]; exact e
  · cases e
def fIsi (T : String) (x : MV) (h : MH) : Out MV := match tyOfM h x with
  | some a => match isiB a T with
    | some b => .ok (.bl b) h
    | none => .stuck
  | none => .stuck
theorem tyx_tup {S : Sh} {H : Hp} {h : MH} {a : Addr} {us : List V} (R : Rel Γ K S h H) (q : SqT K S.Hs a us) : TyX K H (.ref a) (.type "tuple") := by
  rcases q with (q | ⟨o, q⟩) | ⟨o, its, n, q1, q2, _⟩
  · exact .base (.tup (R.sub _ _ q))
  · exact .fTuple (R.sub _ _ q)
  · exact .kTuple q1 q2
theorem tyOfM_ok {S : Sh} {H : Hp} {h : MH} {x : MV} {v : V} {a : String} (R : Rel Γ K S h H) (e : tyOfM h x = some a) (r : Rep Γ K S x v) : TyX K H v (.type a) := by
  cases x with
  | non => cases e; rw [rep_non r]; exact .base .non
  | bl b => cases e; rw [rep_bl r]; exact .base (.bl b)
  | int i => cases e; rw [rep_int r]; exact .base (.int i)
  | str z => cases e; rw [rep_str r]; exact .base (.str z)
  | tup xs =>
    cases e
    unfold Rep at r
    obtain ⟨a, us, rfl, q1, _⟩ := r
    exact tyx_tup R q1
  | fl xs =>
    cases e
    unfold Rep at r
    obtain ⟨a, us, rfl, q1, _⟩ := r
    exact .base (.lst (R.sub _ _ q1))
  | ref n =>
    unfold Rep at r
    obtain ⟨a, e1, rfl⟩ := r
    unfold tyOfM at e
    simp only at e
    split at e
    · rename_i xs hx
      cases e
      obtain ⟨_, us, q1, _⟩ := R.cell n _ a hx e1
      exact .base (.lst q1)
    · rename_i kvs hx
      cases e
      obtain ⟨_, us, q1, _⟩ := R.cell n _ a hx e1
      exact .base (.dK q1)
    · cases e
  | sl _ => cases e
  | ob _ _ _ => cases e
  | exo _ _ _ _ => cases e
theorem se_isi {e : Expr} {me : ME} {T : String} {p p2 pos : Pos} (ha : SE Γ X W e me) (hm : X.mg "isinstance" = none) (hm2 : X.mg (Str.ofString T) = none) (hg : Gl X "isinstance" := by rfl) (hg2 : Gl X (Str.ofString T) := by rfl) (hv : bootBuiltins "isinstance" = some (.builtin "isinstance") := by decide +kernel) (hv2 : bootBuiltins (Str.ofString T) = some (.type T) := by decide +kernel)
    (hn2 : (Str.ofString T) ≠ "__name__" := by decide) (hd2 : ((Str.ofString T) == ("__debug__" : Str)) = false := by decide)
    (he : starEach [e, .Name (Str.ofString T) p2] X.env = (false, eval e X.env) :: starEach [.Name (Str.ofString T) p2] X.env := by rfl) (he2 : starEach [.Name (Str.ofString T) p2] X.env = (false, eval (.Name (Str.ofString T) p2) X.env) :: starEach [] X.env := by rfl) (hpl : (backTo pos (starEach [.Name (Str.ofString T) p2] X.env)).any (·.1) = false := by rfl) :
    SE Γ X W (.Call (.Name "isinstance" p) [e, .Name (Str.ofString T) p2] [] pos) (m1 (fIsi T) me) := by
  obtain ⟨t, pt, et⟩ := ha.ex
  refine ⟨_, pe_callB call_isi hg hm hv (pa_cons pt (pa_cons (pe_bltn (v := .ty T) hg2 hm2 hv2 rfl hn2 hd2) pa_nil he2) he) (by decide) (by decide) he hpl, fun S H h σ env Q R G q => exE_bind (t := t) et R G q fun x h1 S1 H1 v e1 R1 G1 r1 p1 => ?_⟩
  unfold fIsi at p1
  split at p1
  · rename_i a ha
    split at p1
    · rename_i b hb
      exact ⟨v, .ty T, .type a, .type T, b, rfl, .ty T, tyOfM_ok R1 ha r1, kit_ty (isiB_ok hb), p1.val R1 is_bl⟩
    · exact p1.elim
  · exact p1.elim

/-! isinstance of the caught exception -/
open Classical in
noncomputable def mIsE (i : Nat) (v : MV) (tab : List (Str × Bool)) : ME := fun env h => if env[i]? = some (some v) then (match v with
  | .exo _ _ C [] => match tab.lookup C with
    | some b => .ok (.bl b) h
    | none => .stuck
  | _ => .stuck) else .stuck
theorem se_isE {X0 : Cx} {a : Addr} {oe : Obj} {pn : List (Addr × Obj)} {C n D : Str} {xs : List MV} {d : Option Addr} {tab : List (Str × Bool)} {cv : Value} {v2 : V} {p p1 p2 pos : Pos} (i : Nat) (hz : Zc (.ref (Γ.cls C)) d oe) (hf : ∃ vs, oe.data = .fields vs)
    (hi : X0.N[i]? = some n) (hvis : Vis X0.env.scope n) (hdn : (n == ("__debug__" : Str)) = false) (hcn : (n == ("__classdict__" : Str)) = false)
    (hD : PE (X0.suite a ((a, oe) :: pn)) (.Name D p2) (tC v2)) (hcv : ∀ u, RelV v2 u → u = cv)
    (ht : ∀ q ∈ tab, ExcC X0.K (Γ.cls q.1) ∧ PySem.W.kitOne X0.K (.ref (Γ.cls q.1)) cv = some q.2)
    (hm : X0.mg "isinstance" = none) (hg : Gl X0 "isinstance" := by rfl) (hv : bootBuiltins "isinstance" = some (.builtin "isinstance") := by decide +kernel)
    (he : starEach [.Name n p1, .Name D p2] X0.env = (false, eval (.Name n p1) X0.env) :: starEach [.Name D p2] X0.env := by rfl) (he2 : starEach [.Name D p2] X0.env = (false, eval (.Name D p2) X0.env) :: starEach [] X0.env := by rfl) (hpl : (backTo pos (starEach [.Name D p2] X0.env)).any (·.1) = false := by rfl) :
    SE Γ (X0.suite a ((a, oe) :: pn)) W0 (.Call (.Name "isinstance" p) [.Name n p1, .Name D p2] [] pos) (mIsE i (.exo a d C xs) tab) := by
  by_cases hcase : ∃ b, tab.lookup C = some b
  · obtain ⟨b, hb⟩ := hcase
    obtain ⟨hE, hk⟩ := ht _ (PySem.mem_of_lookup hb)
    by_cases hd : d = none
    · subst hd
      refine ⟨_, pe_callB (X := X0.suite a ((a, oe) :: pn)) (call_isE (X := X0) hE hz hf) hg hm hv (pa_cons (pe_var (i := i) hi hvis hdn hcn) (pa_cons hD pa_nil he2) he) (by decide) (by decide) he hpl, fun S H h σ env Q R G q => ?_⟩
      unfold mIsE at q
      split at q
      · rename_i henv
        obtain ⟨v, h1, h2⟩ := G.2 i _ henv
        unfold Rep at h2
        obtain ⟨rfl, _⟩ := h2
        cases xs with
        | nil =>
          simp only [hb] at q
          exact ⟨.ref a, h1, v2, cv, b, rfl, hcv, hk, q.val R is_bl⟩
        | cons x xs => exact q.elim
      · exact q.elim
    · refine ⟨_, (⟨fun _ _ _ _ _ _ z => False.elim z⟩ : PE _ _ (fun _ _ _ => False)), fun S H h σ env Q R G q => ?_⟩
      unfold mIsE at q
      split at q
      · rename_i henv
        obtain ⟨v, h1, h2⟩ := G.2 i _ henv
        unfold Rep at h2
        obtain ⟨rfl, us, h3, h4⟩ := h2
        cases xs with
        | nil =>
          unfold RepL at h4
          subst h4
          rcases h3 with ⟨_, h3⟩ | ⟨dd, u, h3, _⟩
          · exact hd h3
          · cases h3
        | cons x xs => exact q.elim
      · exact q.elim
  · refine ⟨_, (⟨fun _ _ _ _ _ _ z => False.elim z⟩ : PE _ _ (fun _ _ _ => False)), fun S H h σ env Q R G q => ?_⟩
    unfold mIsE at q
    split at q
    · cases xs with
      | nil =>
        have : tab.lookup C = none := by
          cases z : tab.lookup C with
          | none => rfl
          | some b => exact absurd ⟨b, z⟩ hcase
        simp only [this] at q
        exact q.elim
      | cons x xs => exact q.elim
    · exact q.elim

/-! ### displays -/
def mTup (a : MA) : ME := fun env h => (a env h).bind fun xs h => if xs.length ≤ sizeLine then .ok (.tup xs) h else .stuck
def mLst (b : Bool) (a : MA) : ME := fun env h => (a env h).bind fun xs h => if xs.length ≤ sizeLine then retL b xs h else .stuck
variable {es : List Expr} {ms : MA} {pos : Pos}
theorem se_tup {x1} (ha : SA Γ X W es ms) : SE Γ X W (.Tuple es x1 pos) (mTup ms) := by
  obtain ⟨t, pt, et⟩ := ha.ex
  refine ⟨_, pe_tup pt, fun S H h σ env Q R G p => exA_bind (t := t) et R G p fun xs h1 S1 H1 us e1 R1 G1 r1 p1 => ?_⟩
  split at p1
  · rename_i hz
    exact ⟨by rw [← repL_len r1]; exact hz, newT R1 r1 p1⟩
  · exact p1.elim
theorem se_lst (b : Bool) (ha : SA Γ X W es ms) : SE Γ X W (.List es pos) (mLst b ms) := by
  obtain ⟨t, pt, et⟩ := ha.ex
  refine ⟨_, pe_lst pt, fun S H h σ env Q R G p => exA_bind (t := t) et R G p fun xs h1 S1 H1 us e1 R1 G1 r1 p1 => ?_⟩
  split at p1
  · rename_i hz
    exact ⟨by rw [← repL_len r1]; exact hz, newL R1 r1 p1⟩
  · exact p1.elim

/-! ### methods of built-in types -/
def LiftM (Γ : Gm) (K : PySem.W.Frag) (r : V → List V → Hp → VK → Prop) (f : MV → List MV → MH → Out MV) : Prop :=
  ∀ S H h x u xs us Q E, Rel Γ K S h H → Rep Γ K S x u → RepL Γ K S xs us → Post Γ K (Rep Γ K) S H Q E (f x xs h) → r u us H Q
def tyChk (T : String) (h : MH) (x : MV) : Bool := (T == "list" && (lstAt h x).isSome) || (T == "str" && (match x with | .str _ => true | _ => false)) || (T == "dict" && (match x with | .ref n => (match h[n]? with | some (.dct _) => true | _ => false) | _ => false))
theorem tyChk_ok {T : String} {S : Sh} {H : Hp} {h : MH} {x : MV} {v : V} (R : Rel Γ K S h H) (e : tyChk T h x = true) (r : Rep Γ K S x v) : tyV K T v H := by
  unfold tyChk at e
  simp only [Bool.or_eq_true, Bool.and_eq_true, beq_iff_eq] at e
  rcases e with (⟨rfl, e⟩ | ⟨rfl, e⟩) | ⟨rfl, e⟩
  · obtain ⟨xs, hx⟩ := Option.isSome_iff_exists.mp e
    obtain ⟨a, us, rfl, q2, q3⟩ := lstAt_ok R hx r
    exact .inl ⟨rfl, us, q2⟩
  · cases x with
    | str z => rw [rep_str r]; exact rfl
    | _ => cases e
  · cases x with
    | ref n =>
      simp only at e
      split at e
      · rename_i kvs hx
        unfold Rep at r
        obtain ⟨a, e1, rfl⟩ := r
        obtain ⟨_, us, q2, q3⟩ := R.cell n _ a hx e1
        exact .inr (.inr (.inl ⟨rfl, .inl ⟨us, q2⟩⟩))
      · cases e
    | _ => cases e
def mM (T : String) (f : MV → List MV → MH → Out MV) (o : ME) (a : MA) : ME := fun env h => (o env h).bind fun x h => if tyChk T h x = true then (a env h).bind fun xs h => f x xs h else .stuck
def mM0 (T : String) (f : MV → List MV → MH → Out MV) (o : ME) : ME := fun env h => (o env h).bind fun x h => if tyChk T h x = true then f x [] h else .stuck
variable {o e : Expr} {mo : ME} {name : Str} {apos cpos : Pos} {T id : String} {r : V → List V → Hp → VK → Prop} {f : MV → List MV → MH → Out MV}
theorem se_m0 (pa : PlainAttrs T) (slot : Slot T name id) (hty : typeOf (.builtin id) = pure (.type "method_descriptor")) (hm : MtR X id r) (hl : LiftM Γ X.K r f) (ho : SE Γ X W o mo)
    (hbase : attributeBase o name X.env (eval o X.env) = eval o X.env := by rfl) (hline : (apos.endLine == cpos.line) = true := by rfl) : SE Γ X W (.Call (.Attribute o name apos) [] [] cpos) (mM0 T f mo) := by
  obtain ⟨t, pt, et⟩ := ho.ex
  refine ⟨_, pe_bm0 pa slot hty hm pt hbase hline, fun S H h σ env Q R G p => exE_bind (t := t) et R G p fun x h1 S1 H1 v e1 R1 G1 r1 p1 => ?_⟩
  split at p1
  · rename_i hc
    exact ⟨tyChk_ok R1 hc r1, hl S1 H1 h1 x v [] [] Q _ R1 r1 repL_nil p1⟩
  · exact p1.elim
theorem se_m (pa : PlainAttrs T) (slot : Slot T name id) (hty : typeOf (.builtin id) = pure (.type "method_descriptor")) (hm : MtR X id r) (hl : LiftM Γ X.K r f) (ho : SE Γ X W o mo) (ha : SA Γ X W (e :: es) ms)
    (hbase : attributeBase o name X.env (eval o X.env) = eval o X.env := by rfl)
    (hfew : ((backTo cpos (starEach (e :: es) X.env)).all (fun x => !x.1) && (backToKw cpos (keywordEach [] X.env)).all (fun x => x.1.isSome)
      && decide ((e :: es).length + ([] : List Keyword).length + (if ([] : List Keyword).isEmpty then 0 else 1) < 30)) = true := by rfl)
    (hline : (apos.endLine == cpos.line) = true := by rfl) (hs : starEach (e :: es) X.env = (false, eval e X.env) :: starEach es X.env := by rfl) (hplain : (backTo cpos (starEach es X.env)).any (·.1) = false := by rfl) : SE Γ X W (.Call (.Attribute o name apos) (e :: es) [] cpos) (mM T f mo ms) := by
  obtain ⟨t, pt, et⟩ := ho.ex
  obtain ⟨ta, pta, eta⟩ := ha.ex
  refine ⟨_, pe_bm pa slot hty hm pt pta hbase hfew hline hs hplain, fun S H h σ env Q R G p => exE_bind (t := t) et R G p fun x h1 S1 H1 v e1 R1 G1 r1 p1 => ?_⟩
  split at p1
  · rename_i hc
    exact ⟨tyChk_ok R1 hc r1, exA_bind (t := ta) eta R1 G1 p1 fun xs h2 S2 H2 us e2 R2 G2 r2 p2 => hl S2 H2 h2 x v xs us Q _ R2 (r1.ext e2) r2 p2⟩
  · exact p1.elim
def fAppend : MV → List MV → MH → Out MV
  | .ref n, [y], h => match h[n]? with
    | some (.lst xs) => if xs.length < sizeLine then .ok .non (h.set n (.lst (xs ++ [y]))) else .stuck
    | _ => .stuck
  | _, _, _ => .stuck
theorem lift_append : LiftM Γ K rAppend fAppend := by
  intro S H h x u xs us Q E R rx rs p
  unfold fAppend at p
  split at p
  · split at p
    · rename_i n y _ xs hx
      split at p
      · rename_i hz
        obtain ⟨v, rfl, q1⟩ := repL_1 rs
        obtain ⟨a, vs, rfl, q2, q3, q4⟩ := storeL (ys := xs ++ [y]) R hx rx
        obtain ⟨R1, e1⟩ := q4 _ (repL_app q3 (repL_cons q1 repL_nil))
        exact ⟨a, vs, v, rfl, rfl, q2, by rw [← repL_len q3]; exact hz, p _ _ .non e1 R1 is_non⟩
      · exact p.elim
    · exact p.elim
  · exact p.elim
def fPop : MV → List MV → MH → Out MV
  | .ref n, [], h => match h[n]? with
    | some (.lst xs) => match xs[xs.length - 1]? with
      | some y => .ok y (h.set n (.lst xs.dropLast))
      | none => .stuck
    | _ => .stuck
  | _, _, _ => .stuck
theorem lift_pop : LiftM Γ K rPop fPop := by
  intro S H h x u xs us Q E R rx rs p
  unfold fPop at p
  split at p
  · split at p
    · rename_i n xs hx
      split at p
      · rename_i y hy
        unfold RepL at rs
        subst rs
        obtain ⟨a, vs, rfl, q2, q3, q4⟩ := storeL (ys := xs.dropLast) R hx rx
        obtain ⟨w, w1, w2⟩ := repL_get q3 hy
        obtain ⟨R1, e1⟩ := q4 _ (repL_dropLast q3)
        exact ⟨a, vs, w, rfl, rfl, q2, by rw [← repL_len q3]; exact w1, p _ _ w e1 R1 (w2.ext e1)⟩
      · exact p.elim
    · exact p.elim
  · exact p.elim
def fReverse : MV → List MV → MH → Out MV
  | .ref n, [], h => match h[n]? with
    | some (.lst xs) => .ok .non (h.set n (.lst xs.reverse))
    | _ => .stuck
  | _, _, _ => .stuck
theorem lift_reverse : LiftM Γ K rReverse fReverse := by
  intro S H h x u xs us Q E R rx rs p
  unfold fReverse at p
  split at p
  · split at p
    · rename_i n xs hx
      unfold RepL at rs
      subst rs
      obtain ⟨a, vs, rfl, q2, q3, q4⟩ := storeL (ys := xs.reverse) R hx rx
      obtain ⟨R1, e1⟩ := q4 _ (repL_rev q3)
      exact ⟨a, vs, rfl, rfl, q2, p _ _ .non e1 R1 is_non⟩
    · exact p.elim
  · exact p.elim
def fExtend : MV → List MV → MH → Out MV
  | .ref n, [y], h => match h[n]?, wlst h y with
    | some (.lst xs), some ys => if xs.length + ys.length ≤ sizeLine then .ok .non (h.set n (.lst (xs ++ ys))) else .stuck
    | _, _ => .stuck
  | _, _, _ => .stuck
theorem lift_extend : LiftM Γ K rExtend fExtend := by
  intro S H h x u xs us Q E R rx rs p
  unfold fExtend at p
  split at p
  · split at p
    · rename_i n y xs ys hx hy
      split at p
      · rename_i hz
        obtain ⟨v, rfl, q1⟩ := repL_1 rs
        obtain ⟨b, ws, rfl, w2, w3⟩ := wlst_ok R hy q1
        obtain ⟨a, vs, rfl, q2, q3, q4⟩ := storeL (ys := xs ++ ys) R hx rx
        obtain ⟨R1, e1⟩ := q4 _ (repL_app q3 w3)
        exact ⟨a, b, vs, ws, rfl, rfl, q2, w2, by rw [← repL_len q3, ← repL_len w3]; exact hz, p _ _ .non e1 R1 is_non⟩
      · exact p.elim
    · exact p.elim
  · exact p.elim
/-! in, not in: flat things -/
def scalV : MV → Option V
  | .non => some .non
  | .bl b => some (.bl b)
  | .int i => some (.int i)
  | .str x => some (.str x)
  | _ => none
def scalVs : List MV → Option (List V)
  | [] => some []
  | x :: xs => match scalV x, scalVs xs with
    | some v, some vs => some (v :: vs)
    | _, _ => none
theorem scalV_ok {S : Sh} {x : MV} {v w : V} (e : scalV x = some w) (r : Rep Γ K S x v) : v = w := by
  cases x with
  | non => cases e; exact rep_non r
  | bl _ => cases e; exact rep_bl r
  | int _ => cases e; exact rep_int r
  | str _ => cases e; exact rep_str r
  | _ => cases e
theorem scalVs_ok {S : Sh} : ∀ {xs : List MV} {vs ws : List V}, scalVs xs = some ws → RepL Γ K S xs vs → vs = ws
  | [], vs, ws, e, r => by cases e; unfold RepL at r; exact r
  | x :: xs, vs, ws, e, r => by
    unfold RepL at r
    obtain ⟨u, r', rfl, q1, q2⟩ := r
    unfold scalVs at e
    split at e
    · rename_i v vs' h1 h2
      cases e
      rw [scalV_ok h1 q1, scalVs_ok h2 q2]
    · cases e
theorem scalV_flat {x : MV} {w : V} (e : scalV x = some w) : flatV w = true := by
  cases x with
  | non => cases e; rfl
  | bl _ => cases e; rfl
  | int _ => cases e; rfl
  | str _ => cases e; rfl
  | _ => cases e
theorem scalVs_flat : ∀ {xs : List MV} {ws : List V}, scalVs xs = some ws → ws.all flatV = true
  | [], ws, e => by cases e; rfl
  | x :: xs, ws, e => by
    unfold scalVs at e
    split at e
    · rename_i v vs' h1 h2
      cases e
      rw [List.all_cons, scalV_flat h1, scalVs_flat h2]; rfl
    · cases e
def fIn (neg : Bool) (x y : MV) (h : MH) : Out MV := match scalV x, seqAt h y with
  | some v, some xs => match scalVs xs with
    | some vs => .ok (.bl (if neg = true then !inV v vs else inV v vs)) h
    | none => .stuck
  | _, _ => .stuck
theorem lift_in {neg : Bool} : Lift2 Γ K (rIn K neg) (fIn neg) := by
  intro S H h x y u v Q E R rx ry p
  unfold fIn at p
  split at p
  · rename_i w xs h1 h2
    split at p
    · rename_i vs h3
      obtain ⟨a, us, rfl, q2, q3⟩ := seqAt_ok R h2 ry
      have e1 := scalV_ok h1 rx
      have e2 := scalVs_ok h3 q3
      subst e1 e2
      exact ⟨a, us, rfl, q2, scalV_flat h1, scalVs_flat h3, p.val R is_bl⟩
    · exact p.elim
  · exact p.elim
end
end Mn
/-! ## MnH -/
set_option Elab.async false
set_option linter.all false
set_option maxRecDepth 100000
/-! Mn, part H: short words for printed derivations. -/
namespace Mn
open PySem PySem.Spec PyProof.Rows L2

theorem kit_own {K : PySem.W.Frag} {R C : Addr} {b : Bool} (hd : PySem.W.hasDictIn K C = true) (ht : PySem.W.typeIn K (.ref C) = some (.type "type")) (hs : PySem.W.subIn K (.ref R) (.ref C) = some b) (hn : b = true ∨ R ≠ C) : PySem.W.kitOne K (.ref R) (.ref C) = some b := by
  obtain ⟨cd, hc, _⟩ := PySem.W.any_some hd
  unfold PySem.W.kitOne
  split
  · rename_i e
    have e' : R = C := Value.ref.inj (beq_iff_eq.mp e)
    rcases hn with rfl | hn
    · rfl
    · exact absurd e' hn
  · unfold PySem.W.kitCls
    simp only [hc, ht, Option.isSome_some, beq_self_eq_true, Bool.and_self, if_true]
    exact hs
theorem kit_bltn {K : PySem.W.Frag} {R : Addr} {T : String} {b : Bool} (hm : PySem.W.kitMeta T = true) (hs : PySem.W.subIn K (.ref R) (.type T) = some b) : PySem.W.kitOne K (.ref R) (.type T) = some b := by
  unfold PySem.W.kitOne
  rw [if_neg (by intro e; exact nomatch (beq_iff_eq.mp e))]
  unfold PySem.W.kitCls
  simp only [hm, if_true]
  exact hs
/-- a def that may be called by its name -/
structure CallOk (P : Program) (w : World) (K : PySem.W.Frag) (mg : Str → Option Value) (base : Heap) (Γ : Gm) (k : Nat) (x : Str) (n : Nat) (g : MF) : Prop where
  ex : ∃ (f : Addr) (fd : FuncData) (ps : List Str), FnOk P w K mg base (L2.CX P w) k f fd ps (spM Γ K n g) ∧ mg x = some (.ref f) ∧ PySem.W.keepIn K (.ref f) = true ∧ Binds K fd ps []
/-- a def of the text as the top left it -/
structure DefOk (K : PySem.W.Frag) (mg : Str → Option Value) (x : Str) (st : Stmt) (ps : List Str) : Prop where
  ex : ∃ (f : Addr) (fd : FuncData), Fun K x x st f fd ∧ (∀ us : List Value, us.length = ps.length → bindArgs fd ⟨us, []⟩ = pure (ps.zip us)) ∧ mg x = some (.ref f)
/-- its promise -/
structure DefRun (P : Program) (w : World) (K : PySem.W.Frag) (mg : Str → Option Value) (base : Heap) (Γ : Gm) (k : Nat) (x : Str) (ps : List Str) (g : MF) : Prop where
  ex : ∃ (f : Addr) (fd : FuncData), FnOk P w K mg base (L2.CX P w) k f fd ps (spM Γ K ps.length g) ∧ mg x = some (.ref f) ∧ PySem.W.keepIn K (.ref f) = true ∧ (∀ us : List Value, us.length = ps.length → bindArgs fd ⟨us, []⟩ = pure (ps.zip us)) ∧ ∃ oc od sl, K.lookup f = some ⟨oc, od, .func fd, sl⟩
section
variable {P : Program} {w : World} {K : PySem.W.Frag} {mg : Str → Option Value} {base : Heap} {Γ : Gm} {k j n : Nat} {x : Str} {g : MF} {ps : List Str}
theorem CallOk.mono (c : CallOk P w K mg base Γ j x n g) (h : j ≤ k) : CallOk P w K mg base Γ k x n g := by
  obtain ⟨f, fd, ps, h1, h2, h3, h4⟩ := c.ex
  exact ⟨f, fd, ps, h1.mono h, h2, h3, h4⟩
theorem DefRun.call (c : DefRun P w K mg base Γ k x ps g) : CallOk P w K mg base Γ k x ps.length g := by
  obtain ⟨f, fd, h1, h2, h3, h4, _⟩ := c.ex
  exact ⟨f, fd, ps, h1, h2, h3, .all h4⟩
theorem def_mk {st : Stmt} {f : Addr} {oc : Value} {od an : Option Addr} {osl : Array (Option Value)} {kV doc pm cdv ct : Value} (l : K.lookup f = some ⟨oc, od, .func (PySem.W.fnOf x x (defArgs st) (defBody st) (defScope st) .none kV doc pm an cdv ct), osl⟩)
    (c : PySem.W.codeIn K cdv x = true) (kp : PySem.W.keepIn K (.ref f) = true) (g : mg x = some (.ref f))
    (h : ∀ us : List Value, us.length = ps.length → bindArgs (PySem.W.fnOf x x (defArgs st) (defBody st) (defScope st) .none kV doc pm an cdv ct) ⟨us, []⟩ = pure (ps.zip us)) : DefOk K mg x st ps := ⟨f, _, fun_mk l c kp, h, g⟩
theorem def_ok {st : Stmt} {N : List Str} {m : MS} (D : DefOk K mg x st ps) (S : FnScope N ps (defScope st))
    (hb : ∀ (f : Addr) (cdv : Value) (A : Around) (outer : List Env) (s : Shared) (H : Hp) (E : XK), Room k (A.deeper (envOfC x (defScope st) s.heap.objs.size f cdv)) →
      SSs Γ (cxOf (L2.CX P w) P w K mg base N x (defScope st) f cdv A outer s H E) (fun c d _ H => E c d H) (defBody st) m) : DefRun P w K mg base Γ (k + 1) x ps (runF N.length m) := by
  obtain ⟨f, fd, F, b, hm⟩ := D.ex
  obtain ⟨oc, od, kV, doc, pm, an, cdv, ct, osl, e, lk, _⟩ := id F.ex
  exact ⟨f, fd, fn_ok F S (hb f), hm, F.kp, b, oc, od, osl, lk⟩
/-- the law's promise, whatever the classes' addresses -/
def spL (K : PySem.W.Frag) (g : MF) : Sp := fun vs H Q E => ∀ Γ, spM Γ K 1 g vs H Q E
/-- the law's own promise, for the head -/
theorem law_run {l : PySem.W.OpenLaw} {y : Str} {fa : Addr} (h : Heap) (hfa : mg "law" = some (.ref fa)) (R : ∀ base, DefRun l.prog w K mg base Γ k "law" [y] g) :
    ∃ fd : FuncData, (∀ (s : Shared) (v : Value), BindsTo s fd ⟨[v], []⟩ [(y, v)]) ∧ ∀ base : Heap, K.In base → base.Ns mainGlobals mg → FnOk l.prog w K mg base (L2.CX l.prog w) k fa fd [y] (spL K g) := by
  obtain ⟨f, fd, h1, h2, h3, h4, oc, od, sl, lk⟩ := (R h).ex
  rw [hfa] at h2
  cases h2
  refine ⟨fd, fun s v => .of_eq (h4 [v] rfl), fun base _ _ => ?_⟩
  obtain ⟨f', fd', g1, g2, g3, g4, oc', od', sl', lk'⟩ := (R base).ex
  rw [hfa] at g2
  cases g2
  rw [lk] at lk'
  cases lk'
  exact g1.imp fun _ _ _ _ h => h Γ
theorem law_sp {ns : List Int} {a : Addr} {H : Hp} (hs : SqL K H a (ns.map V.int)) (hr : ∃ h', g [.sl (ns.map MV.int)] [] = .ok (.bl true) h') : spL K g [.ref a] H (fun v _ => v = .bl true) fun _ _ _ => False := by
  obtain ⟨h', e⟩ := hr
  intro Γ
  refine ⟨rfl, ⟨H, []⟩, [], [.sl (ns.map MV.int)], ⟨fun _ _ h => h, rfl, List.nodup_nil, fun _ h => (nomatch h), fun n c a h => (by cases h)⟩, repL_cons (by unfold Rep; exact ⟨a, _, rfl, hs, ints_repL ns⟩) repL_nil, ?_⟩
  rw [e]
  exact fun S' H' b _ _ r => rep_bl r
def fIpAdd := fII (fun _ _ => true) (fun i j => .int (i + j))
theorem lift_ipadd : Lift2 Γ K (ipI fun i j => i + j) fIpAdd := lift_ii0 (g' := fun i j => .int (i + j)) fun _ _ _ => is_int
theorem lift_ipsub : Lift2 Γ K (ipI fun i j => i - j) fSub := lift_ii0 (g' := fun i j => .int (i - j)) fun _ _ _ => is_int
variable {X : Cx} {W : WX} {e : Expr} {es : List Expr} {ms : MA} {pos p : Pos}
theorem sc_call (c : CallOk X.prog X.w X.K X.mg X.base Γ k x n g) (hr : Room k X.A) (tk : Takes X W) (ha : SA Γ X W (e :: es) ms) (hg : Gl X x := by rfl) (hdb : (x == ("__debug__" : Str)) = false := by decide) (he : starEach (e :: es) X.env = (false, eval e X.env) :: starEach es X.env := by rfl) (hpl : (backTo pos (starEach es X.env)).any (·.1) = false := by rfl) :
    SE Γ X W (.Call (.Name x p) (e :: es) [] pos) (mCall n g ms) := by
  obtain ⟨f, fd, ps, h1, h2, h3, h4⟩ := c.ex
  exact se_call h1 hr h2 h3 h4 tk ha hg hdb he hpl
theorem bt_len : bootBuiltins "len" = some (.builtin "len") := by decide +kernel
theorem bt_int : bootBuiltins "int" = some (.type "int") := by decide +kernel
theorem bt_list : bootBuiltins "list" = some (.type "list") := by decide +kernel
theorem bt_tuple : bootBuiltins "tuple" = some (.type "tuple") := by decide +kernel
theorem bt_max : bootBuiltins "max" = some (.builtin "max") := by decide +kernel
theorem bt_min : bootBuiltins "min" = some (.builtin "min") := by decide +kernel
theorem bt_sum : bootBuiltins "sum" = some (.builtin "sum") := by decide +kernel
theorem bt_isinstance : bootBuiltins "isinstance" = some (.builtin "isinstance") := by decide +kernel
theorem bt_bool : bootBuiltins "bool" = some (.type "bool") := by decide +kernel
theorem bt_str : bootBuiltins "str" = some (.type "str") := by decide +kernel
theorem sb_len (hm : X.mg "len" = none) (ha : SA Γ X W (e :: es) ms) (hg : Gl X "len" := by rfl) (he : starEach (e :: es) X.env = (false, eval e X.env) :: starEach es X.env := by rfl) (hpl : (backTo pos (starEach es X.env)).any (·.1) = false := by rfl) : SE Γ X W (.Call (.Name "len" p) (e :: es) [] pos) (mF fLen ms) :=
  se_callB call_lenAll lift_len hg hm bt_len ha (by decide) (by decide) he hpl
theorem sb_int (hm : X.mg "int" = none) (ha : SA Γ X W (e :: es) ms) (hg : Gl X "int" := by rfl) (he : starEach (e :: es) X.env = (false, eval e X.env) :: starEach es X.env := by rfl) (hpl : (backTo pos (starEach es X.env)).any (·.1) = false := by rfl) : SE Γ X W (.Call (.Name "int" p) (e :: es) [] pos) (mF fInt ms) :=
  se_callTy call_int1 lift_int hg hm bt_int ha (by decide) (by decide) he hpl
theorem sb_list (b : Bool) (hm : X.mg "list" = none) (ha : SA Γ X W (e :: es) ms) (hg : Gl X "list" := by rfl) (he : starEach (e :: es) X.env = (false, eval e X.env) :: starEach es X.env := by rfl) (hpl : (backTo pos (starEach es X.env)).any (·.1) = false := by rfl) : SE Γ X W (.Call (.Name "list" p) (e :: es) [] pos) (mF (fList b) ms) :=
  se_callTy call_list_of lift_list hg hm bt_list ha (by decide) (by decide) he hpl
theorem sb_tuple (hm : X.mg "tuple" = none) (ha : SA Γ X W (e :: es) ms) (hg : Gl X "tuple" := by rfl) (he : starEach (e :: es) X.env = (false, eval e X.env) :: starEach es X.env := by rfl) (hpl : (backTo pos (starEach es X.env)).any (·.1) = false := by rfl) : SE Γ X W (.Call (.Name "tuple" p) (e :: es) [] pos) (mF fTuple ms) :=
  se_callTy call_tuple_of lift_tuple hg hm bt_tuple ha (by decide) (by decide) he hpl
theorem sb_max2 (hc : X.calm = true) (hm : X.mg "max" = none) (ha : SA Γ X W (e :: es) ms) (hg : Gl X "max" := by rfl) (he : starEach (e :: es) X.env = (false, eval e X.env) :: starEach es X.env := by rfl) (hpl : (backTo pos (starEach es X.env)).any (·.1) = false := by rfl) : SE Γ X W (.Call (.Name "max" p) (e :: es) [] pos) (mF fMax2 ms) :=
  se_callB (call_max2 hc) lift_max2 hg hm bt_max ha (by decide) (by decide) he hpl
theorem sb_min2 (hc : X.calm = true) (hm : X.mg "min" = none) (ha : SA Γ X W (e :: es) ms) (hg : Gl X "min" := by rfl) (he : starEach (e :: es) X.env = (false, eval e X.env) :: starEach es X.env := by rfl) (hpl : (backTo pos (starEach es X.env)).any (·.1) = false := by rfl) : SE Γ X W (.Call (.Name "min" p) (e :: es) [] pos) (mF fMin2 ms) :=
  se_callB (call_min2 hc) lift_min2 hg hm bt_min ha (by decide) (by decide) he hpl
theorem sb_max1 (hc : X.calm = true) (hm : X.mg "max" = none) (ha : SA Γ X W (e :: es) ms) (hg : Gl X "max" := by rfl) (he : starEach (e :: es) X.env = (false, eval e X.env) :: starEach es X.env := by rfl) (hpl : (backTo pos (starEach es X.env)).any (·.1) = false := by rfl) : SE Γ X W (.Call (.Name "max" p) (e :: es) [] pos) (mF fMax1 ms) :=
  se_callB (cr_max hc) lift_max1 hg hm bt_max ha (by decide) (by decide) he hpl
theorem sb_min1 (hc : X.calm = true) (hm : X.mg "min" = none) (ha : SA Γ X W (e :: es) ms) (hg : Gl X "min" := by rfl) (he : starEach (e :: es) X.env = (false, eval e X.env) :: starEach es X.env := by rfl) (hpl : (backTo pos (starEach es X.env)).any (·.1) = false := by rfl) : SE Γ X W (.Call (.Name "min" p) (e :: es) [] pos) (mF fMin1 ms) :=
  se_callB (cr_min hc) lift_min1 hg hm bt_min ha (by decide) (by decide) he hpl
theorem sb_sum (hc : X.calm = true) (hm : X.mg "sum" = none) (ha : SA Γ X W (e :: es) ms) (hg : Gl X "sum" := by rfl) (he : starEach (e :: es) X.env = (false, eval e X.env) :: starEach es X.env := by rfl) (hpl : (backTo pos (starEach es X.env)).any (·.1) = false := by rfl) : SE Γ X W (.Call (.Name "sum" p) (e :: es) [] pos) (mF fSum ms) :=
  se_callB (cr_sum hc) lift_sum hg hm bt_sum ha (by decide) (by decide) he hpl
variable {o : Expr} {mo : ME} {apos cpos : Pos}
theorem sm_append (ho : SE Γ X W o mo) (ha : SA Γ X W (e :: es) ms) (hbase : attributeBase o "append" X.env (eval o X.env) = eval o X.env := by rfl)
    (hfew : ((backTo cpos (starEach (e :: es) X.env)).all (fun x => !x.1) && (backToKw cpos (keywordEach [] X.env)).all (fun x => x.1.isSome)
      && decide ((e :: es).length + ([] : List Keyword).length + (if ([] : List Keyword).isEmpty then 0 else 1) < 30)) = true := by rfl)
    (hline : (apos.endLine == cpos.line) = true := by rfl) (hs : starEach (e :: es) X.env = (false, eval e X.env) :: starEach es X.env := by rfl) (hplain : (backTo cpos (starEach es X.env)).any (·.1) = false := by rfl) : SE Γ X W (.Call (.Attribute o "append" apos) (e :: es) [] cpos) (mM "list" fAppend mo ms) :=
  se_m PySem.F.plainAttrs_list PySem.F.slot_list_append PySem.F.type_list_append mt_append lift_append ho ha hbase hfew hline hs hplain
theorem sm_extend (ho : SE Γ X W o mo) (ha : SA Γ X W (e :: es) ms) (hbase : attributeBase o "extend" X.env (eval o X.env) = eval o X.env := by rfl)
    (hfew : ((backTo cpos (starEach (e :: es) X.env)).all (fun x => !x.1) && (backToKw cpos (keywordEach [] X.env)).all (fun x => x.1.isSome)
      && decide ((e :: es).length + ([] : List Keyword).length + (if ([] : List Keyword).isEmpty then 0 else 1) < 30)) = true := by rfl)
    (hline : (apos.endLine == cpos.line) = true := by rfl) (hs : starEach (e :: es) X.env = (false, eval e X.env) :: starEach es X.env := by rfl) (hplain : (backTo cpos (starEach es X.env)).any (·.1) = false := by rfl) : SE Γ X W (.Call (.Attribute o "extend" apos) (e :: es) [] cpos) (mM "list" fExtend mo ms) :=
  se_m PySem.F.plainAttrs_list PySem.F.slot_list_extend PySem.F.type_list_extend mt_extend lift_extend ho ha hbase hfew hline hs hplain
theorem sm_pop (ho : SE Γ X W o mo) (hbase : attributeBase o "pop" X.env (eval o X.env) = eval o X.env := by rfl) (hline : (apos.endLine == cpos.line) = true := by rfl) : SE Γ X W (.Call (.Attribute o "pop" apos) [] [] cpos) (mM0 "list" fPop mo) :=
  se_m0 PySem.F.plainAttrs_list PySem.F.slot_list_pop PySem.F.type_list_pop mt_pop lift_pop ho hbase hline
theorem sm_reverse (ho : SE Γ X W o mo) (hbase : attributeBase o "reverse" X.env (eval o X.env) = eval o X.env := by rfl) (hline : (apos.endLine == cpos.line) = true := by rfl) : SE Γ X W (.Call (.Attribute o "reverse" apos) [] [] cpos) (mM0 "list" fReverse mo) :=
  se_m0 PySem.F.plainAttrs_list PySem.F.slot_list_reverse PySem.F.type_list_reverse mt_reverse lift_reverse ho hbase hline
/-- an exception class of the text's own, without own __init__ -/
structure ExcOk (X' : Type) (K : PySem.W.Frag) (mg : Str → Option Value) (Γ : Gm) (x : Str) : Prop where
  q : PySem.W.excIn K (Γ.cls x) [.type "ValueError", .type "Exception", .type "BaseException", .type "object"] "ValueError.__new__" = true
  g : mg x = some (.ref (Γ.cls x))
  k : PySem.W.keepIn K (.ref (Γ.cls x)) = true
  sb : PySem.W.subIn K (.ref (Γ.cls x)) (.type "BaseException") = some true
  ty : PySem.W.typeIn K (.ref (Γ.cls x)) = some (.type "type")
end
end Mn
/-! ## MnI -/
set_option Elab.async false
set_option linter.all false
set_option maxRecDepth 100000
/-! Mn, part I: math.lcm by name. -/
namespace Mn
open PySem PySem.Spec PyProof.Rows L2
def rLcm : List V → Hp → VK → Prop := fun vs H Q => ∃ a b : Int, vs = [.int a, .int b] ∧ a.natAbs < 2 ^ 64 ∧ b.natAbs < 2 ^ 64 ∧ Q (.int ((Nat.lcm a.natAbs b.natAbs : Nat) : Int)) H
theorem cr_lcm {X : Cx} : CallR X (.builtin "math.lcm") rLcm := by
  intro pins s σ H vs us Q I r h
  obtain ⟨a, b, rfl, ha, hb, q⟩ := h
  obtain ⟨t, u, rfl⟩ := Vals.int2 r
  exact PySem.W.mc_lcm ha hb fun _ => ⟨.int _, H, I.tok _, ⟨_, rfl⟩, q⟩
def fLcm : MF
  | [.int i, .int j], h => if i.natAbs < 2 ^ 64 ∧ j.natAbs < 2 ^ 64 then .ok (.int ((Nat.lcm i.natAbs j.natAbs : Nat) : Int)) h else .stuck
  | _, _ => .stuck
section
variable {Γ : Gm} {K : PySem.W.Frag}
theorem lift_lcm : LiftF Γ K rLcm fLcm := by
  intro S H h xs us Q E R r p
  unfold fLcm at p
  split at p
  · split at p
    · rename_i hz
      obtain ⟨v, w, rfl, q1, q2⟩ := repL_2 r
      exact ⟨_, _, by rw [rep_int q1, rep_int q2], hz.1, hz.2, p.val R is_int⟩
    · exact p.elim
  · exact p.elim
end
section
variable {Γ : Gm} {X : Cx} {W : WX} {e : Expr} {es : List Expr} {ms : MA} {pos p : Pos}
theorem sb_lcm (hm : X.mg "lcm" = some (.builtin "math.lcm")) (ha : SA Γ X W (e :: es) ms) (hg : Gl X "lcm" := by rfl) (he : starEach (e :: es) X.env = (false, eval e X.env) :: starEach es X.env := by rfl) (hpl : (backTo pos (starEach es X.env)).any (·.1) = false := by rfl) : SE Γ X W (.Call (.Name "lcm" p) (e :: es) [] pos) (mF fLcm ms) := by
  obtain ⟨ta, pa, ea⟩ := ha.ex
  exact ⟨_, pe_callBfun cr_lcm hg hm pa (by decide) he hpl, fun S H h σ env Q R G p => exA_bind (t := ta) ea R G p fun xs h1 S1 H1 us e1 R1 G1 r1 p1 => lift_lcm S1 H1 h1 xs us Q _ R1 r1 p1⟩
end
end Mn
/-! ## MnJ -/
set_option Elab.async false
set_option linter.all false
set_option maxRecDepth 100000
/-! Mn, part J: classes of the program: making an object, its fields. -/
namespace Mn
open PySem PySem.Spec PyProof.Rows L2
section
variable {X : Cx} {CX : CXT} {k : Nat} {f C : Addr} {fd : FuncData} {ps : List Str} {sp : Sp} {E : L2.St → XK} {x : Str} {p pos : Pos} {e : Expr} {es : List Expr} {t : TA}
def tMkS (C : Addr) (sp : Sp) (E : L2.St → XK) (t : TA) : TE := fun σ H Q => t σ H fun vs H1 => ∀ x dx, H1 x = none → H1 dx = none → dx ≠ x → sp (.ref x :: vs) (upd (upd H1 dx (.own x)) x (.ins C dx [])) (fun v H2 => v = .non ∧ Q (.ref x) H2) (E σ)
theorem run_mkS {pins : List (Addr × Obj)} {σ : L2.St} {H : Hp} {s : Shared} {Q : VK} {us : List Value} {vs : List V} (M : Mk X.K C f) (F : FnOk X.prog X.w X.K X.mg X.base CX k f fd ps sp) (hr : Room (k + 1) X.A) (hb : Binds X.K fd ps []) (hx : PassesAt CX X σ (E σ)) (I : Inv X pins σ H s) (r : Vals vs us)
    (h : ∀ x dx, H x = none → H dx = none → dx ≠ x → sp (.ref x :: vs) (upd (upd H dx (.own x)) x (.ins C dx [])) (fun v H2 => v = .non ∧ Q (.ref x) H2) (E σ)) : wpAny (model X.prog X.w) X.A (call (.ref C) us) (EP X pins σ Q) X.xe s := by
  have q0 := h (s.heap.objs.size + 1) s.heap.objs.size (I.hok.fresh (Nat.le_succ _)) (I.hok.fresh (Nat.le_refl _)) (Nat.ne_of_lt (Nat.lt_succ_self _))
  have J := Inv.made (C := C) I
  have rr : Vals (V.ref (s.heap.objs.size + 1) :: vs) (Value.ref (s.heap.objs.size + 1) :: us) := .cons rfl r
  have hl : (Value.ref (s.heap.objs.size + 1) :: us ++ []).length = ps.length := by
    have e := rr.length
    rw [F.len _ _ _ _ q0] at e
    rw [List.append_nil]
    exact e.symm
  have bb := hb _ (Value.ref (s.heap.objs.size + 1) :: us) J.kIn hl
  rw [List.append_nil] at bb
  refine wpAny_call (make_map (f := f) I.kIn M.makes M.init (beq_iff_eq.mp M.fn) (codeAny_mono (F.run _ X.stack _ _ ⟨Value.ref (s.heap.objs.size + 1) :: us, []⟩ (Value.ref (s.heap.objs.size + 1) :: us) _ _ (E σ) (hr.make C us []) (J.env0.make C us []) bb rr q0) fun r s' z => ?_))
  cases r with
  | error e => exact hx pins _ _ e s' J z
  | ok fl =>
    cases fl with
    | ret u =>
      obtain ⟨v, H', J3, rv, ev, q3⟩ := J.after z
      subst ev
      exact ⟨rv, ⟨V.ref (s.heap.objs.size + 1), H', J3, rfl, q3⟩⟩
    | next => exact z.elim
    | brk => exact z.elim
    | cont => exact z.elim
theorem pe_mkS (M : Mk X.K C f) (F : FnOk X.prog X.w X.K X.mg X.base CX k f fd ps sp) (hr : Room (k + 1) X.A) (hg : Gl X x) (hm : X.mg x = some (.ref C)) (hb : Binds X.K fd ps []) (hx : ∀ σ, PassesAt CX X σ (E σ)) (ha : PA X (e :: es) t) (hdb : (x == ("__debug__" : Str)) = false := by decide)
    (he : starEach (e :: es) X.env = (false, eval e X.env) :: starEach es X.env := by rfl) (hpl : (backTo pos (starEach es X.env)).any (·.1) = false := by rfl) : PE X (.Call (.Name x p) (e :: es) [] pos) (tMkS C sp E t) := by
  refine ⟨fun pins s σ H Q I h => ?_⟩
  refine wpAny_Call_Name_kw (ld_glob I hg hm ?_ hdb)
  exact PySem.W.callWith_K (h₀ := X.base) I.ok.mod.kin M.kp (thn (ha.run pos pins s σ H _ I h) fun us s1 ⟨vs, H1, I1, r, q⟩ => ⟨I1.kIn, run_mkS M F hr hb (hx σ) I1 r q⟩) he hpl
end

/-! ### fields -/
structure ClsOk (Γ : Gm) (K : PySem.W.Frag) (C : Str) (fs : List Str) : Prop where
  cl : Cls K (Γ.cls C)
  na : ∀ f ∈ fs, NoAttr K (Γ.cls C) f
abbrev CTab := List (Str × List Str)
def TabOk (Γ : Gm) (K : PySem.W.Frag) (tab : CTab) : Prop := ∀ q ∈ tab, ClsOk Γ K q.1 q.2
def okF (tab : CTab) (C f : Str) : Bool := match tab.lookup C with
  | some fs => decide (f ∈ fs)
  | none => false
theorem TabOk.at {Γ : Gm} {K : PySem.W.Frag} {tab : CTab} {C f : Str} (T : TabOk Γ K tab) (h : okF tab C f = true) : Cls K (Γ.cls C) ∧ NoAttr K (Γ.cls C) f := by
  unfold okF at h
  split at h
  · rename_i fs e
    have q := T _ (PySem.mem_of_lookup e)
    exact ⟨q.cl, q.na f (of_decide_eq_true h)⟩
  · cases h
def fldOf : List Str → List MV → Str → Option MV
  | k :: ks, x :: xs, f => if f == k then some x else fldOf ks xs f
  | _, _, _ => none
def putKs (f : Str) : List Str → List Str
  | [] => [f]
  | k :: ks => if k = f then k :: ks else k :: putKs f ks
def putXs (f : Str) (y : MV) : List Str → List MV → List MV
  | k :: ks, x :: xs => if k = f then y :: xs else x :: putXs f y ks xs
  | _, xs => xs ++ [y]
def insAt (h : MH) : MV → Option (Str × List Str × List MV)
  | .ob C ks xs => some (C, ks, xs)
  | .ref n => match h[n]? with
    | some (.ins C ks xs) => some (C, ks, xs)
    | _ => none
  | _ => none
def fFld (tab : CTab) (f : Str) (x : MV) (h : MH) : Out MV := match insAt h x with
  | some (C, ks, xs) => if okF tab C f = true then (match fldOf ks xs f with
    | some d => .ok d h
    | none => .stuck) else .stuck
  | none => .stuck
def sFldM (tab : CTab) (f : Str) (mo mv : ME) : MS := fun env h => (mv env h).andS env fun y h => (mo env h).andS env fun x h => match x with
  | .ref n => match h[n]? with
    | some (.ins C ks xs) => if okF tab C f = true ∧ ks.length < 1000 then .ok .nx env (h.set n (.ins C (putKs f ks) (putXs f y ks xs))) else .stuck
    | _ => .stuck
  | _ => .stuck
def mMake (C : Str) (frz : Bool) (n : Nat) (g : MF) (a : MA) : ME := fun env h => (a env h).bind fun ds h => if ds.length + 1 = n then (match g (.ref h.length :: ds) (h ++ [.ins C [] []]) with
  | .ok .non h' => if frz = true then (match h'[h.length]? with
      | some (.ins C' ks xs) => .ok (.ob C' ks xs) (h'.set h.length .dead)
      | _ => .stuck) else .ok (.ref h.length) h'
  | .exc D xs h' => .exc D xs h'
  | _ => .stuck) else .stuck
section
variable {Γ : Gm} {K : PySem.W.Frag} {S : Sh} {H : Hp} {h : MH}
theorem fld_zip : ∀ {ks : List Str} {xs : List MV} {us : List V} {f : Str} {d : MV}, RepL Γ K S xs us → us.length = ks.length → fldOf ks xs f = some d → ∃ v, (ks.zip us).lookup f = some v ∧ Rep Γ K S d v
  | [], _, _, _, _, _, _, e => by unfold fldOf at e; cases e
  | _ :: _, [], _, _, _, _, _, e => by unfold fldOf at e; cases e
  | k :: ks, x :: xs, us, f, d, r, hl, e => by
    unfold RepL at r
    obtain ⟨u, us, rfl, r1, r2⟩ := r
    unfold fldOf at e
    show ∃ v, List.lookup f ((k, u) :: ks.zip us) = some v ∧ _
    unfold List.lookup
    split at e
    · rename_i c
      cases e
      rw [c]
      exact ⟨u, rfl, r1⟩
    · rename_i c
      have c : (f == k) = false := by simpa using c
      rw [c]
      exact fld_zip r2 (by simpa using hl) e
theorem put_zip : ∀ {ks : List Str} {xs : List MV} {us : List V} {f : Str} {y : MV} {v : V}, RepL Γ K S xs us → us.length = ks.length → Rep Γ K S y v → ∃ us', putF f v (ks.zip us) = (putKs f ks).zip us' ∧ us'.length = (putKs f ks).length ∧ RepL Γ K S (putXs f y ks xs) us'
  | [], xs, us, f, y, v, r, hl, ry => by
    have : us = [] := List.length_eq_zero_iff.mp hl
    subst this
    have hx : xs = [] := by
      cases xs with
      | nil => rfl
      | cons x xs => unfold RepL at r; obtain ⟨_, _, e, _⟩ := r; cases e
    subst hx
    exact ⟨[v], rfl, rfl, repL_cons ry repL_nil⟩
  | k :: ks, xs, us, f, y, v, r, hl, ry => by
    cases xs with
    | nil => unfold RepL at r; subst r; cases hl
    | cons x xs =>
      unfold RepL at r
      obtain ⟨u, us, rfl, r1, r2⟩ := r
      show ∃ us', putF f v ((k, u) :: ks.zip us) = _ ∧ _
      unfold putF putKs putXs
      by_cases c : k = f
      · rw [if_pos c, if_pos c, if_pos c]
        exact ⟨v :: us, rfl, by simpa using hl, repL_cons ry r2⟩
      · rw [if_neg c, if_neg c, if_neg c]
        obtain ⟨us', e1, e2, e3⟩ := put_zip (f := f) r2 (by simpa using hl) ry
        exact ⟨u :: us', by rw [e1]; rfl, by simpa using e2, repL_cons r1 e3⟩
theorem ins_rep {x : MV} {v : V} {C : Str} {ks : List Str} {xs : List MV} (R : Rel Γ K S h H) (r : Rep Γ K S x v) (e : insAt h x = some (C, ks, xs)) : ∃ a dx us, v = .ref a ∧ H a = some (.ins (Γ.cls C) dx (ks.zip us)) ∧ us.length = ks.length ∧ RepL Γ K S xs us := by
  unfold insAt at e
  split at e
  · cases e
    unfold Rep at r
    obtain ⟨a, dx, us, q1, q2, q3, q4⟩ := r
    exact ⟨a, dx, us, q1, R.sub _ _ q2, q3, q4⟩
  · split at e
    · rename_i hn
      cases e
      unfold Rep at r
      obtain ⟨a, q1, q2⟩ := r
      obtain ⟨_, dx, us, q3, q4, q5⟩ := R.cell _ _ a hn q1
      exact ⟨a, dx, us, q2, q3, q4, q5⟩
    · cases e
  · cases e
variable {X : Cx} {W : WX} {e o value : Expr} {es : List Expr} {ms : MA} {me mo mv : ME} {pos p pos' : Pos} {tab : CTab} {f : Str}
theorem se_fld (T : TabOk Γ X.K tab) (he : SE Γ X W e me) (hb : attributeBase e f X.env (eval e X.env) = eval e X.env := by rfl) : SE Γ X W (.Attribute e f pos) (m1 (fFld tab f) me) := by
  obtain ⟨t, pt, et⟩ := he.ex
  refine ⟨_, pe_fld pt hb, fun S H h σ env Q R G q => exE_bind (t := t) et R G q fun x h1 S1 H1 v e1 R1 G1 r1 p1 => ?_⟩
  unfold fFld at p1
  split at p1
  · rename_i C ks xs ei
    split at p1
    · rename_i ok
      obtain ⟨hc, hn⟩ := T.at ok
      obtain ⟨a, dx, us, rfl, q2, q3, q4⟩ := ins_rep R1 r1 ei
      split at p1
      · rename_i d ed
        obtain ⟨w, l, rw_⟩ := fld_zip q4 q3 ed
        exact ⟨a, _, dx, _, w, rfl, q2, hc, hn, l, p1 _ _ _ (Ext.refl _ _) R1 rw_⟩
      · exact p1.elim
    · exact p1.elim
  · exact p1.elim
theorem ss_fld (T : TabOk Γ X.K tab) (ho : SE Γ X W o mo) (hv : SE Γ X W value mv) (hs : swapsWith value (some (.Attribute o f pos')) pos.line X.env = pure false := by rfl) : SS Γ X W (.Assign [.Attribute o f pos'] value pos) (sFldM tab f mo mv) := by
  obtain ⟨to, po, eo⟩ := ho.ex
  obtain ⟨tv, pv, ev⟩ := hv.ex
  refine ⟨_, ps_fld po pv hs, fun S H h σ env D R G q => exES (t := tv) ev R G q fun y h1 S1 H1 w e1 R1 G1 r1 p1 => exES (t := to) eo R1 G1 p1 fun x h2 S2 H2 v e2 R2 G2 r2 p2 => ?_⟩
  split at p2
  · rename_i n
    split at p2
    · rename_i C ks xs hn
      split at p2
      · rename_i ok
        obtain ⟨hc, hna⟩ := T.at ok.1
        unfold Rep at r2
        obtain ⟨a, q1, rfl⟩ := r2
        obtain ⟨z, dx, us, q3, q4, q5⟩ := R2.cell _ _ a hn q1
        obtain ⟨us', f1, f2, f3⟩ := put_zip (f := f) q5 q4 (r1.ext e2)
        refine ⟨a, _, dx, _, rfl, q3, hc, hna, by rw [List.length_zip, q4, Nat.min_self]; exact ok.2, ?_⟩
        rw [f1]
        obtain ⟨R3, e3⟩ := R2.store (o := .ins (Γ.cls C) dx ((putKs f ks).zip us')) (c := .ins C (putKs f ks) (putXs f y ks xs)) q1 z ⟨z, dx, us', upd_same, f2, f3⟩
        exact p2 _ _ _ e3 R3 (G2.mono e3)
      · exact p2.elim
    · exact p2.elim
  · exact p2.elim
/-- a class whose maker is a def of the text -/
structure MakeOk (P : Program) (w : World) (K : PySem.W.Frag) (mg : Str → Option Value) (base : Heap) (Γ : Gm) (k : Nat) (C : Str) (n : Nat) (g : MF) : Prop where
  ex : ∃ (f : Addr) (fd : FuncData) (ps : List Str), Mk K (Γ.cls C) f ∧ FnOk P w K mg base (L2.CX P w) k f fd ps (spM Γ K n g) ∧ mg C = some (.ref (Γ.cls C)) ∧ Binds K fd ps []
theorem MakeOk.mono {P : Program} {w : World} {mg : Str → Option Value} {base : Heap} {j k n : Nat} {C : Str} {g : MF} (c : MakeOk P w K mg base Γ j C n g) (h : j ≤ k) : MakeOk P w K mg base Γ k C n g := by
  obtain ⟨f, fd, ps, h1, h2, h3, h4⟩ := c.ex
  exact ⟨f, fd, ps, h1, h2.mono h, h3, h4⟩
theorem sc_make {k n : Nat} {C : Str} {g : MF} (frz : Bool) (c : MakeOk X.prog X.w X.K X.mg X.base Γ k C n g) (hr : Room (k + 1) X.A) (tk : Takes X W) (ha : SA Γ X W (e :: es) ms) (hg : Gl X C := by rfl) (hdb : (C == ("__debug__" : Str)) = false := by decide) (he : starEach (e :: es) X.env = (false, eval e X.env) :: starEach es X.env := by rfl) (hpl : (backTo pos (starEach es X.env)).any (·.1) = false := by rfl) :
    SE Γ X W (.Call (.Name C p) (e :: es) [] pos) (mMake C frz n g ms) := by
  obtain ⟨f, fd, ps, M, F, hm, hb⟩ := c.ex
  obtain ⟨t, pt, et⟩ := ha.ex
  refine ⟨_, pe_mkS (E := WE W) M F hr hg hm hb (fun σ => passAt tk σ) pt hdb he hpl, fun S H h σ env Q R G q => exA_bind (t := t) et R G q fun ds h1 S1 H1 vs e1 R1 G1 r1 p1 => ?_⟩
  intro x dx hx hdx hne
  split at p1
  · rename_i hn
    have hx2 : upd H1 dx (.own x) x = none := by rw [upd_ne (Ne.symm hne)]; exact hx
    obtain ⟨R2, e2⟩ := R1.froz (o := .own x) hdx
    have hz : upd S1.Hs dx (.own x) x = none := by
      cases z : upd S1.Hs dx (.own x) x with
      | none => rfl
      | some o =>
        rw [R2.sub x o z] at hx2
        cases hx2
    obtain ⟨R3, e3⟩ := R2.alloc (o := .ins (Γ.cls C) dx []) (c := .ins C [] []) hx2 (fun S' s1 s2 => ⟨by rw [s1]; exact hz, dx, [], upd_same, rfl, repL_nil⟩)
    have e23 := e2.trans e3
    have rx : Rep Γ X.K ⟨upd S1.Hs dx (.own x), S1.ι ++ [x]⟩ (.ref h1.length) (.ref x) := by
      unfold Rep
      refine ⟨x, ?_, rfl⟩
      show (S1.ι ++ [x])[h1.length]? = some x
      rw [← R1.len]
      simp
    refine sp_of R3 (repL_cons rx (r1.ext e23)) (by simpa using hn) ?_
    cases z : g (.ref h1.length :: ds) (h1 ++ [.ins C [] []]) with
    | stuck => rw [z] at p1; exact p1.elim
    | exc D xs h2 =>
      rw [z] at p1
      exact fun S' H' dd e' R' r' => p1 S' H' dd (e23.trans e') R' r'
    | ok d h2 =>
      rw [z] at p1
      intro S' H' b e' R' rb
      cases d with
      | non =>
        refine ⟨rep_non rb, ?_⟩
        simp only at p1
        have ix : S'.ι[h1.length]? = some x := by
          have := e'.ix h1.length x (by show (S1.ι ++ [x])[h1.length]? = some x; rw [← R1.len]; simp)
          exact this
        split at p1
        · split at p1
          · rename_i C' ks xs ec
            obtain ⟨zz, dx', us, q3, q4, q5⟩ := R'.cell _ _ x ec ix
            obtain ⟨R4, e4⟩ := R'.freeze ix zz q3
            refine p1 _ _ _ ((e23.trans e').trans e4) R4 ?_
            unfold Rep
            exact ⟨x, dx', us, rfl, upd_same, q4, q5.ext e4⟩
          · exact p1.elim
        · refine p1 _ _ _ (e23.trans e') R' ?_
          unfold Rep
          exact ⟨x, ix, rfl⟩
      | _ => exact p1.elim
  · exact p1.elim
end

/-! ### chains -/
def mChain (f g : MV → MV → MH → Out MV) (a b c : ME) : ME := fun env h => (a env h).bind fun x h => (b env h).bind fun y h => (f x y h).bind fun z h => match z with
  | .bl true => (c env h).bind fun w h => g y w h
  | .bl false => .ok (.bl false) h
  | _ => .stuck
section
variable {Γ : Gm} {X : Cx} {W : WX} {a b c : Expr} {ma mb mc : ME} {pos : Pos} {op op' : CmpOp} {r r' : R2} {f g : MV → MV → MH → Out MV}
theorem ex_chain {ta tb tc : TE} (hl : Lift2 Γ X.K r f) (hl' : Lift2 Γ X.K r' g) (ea : ExE Γ X.K W ta ma) (eb : ExE Γ X.K W tb mb) (ec : ExE Γ X.K W tc mc) : ExE Γ X.K W (tChain r r' ta tb tc) (mChain f g ma mb mc) :=
  fun S H h σ env Q R G p => exE_bind (t := ta) ea R G p fun x h1 S1 H1 u e1 R1 G1 r1 p1 => exE_bind (t := tb) eb R1 G1 p1 fun y h2 S2 H2 v e2 R2 G2 r2 p2 => hl S2 H2 h2 x y u v _ _ R2 (r1.ext e2) r2 (Post.bind p2 fun z h3 S3 H3 zz _ e3 R3 r3 p3 => by
    split at p3
    · exact ⟨true, rep_bl r3, by rw [if_pos rfl]; exact exE_bind (t := tc) ec R3 (G2.mono e3) p3 fun w h4 S4 H4 ww e4 R4 G4 r4 p4 => hl' S4 H4 h4 y w v ww Q _ R4 ((r2.ext e3).ext e4) r4 p4⟩
    · exact ⟨false, rep_bl r3, by rw [if_neg Bool.false_ne_true]; exact p3 _ _ _ (Ext.refl _ _) R3 is_bl⟩
    · exact p3.elim)
theorem se_chain (ho : OpR X (compareOp op) r) (hl : Lift2 Γ X.K r f) (ho' : OpR X (compareOp op') r') (hl' : Lift2 Γ X.K r' g) (ha : SE Γ X W a ma) (hb : SE Γ X W b mb) (hc : SE Γ X W c mc) (hm : lastMarks [op, op'] [b, c] = false := by with_unfolding_all rfl) : SE Γ X W (.Compare a [op, op'] [b, c] pos) (mChain f g ma mb mc) := by
  obtain ⟨ta, pa, ea⟩ := ha.ex
  obtain ⟨tb, pb, eb⟩ := hb.ex
  obtain ⟨tc, pc, ec⟩ := hc.ex
  exact ⟨_, pe_chain ho ho' pa pb pc hm, ex_chain hl hl' ea eb ec⟩
theorem st_chain (ho : OpR X (compareOp op) r) (hl : Lift2 Γ X.K r f) (ho' : OpR X (compareOp op') r') (hl' : Lift2 Γ X.K r' g) (ha : SE Γ X W a ma) (hb : SE Γ X W b mb) (hc : SE Γ X W c mc) (hm : lastMarks [op, op'] [b, c] = false := by with_unfolding_all rfl) : ST Γ X W (.Compare a [op, op'] [b, c] pos) (mT (mChain f g ma mb mc)) := by
  obtain ⟨ta, pa, ea⟩ := ha.ex
  obtain ⟨tb, pb, eb⟩ := hb.ex
  obtain ⟨tc, pc, ec⟩ := hc.ex
  exact ⟨_, pt_chain ho ho' pa pb pc hm, fun S H h σ env Q R G p => exE_bind (t := tChain r r' ta tb tc) (ex_chain hl hl' ea eb ec) R G p fun x h1 S1 H1 u e1 R1 G1 r1 p1 => bool_ofT R1 r1 p1⟩
abbrev envS (sc : Scope) : Env := ⟨sc, 0, 0, [], Str.empty, none, .none, none, 0⟩
theorem blkOk_in {so sc scope : Scope} {own : List (Str × Nat)} {s : Shared} {H : Hp} {C : Addr} {cl : List (Str × Addr)} {fp : List Addr} (hs : X.env.scope = sc) (b : BlkOk X.N (relabel so (envS sc)) scope own) : BlkOk (X.blk s H so (compEnvC so cl C X.env) fp).N (X.blk s H so (compEnvC so cl C X.env) fp).env.scope scope own := by
  subst hs
  exact b
end
/-! ### makers -/
structure MkDef (K : PySem.W.Frag) (mg : Str → Option Value) (Γ : Gm) (C qual : Str) (st : Stmt) (ps : List Str) : Prop where
  ex : ∃ (f : Addr) (fd : FuncData), Fun K "__init__" qual st f fd ∧ (∀ us : List Value, us.length = ps.length → bindArgs fd ⟨us, []⟩ = pure (ps.zip us)) ∧ Mk K (Γ.cls C) f ∧ mg C = some (.ref (Γ.cls C))
section
variable {P : Program} {w : World} {K : PySem.W.Frag} {mg : Str → Option Value} {base : Heap} {Γ : Gm} {k : Nat} {C qual : Str} {ps : List Str}
theorem mk_ok {st : Stmt} {N : List Str} {m : MS} (D : MkDef K mg Γ C qual st ps) (S : FnScope N ps (defScope st))
    (hb : ∀ (f : Addr) (cdv : Value) (A : Around) (outer : List Env) (s : Shared) (H : Hp) (E : XK), Room k (A.deeper (envOfC qual (defScope st) s.heap.objs.size f cdv)) →
      SSs Γ (cxOf (L2.CX P w) P w K mg base N qual (defScope st) f cdv A outer s H E) (fun c d _ H => E c d H) (defBody st) m) : MakeOk P w K mg base Γ (k + 1) C ps.length (runF N.length m) := by
  obtain ⟨f, fd, F, b, M, hm⟩ := D.ex
  exact ⟨f, fd, ps, M, fn_ok F S (hb f), hm, .all b⟩
theorem mkd_mk {st : Stmt} {f : Addr} {oc : Value} {od an : Option Addr} {osl : Array (Option Value)} {kV doc pm cdv ct : Value} (l : K.lookup f = some ⟨oc, od, .func (PySem.W.fnOf "__init__" qual (defArgs st) (defBody st) (defScope st) .none kV doc pm an cdv ct), osl⟩)
    (c : PySem.W.codeIn K cdv qual = true) (kp : PySem.W.keepIn K (.ref f) = true) (M : Mk K (Γ.cls C) f) (g : mg C = some (.ref (Γ.cls C)))
    (h : ∀ us : List Value, us.length = ps.length → bindArgs (PySem.W.fnOf "__init__" qual (defArgs st) (defBody st) (defScope st) .none kV doc pm an cdv ct) ⟨us, []⟩ = pure (ps.zip us)) : MkDef K mg Γ C qual st ps := ⟨f, _, fun_mk l c kp, h, M, g⟩
theorem al_nil {p : Str → Prop} : ∀ f ∈ ([] : List Str), p f := fun f h => nomatch h
theorem al_cons {p : Str → Prop} {a : Str} {l : List Str} (h : p a) (r : ∀ f ∈ l, p f) : ∀ f ∈ a :: l, p f := fun f hf => by
  rcases List.mem_cons.mp hf with rfl | hf
  · exact h
  · exact r f hf
theorem tab_nil : TabOk Γ K [] := fun f h => nomatch h
theorem tab_cons {C : Str} {fs : List Str} {l : CTab} (h : ClsOk Γ K C fs) (r : TabOk Γ K l) : TabOk Γ K ((C, fs) :: l) := fun f hf => by
  rcases List.mem_cons.mp hf with rfl | hf
  · exact h
  · exact r f hf
end
end Mn
/-! ## MnK -/
set_option Elab.async false
set_option linter.all false
set_option maxRecDepth 100000
/-! Mn, part K: dicts with int and text keys; augmented subscripts. -/
namespace Mn
open PySem PySem.Spec PyProof.Rows L2
def dgetM : List (MV × MV) → Key → Option MV
  | [], _ => none
  | x :: r, k => if keyV x.1 = some k then some x.2 else dgetM r k
def dputM (kvs : List (MV × MV)) (y d : MV) (k : Key) : List (MV × MV) := if (dgetM kvs k).isSome = true then kvs.map (fun x => if keyV x.1 = some k then (x.1, d) else x) else kvs ++ [(y, d)]
def fDGet : MV → MV → MH → Out MV
  | .ref n, y, h => match h[n]?, keyV y with
    | some (.dct kvs), some k => match dgetM kvs k with
      | some d => .ok d h
      | none => .stuck
    | _, _ => .stuck
  | _, _, _ => .stuck
def fDIn (neg : Bool) : MV → MV → MH → Out MV
  | y, .ref n, h => match h[n]?, keyV y with
    | some (.dct kvs), some k => .ok (.bl (if neg = true then !(dgetM kvs k).isSome else (dgetM kvs k).isSome)) h
    | _, _ => .stuck
  | _, _, _ => .stuck
def mDict0 : ME := fun _ h => .ok (.ref h.length) (h ++ [.dct []])
def sDPutM (mo mi mv : ME) : MS := fun env h => (mv env h).andS env fun d h => (mo env h).andS env fun x h => (mi env h).andS env fun y h => match x with
  | .ref n => match h[n]?, keyV y with
    | some (.dct kvs), some k => if kvs.length < sizeLine then .ok .nx env (h.set n (.dct (dputM kvs y d k))) else .stuck
    | _, _ => .stuck
  | _ => .stuck
section
variable {Γ : Gm} {K : PySem.W.Frag} {S : Sh} {H : Hp} {h : MH}
theorem rd_get : ∀ {kvs : List (MV × MV)} {us : List (Key × V)} {k : Key}, RepD Γ K S kvs us → (∀ d, dgetM kvs k = some d → ∃ v, valV us k = some v ∧ Rep Γ K S d v) ∧ (dgetM kvs k = none → valV us k = none)
  | [], us, k, r => by
    unfold RepD at r
    subst r
    exact ⟨(fun d e => by cases e), (fun _ => rfl)⟩
  | x :: kvs, us, k, ⟨k', u, r, e1, e2, e3, e4⟩ => by
    subst e1
    obtain ⟨i1, i2⟩ := rd_get (k := k) e4
    unfold dgetM
    rw [e2]
    by_cases c : k' = k
    · subst c
      rw [if_pos rfl]
      exact ⟨(fun d e => by cases e; exact ⟨u, valV_pos (p := (k', u)) rfl, e3⟩), (fun e => by cases e)⟩
    · rw [if_neg (fun z => c (Option.some.inj z)), valV_neg (p := (k', u)) c]
      exact ⟨i1, i2⟩
theorem rd_map {k : Key} {d : MV} {v : V} (rv : Rep Γ K S d v) : ∀ {kvs : List (MV × MV)} {us : List (Key × V)}, RepD Γ K S kvs us → RepD Γ K S (kvs.map fun x => if keyV x.1 = some k then (x.1, d) else x) (us.map fun kv => if kv.1 = k then (kv.1, v) else kv)
  | [], us, r => by unfold RepD at r; subst r; exact rfl
  | x :: kvs, us, ⟨k', u, r, e1, e2, e3, e4⟩ => by
    subst e1
    have ih := rd_map (k := k) (d := d) (v := v) rv e4
    rw [List.map_cons, List.map_cons]
    by_cases c : k' = k
    · subst c
      rw [if_pos e2]
      exact ⟨k', v, _, by rw [if_pos rfl], e2, rv, ih⟩
    · have c' : ¬ keyV x.1 = some k := fun z => c (by rw [e2] at z; exact Option.some.inj z)
      rw [if_neg c']
      exact ⟨k', u, _, by rw [if_neg c], e2, e3, ih⟩
theorem rd_app {y d : MV} {k : Key} {v : V} (ky : keyV y = some k) (rv : Rep Γ K S d v) : ∀ {kvs : List (MV × MV)} {us : List (Key × V)}, RepD Γ K S kvs us → RepD Γ K S (kvs ++ [(y, d)]) (us ++ [(k, v)])
  | [], us, r => by unfold RepD at r; subst r; exact ⟨k, v, [], rfl, ky, rv, rfl⟩
  | x :: kvs, us, ⟨k', u, r, e1, e2, e3, e4⟩ => by
    subst e1
    exact ⟨k', u, _, rfl, e2, e3, rd_app ky rv e4⟩
theorem rd_put {kvs : List (MV × MV)} {us : List (Key × V)} {y d : MV} {k : Key} {v : V} (r : RepD Γ K S kvs us) (ky : keyV y = some k) (rv : Rep Γ K S d v) : RepD Γ K S (dputM kvs y d k) (putK us k v) := by
  obtain ⟨i1, i2⟩ := rd_get (k := k) r
  unfold dputM putK
  rw [valV_any]
  cases c : dgetM kvs k with
  | some d' =>
    obtain ⟨w, e, _⟩ := i1 d' c
    rw [e]
    simp only [Option.isSome_some, if_true]
    exact rd_map rv r
  | none =>
    rw [i2 c]
    simp only [Option.isSome_none, Bool.false_eq_true, if_false]
    exact rd_app ky rv r
theorem key_rep {y : MV} {u : V} {k : Key} (e : keyV y = some k) (r : Rep Γ K S y u) : u = kV k := by
  cases y with
  | int i => cases e; exact rep_int r
  | str x => cases e; exact rep_str r
  | _ => cases e
theorem dct_at {n : Nat} {kvs : List (MV × MV)} {v : V} (R : Rel Γ K S h H) (r : Rep Γ K S (.ref n) v) (e : h[n]? = some (.dct kvs)) : ∃ a us, v = .ref a ∧ S.ι[n]? = some a ∧ S.Hs a = none ∧ H a = some (.dK us) ∧ RepD Γ K S kvs us := by
  unfold Rep at r
  obtain ⟨a, q1, rfl⟩ := r
  obtain ⟨z, us, q3, q4⟩ := R.cell _ _ a e q1
  exact ⟨a, us, rfl, q1, z, q3, q4⟩
variable {X : Cx} {W : WX} {o i value : Expr} {mo mi mv : ME} {pos pos' : Pos}
theorem se_dict0 : SE Γ X W (.Dict [] [] pos) mDict0 := ⟨_, pe_dnewK, fun S H h σ env Q R G q p hp => by
  have hz : S.Hs p = none := by
    cases z : S.Hs p with
    | none => rfl
    | some o =>
      rw [R.sub p o z] at hp
      cases hp
  obtain ⟨R1, e1⟩ := R.alloc (o := .dK []) (c := .dct []) hp (fun S' s1 s2 => ⟨by rw [s1]; exact hz, [], upd_same, rfl⟩)
  refine q _ _ _ e1 R1 ?_
  unfold Rep
  exact ⟨p, by show (S.ι ++ [p])[h.length]? = some p; rw [← R.len]; simp, rfl⟩⟩
theorem se_dget (hu : X.A.units + 64 < cLine) (ho : SE Γ X W o mo) (hi : SE Γ X W i mi) (hs : NoSl i := by exact fun _ _ => rfl) : SE Γ X W (.Subscript o i pos) (m2 fDGet mo mi) := by
  obtain ⟨to, po, eo⟩ := ho.ex
  obtain ⟨ti, pi, ei⟩ := hi.ex
  refine ⟨_, pe_dget (by omega) po pi hs, fun S H h σ env Q R G p => exE_bind (t := to) eo R G p fun x h1 S1 H1 u e1 R1 G1 r1 p1 => exE_bind (t := ti) ei R1 G1 p1 fun y h2 S2 H2 v e2 R2 G2 r2 p2 => ?_⟩
  unfold fDGet at p2
  split at p2
  · rename_i n _ _
    split at p2
    · rename_i kvs k hn hk
      obtain ⟨a, us, rfl, _, _, q3, q4⟩ := dct_at R2 (r1.ext e2) hn
      split at p2
      · rename_i d hd
        obtain ⟨w, l, rw_⟩ := (rd_get (k := k) q4).1 d hd
        refine ⟨a, w, rfl, ?_, p2 _ _ _ (Ext.refl _ _) R2 rw_⟩
        rw [key_rep hk r2, ← l]
        exact .k q3
      · exact p2.elim
    · exact p2.elim
  · exact p2.elim
theorem ex_din {neg : Bool} {ti td : TE} (ei : ExE Γ X.K W ti mi) (eo : ExE Γ X.K W td mo) : ExE Γ X.K W (fun σ H Q => ti σ H fun y H1 => td σ H1 fun x H2 => ∃ a o, x = .ref a ∧ DGet H2 a y o ∧ Q (.bl (if neg = true then !o.isSome else o.isSome)) H2) (m2 (fDIn neg) mi mo) :=
  fun S H h σ env Q R G p => exE_bind (t := ti) ei R G p fun y h1 S1 H1 v e1 R1 G1 r1 p1 => exE_bind (t := td) eo R1 G1 p1 fun x h2 S2 H2 u e2 R2 G2 r2 p2 => by
    unfold fDIn at p2
    split at p2
    · rename_i n _
      split at p2
      · rename_i kvs k hn hk
        obtain ⟨a, us, rfl, _, _, q3, q4⟩ := dct_at R2 r2 hn
        obtain ⟨i1, i2⟩ := rd_get (k := k) q4
        have ev : (valV us k).isSome = (dgetM kvs k).isSome := by
          cases c : dgetM kvs k with
          | none => rw [i2 c]; rfl
          | some d => obtain ⟨w, l, _⟩ := i1 d c; rw [l]; rfl
        refine ⟨a, valV us k, rfl, ?_, ?_⟩
        · rw [key_rep hk (r1.ext e2)]; exact .k q3
        · rw [ev]; exact p2 _ _ _ (Ext.refl _ _) R2 is_bl
      · exact p2.elim
    · exact p2.elim
theorem se_din (hu : X.A.units + 64 < cLine) (hi : SE Γ X W i mi) (ho : SE Γ X W o mo) (h1 : behindInMarks .In o = false := by first | exact nobehind _ (by decide) (by decide) | rfl) : SE Γ X W (.Compare i [.In] [o] pos) (m2 (fDIn false) mi mo) := by
  obtain ⟨ti, pi, ei⟩ := hi.ex
  obtain ⟨to, po, eo⟩ := ho.ex
  exact ⟨_, pe_cmp (pc_din (by omega) pi po) h1, ex_din (neg := false) ei eo⟩
theorem se_dnotin (hu : X.A.units + 64 < cLine) (hi : SE Γ X W i mi) (ho : SE Γ X W o mo) (h1 : behindInMarks .NotIn o = false := by first | exact nobehind _ (by decide) (by decide) | rfl) : SE Γ X W (.Compare i [.NotIn] [o] pos) (m2 (fDIn true) mi mo) := by
  obtain ⟨ti, pi, ei⟩ := hi.ex
  obtain ⟨to, po, eo⟩ := ho.ex
  exact ⟨_, pe_cmp (pc_dnotin (by omega) pi po) h1, ex_din (neg := true) ei eo⟩
theorem st_din (hu : X.A.units + 64 < cLine) (hi : SE Γ X W i mi) (ho : SE Γ X W o mo) (h1 : behindInMarks .In o = false := by first | exact nobehind _ (by decide) (by decide) | rfl) : ST Γ X W (.Compare i [.In] [o] pos) (mT (m2 (fDIn false) mi mo)) := by
  obtain ⟨ti, pi, ei⟩ := hi.ex
  obtain ⟨to, po, eo⟩ := ho.ex
  exact ⟨_, pt_cmp (pc_din (by omega) pi po) h1, fun S H h σ env Q R G p => ex_din (neg := false) ei eo S H h σ env _ R G (Post.bind p fun x h1 S1 H1 u _ e1 R1 r1 p1 => bool_ofT R1 r1 p1)⟩
theorem st_dnotin (hu : X.A.units + 64 < cLine) (hi : SE Γ X W i mi) (ho : SE Γ X W o mo) (h1 : behindInMarks .NotIn o = false := by first | exact nobehind _ (by decide) (by decide) | rfl) : ST Γ X W (.Compare i [.NotIn] [o] pos) (mT (m2 (fDIn true) mi mo)) := by
  obtain ⟨ti, pi, ei⟩ := hi.ex
  obtain ⟨to, po, eo⟩ := ho.ex
  exact ⟨_, pt_cmp (pc_dnotin (by omega) pi po) h1, fun S H h σ env Q R G p => ex_din (neg := true) ei eo S H h σ env _ R G (Post.bind p fun x h1 S1 H1 u _ e1 R1 r1 p1 => bool_ofT R1 r1 p1)⟩
theorem ss_dput (hu : X.A.units + 64 < cLine) (ho : SE Γ X W o mo) (hi : SE Γ X W i mi) (hv : SE Γ X W value mv) (hs : swapsWith value (some (.Subscript o i pos')) pos.line X.env = pure false := by rfl) : SS Γ X W (.Assign [.Subscript o i pos'] value pos) (sDPutM mo mi mv) := by
  obtain ⟨to, po, eo⟩ := ho.ex
  obtain ⟨ti, pi, ei⟩ := hi.ex
  obtain ⟨tv, pv, ev⟩ := hv.ex
  refine ⟨_, ps_dput (by omega) po pi pv hs, fun S H h σ env D R G q => exES (t := tv) ev R G q fun d h1 S1 H1 w e1 R1 G1 r1 p1 => exES (t := to) eo R1 G1 p1 fun x h2 S2 H2 u e2 R2 G2 r2 p2 => exES (t := ti) ei R2 G2 p2 fun y h3 S3 H3 v e3 R3 G3 r3 p3 => ?_⟩
  split at p3
  · rename_i n
    split at p3
    · rename_i kvs k hn hk
      split at p3
      · rename_i hl
        obtain ⟨a, us, rfl, ix, z, q3, q4⟩ := dct_at R3 (r2.ext e3) hn
        have rp := rd_put (y := y) q4 hk ((r1.ext e2).ext e3)
        obtain ⟨R4, e4⟩ := R3.store (o := .dK (putK us k w)) (c := .dct (dputM kvs y d k)) ix z ⟨z, _, upd_same, rp⟩
        refine ⟨a, _, rfl, ?_, p3 _ _ _ e4 R4 (G3.mono e4)⟩
        rw [key_rep hk r3]
        exact .k q3 (by rw [← repD_len q4]; exact hl)
      · exact p3.elim
    · exact p3.elim
  · exact p3.elim
end
end Mn
/-! ## MnL -/
set_option Elab.async false
set_option linter.all false
set_option maxRecDepth 100000
/-! Mn, part L: an object that is called. -/
namespace Mn
open PySem PySem.Spec PyProof.Rows L2
section
variable {X : Cx} {CX : CXT} {k : Nat} {f C g : Addr} {fd : FuncData} {ps : List Str} {sp : Sp} {E : L2.St → XK} {p pos : Pos} {fe e : Expr} {es : List Expr} {t : TA} {tf : TE}
def tIS (X : Cx) (C : Addr) (sp : Sp) (E : L2.St → XK) (tf : TE) (t : TA) : TE := fun σ H Q => tf σ H fun y H1 => ∃ a, y = V.ref a ∧ t σ H1 fun vs H2 => StX.InsC X H2 a C ∧ sp (V.ref a :: vs) H2 Q (E σ)
theorem run_iS {pins : List (Addr × Obj)} {σ : L2.St} {H : Hp} {s : Shared} {Q : VK} {a : Addr} {us : List Value} {vs : List V} (c : StX.CallO X.K C g) (F : FnOk X.prog X.w X.K X.mg X.base CX k g fd ps sp) (hr : Room k X.A) (hb : Binds X.K fd ps []) (hx : PassesAt CX X σ (E σ)) (I : Inv X pins σ H s) (hi : StX.InsC X H a C) (r : Vals vs us)
    (h : sp (V.ref a :: vs) H Q (E σ)) : wpAny (model X.prog X.w) X.A (call (.ref a) us) (EP X pins σ Q) X.xe s := by
  obtain ⟨ox, od, J, hd⟩ := StX.insC_at I hi
  have rr : Vals (V.ref a :: vs) (Value.ref a :: us) := .cons rfl r
  have hl : (Value.ref a :: us ++ []).length = ps.length := by
    have e := rr.length
    rw [F.len _ _ _ _ h] at e
    rw [List.append_nil]
    exact e.symm
  have bb := hb s (Value.ref a :: us) I.kIn hl
  rw [List.append_nil] at bb
  refine wpAny_call (PySem.W.kco_code I.kIn J hd c.at_ c.fn c.fi (codeAny_mono (F.run X.A X.stack s H ⟨Value.ref a :: us, []⟩ (Value.ref a :: us) _ Q (E σ) hr I.env0 bb rr h) fun r s' z => ?_))
  cases r with
  | error e => exact hx pins H s e s' I z
  | ok fl =>
    cases fl with
    | ret u => exact I.after z
    | next => exact z.elim
    | brk => exact z.elim
    | cont => exact z.elim
theorem pe_iS (hf : PE X fe tf) (c : StX.CallO X.K C g) (F : FnOk X.prog X.w X.K X.mg X.base CX k g fd ps sp) (hr : Room k X.A) (hb : Binds X.K fd ps []) (hx : ∀ σ, PassesAt CX X σ (E σ)) (ha : PA X (e :: es) t)
    (ht : eval (.Call fe (e :: es) [] pos) X.env = (do callWith pos (← eval fe X.env) [] (backTo pos (starEach (e :: es) X.env)) (backToKw pos (keywordEach [] X.env))) := by rfl) (he : starEach (e :: es) X.env = (false, eval e X.env) :: starEach es X.env := by rfl) (hpl : (backTo pos (starEach es X.env)).any (·.1) = false := by rfl) : PE X (.Call fe (e :: es) [] pos) (tIS X C sp E tf t) := by
  refine ⟨fun pins s σ H Q I h => ?_⟩
  refine Call_ (thn (hf.run pins s σ H _ I h) fun u s1 ⟨y, H1, I1, ry, a, ey, q⟩ => ?_) ht
  subst ey
  obtain rfl : u = Value.ref a := ry
  refine StX.callO_with (thn (ha.run pos pins s1 σ H1 _ I1 q) fun us s2 ⟨vs, H2, I2, r, hi, q2⟩ => ?_) he hpl
  obtain ⟨ox, od, J, hd⟩ := StX.insC_at I2 hi
  exact ⟨⟨C, ox, od, J, hd⟩, run_iS c F hr hb (hx σ) I2 hi r q2⟩
end
structure CoDef (K : PySem.W.Frag) (mg : Str → Option Value) (Γ : Gm) (C qual : Str) (st : Stmt) (ps : List Str) : Prop where
  ex : ∃ (f : Addr) (fd : FuncData), Fun K "__call__" qual st f fd ∧ (∀ us : List Value, us.length = ps.length → bindArgs fd ⟨us, []⟩ = pure (ps.zip us)) ∧ StX.CallO K (Γ.cls C) f
structure CoOk (P : Program) (w : World) (K : PySem.W.Frag) (mg : Str → Option Value) (base : Heap) (Γ : Gm) (k : Nat) (C : Str) (n : Nat) (g : MF) : Prop where
  ex : ∃ (f : Addr) (fd : FuncData) (ps : List Str), StX.CallO K (Γ.cls C) f ∧ FnOk P w K mg base (L2.CX P w) k f fd ps (spM Γ K n g) ∧ Binds K fd ps []
def isIns : MV → Bool
  | .ob _ _ _ => true
  | .ref _ => true
  | _ => false
def mCallO (C : Str) (n : Nat) (g : MF) (mo : ME) (ms : MA) : ME := fun env h => (mo env h).bind fun x h => if isIns x = true then ((ms env h).bind fun ds h => match insAt h x with
  | some (C', _, _) => if C' = C ∧ ds.length + 1 = n then g (x :: ds) h else .stuck
  | none => .stuck) else .stuck
section
variable {P : Program} {w : World} {K : PySem.W.Frag} {mg : Str → Option Value} {base : Heap} {Γ : Gm} {j k n : Nat} {C qual : Str} {ps : List Str} {g : MF}
theorem CoOk.mono (c : CoOk P w K mg base Γ j C n g) (h : j ≤ k) : CoOk P w K mg base Γ k C n g := by
  obtain ⟨f, fd, ps, h1, h2, h3⟩ := c.ex
  exact ⟨f, fd, ps, h1, h2.mono h, h3⟩
theorem co_ok {st : Stmt} {N : List Str} {m : MS} (D : CoDef K mg Γ C qual st ps) (S : FnScope N ps (defScope st))
    (hb : ∀ (f : Addr) (cdv : Value) (A : Around) (outer : List Env) (s : Shared) (H : Hp) (E : XK), Room k (A.deeper (envOfC qual (defScope st) s.heap.objs.size f cdv)) →
      SSs Γ (cxOf (L2.CX P w) P w K mg base N qual (defScope st) f cdv A outer s H E) (fun c d _ H => E c d H) (defBody st) m) : CoOk P w K mg base Γ (k + 1) C ps.length (runF N.length m) := by
  obtain ⟨f, fd, F, b, M⟩ := D.ex
  exact ⟨f, fd, ps, M, fn_ok F S (hb f), .all b⟩
theorem cod_mk {st : Stmt} {f : Addr} {oc : Value} {od an : Option Addr} {osl : Array (Option Value)} {kV doc pm cdv ct : Value} (l : K.lookup f = some ⟨oc, od, .func (PySem.W.fnOf "__call__" qual (defArgs st) (defBody st) (defScope st) .none kV doc pm an cdv ct), osl⟩)
    (c : PySem.W.codeIn K cdv qual = true) (kp : PySem.W.keepIn K (.ref f) = true) (M : StX.CallO K (Γ.cls C) f)
    (h : ∀ us : List Value, us.length = ps.length → bindArgs (PySem.W.fnOf "__call__" qual (defArgs st) (defBody st) (defScope st) .none kV doc pm an cdv ct) ⟨us, []⟩ = pure (ps.zip us)) : CoDef K mg Γ C qual st ps := ⟨f, _, fun_mk l c kp, h, M⟩
variable {X : Cx} {W : WX} {fe e : Expr} {es : List Expr} {mo : ME} {ms : MA} {pos : Pos}
theorem sc_callO (c : CoOk X.prog X.w X.K X.mg X.base Γ k C n g) (hr : Room k X.A) (tk : Takes X W) (hf : SE Γ X W fe mo) (ha : SA Γ X W (e :: es) ms)
    (ht : eval (.Call fe (e :: es) [] pos) X.env = (do callWith pos (← eval fe X.env) [] (backTo pos (starEach (e :: es) X.env)) (backToKw pos (keywordEach [] X.env))) := by rfl) (he : starEach (e :: es) X.env = (false, eval e X.env) :: starEach es X.env := by rfl) (hpl : (backTo pos (starEach es X.env)).any (·.1) = false := by rfl) : SE Γ X W (.Call fe (e :: es) [] pos) (mCallO C n g mo ms) := by
  obtain ⟨f, fd, ps, M, F, hb⟩ := c.ex
  obtain ⟨tf, pf, ef⟩ := hf.ex
  obtain ⟨t, pt, et⟩ := ha.ex
  refine ⟨_, pe_iS (E := WE W) pf M F hr hb (fun σ => passAt tk σ) pt ht he hpl, fun S H h σ env Q R G q => exE_bind (t := tf) ef R G q fun x h1 S1 H1 v e1 R1 G1 r1 p1 => ?_⟩
  split at p1
  case isFalse => exact p1.elim
  rename_i hx
  have hv : ∃ a, v = V.ref a := by
    cases x with
    | ob C ks xs => unfold Rep at r1; obtain ⟨a, _, _, e, _⟩ := r1; exact ⟨a, e⟩
    | ref n => unfold Rep at r1; obtain ⟨a, _, e⟩ := r1; exact ⟨a, e⟩
    | _ => cases hx
  obtain ⟨a, rfl⟩ := hv
  refine ⟨a, rfl, exA_bind (t := t) et R1 G1 p1 fun ds h2 S2 H2 vs e2 R2 G2 r2 p2 => ?_⟩
  split at p2
  · rename_i C' ks xs ei
    split at p2
    · rename_i hc
      obtain ⟨rfl, hn⟩ := hc
      obtain ⟨a', dx, us, ea, q2, q3, q4⟩ := ins_rep R2 (r1.ext e2) ei
      cases ea
      exact ⟨.inr ⟨dx, _, q2⟩, sp_of R2 (repL_cons (r1.ext e2) r2) hn p2⟩
    · exact p2.elim
  · exact p2.elim
end
end Mn
/-! ## MnM -/
set_option Elab.async false
set_option linter.all false
set_option maxRecDepth 100000
/-! Mn, part M: a tuple once. -/
namespace Mn
open PySem PySem.Spec PyProof.Rows L2
theorem tmul1W (l : Addr) (items : Array Value) (n : Nat) (dd : Option Addr) (sl : Array (Option Value)) (u : Tok) : Meets (Builtin.«tuple.__mul__» ⟨[.ref l, .int 1 u], []⟩) (fun _ R s => s.heap.get? l = some { cls := .type "tuple", dict := dd, data := .seq items n, slots := sl } ∧ R (.ok (.ret (Value.ref l))) s) :=
  .of_wp fun prog w A R s h => by
    obtain ⟨hp, g, d, tk, os⟩ := s
    obtain ⟨hl, h⟩ := h
    have f1 := AutoSeq1.idx_int
    wp_walk using wpAny_loadPart' hl
    exact ⟨_, rfl, h⟩
def rMul1 (K : PySem.W.Frag) : R2 := fun x y H Q => ∃ l xs, x = .ref l ∧ y = .int 1 ∧ SqT K H l xs ∧ Q (.ref l) H
theorem op_mul1 {X : Cx} : OpR X (binaryOp .Mult) (rMul1 X.K) := by
  intro pins s σ H x y v u Q I rx ry h
  obtain ⟨l, xs, rfl, rfl, hT, q⟩ := h
  cases rx
  obtain ⟨t, rfl⟩ := ry
  obtain ⟨its, r, ⟨⟨cls, dd, data, sl⟩, ho, hc, n, hd⟩, hs⟩ := I.tuple hT
  simp only at hc hd
  subst hc hd
  refine wpAny_binaryOp_repeat_ref (T := "tuple") (U := "int") (by decide) ⟨_, ho, rfl⟩ (fun s' => typeIs_int s' 1 t) noFill_tuple_mul F.fills_int_mul F.slot_int_rmul repeat_tuple F.slot_int_index.lookup (call_meets F.slot_int_rmul (typeIs_int s 1 t) F.entry_int_rmul (F.args_int_rmul_2 _ _) (int_rmul_tuple 1 t l its.toArray n dd sl) ⟨ho, rfl, ⟨_, ho, rfl⟩, call_meets F.slot_tuple_mul ⟨_, ho, rfl⟩ F.entry_tuple_mul (F.args_tuple_mul_2 _ _) (tmul1W l its.toArray n dd sl t) ⟨ho, ?_⟩⟩)
  exact ⟨.ref l, H, I, rfl, q⟩
def rMulX (K : PySem.W.Frag) : R2 := fun x y H Q => rMulAll K x y H Q ∨ rMul1 K x y H Q
theorem op_mulX {X : Cx} : OpR X (binaryOp .Mult) (rMulX X.K) := fun pins s σ H x y v u Q I rx ry h => by
  rcases h with h | h
  · exact op_mulAll pins s σ H x y v u Q I rx ry h
  · exact op_mul1 pins s σ H x y v u Q I rx ry h
def fMulX (b : Bool) (x y : MV) (h : MH) : Out MV := match x, y with
  | .tup xs, .int k => if k = 1 then .ok (.tup xs) h else fMul b (.tup xs) (.int k) h
  | x, y => fMul b x y h
theorem lift_mulX {Γ : Gm} {K : PySem.W.Frag} {b : Bool} : Lift2 Γ K (rMulX K) (fMulX b) := by
  intro S H h x y u v Q E R rx ry p
  unfold fMulX at p
  split at p
  · split at p
    · rename_i xs k hk
      subst hk
      have rx' := rx
      unfold Rep at rx
      obtain ⟨a, us, rfl, q2, q3⟩ := rx
      exact .inr ⟨a, us, rfl, rep_int ry, sqT_mono (S' := ⟨H, []⟩) (fun a o e => R.sub a o e) q2, p _ _ _ (Ext.refl _ _) R rx'⟩
    · exact .inl (lift_mul S H h _ _ u v Q E R rx ry p)
  · exact .inl (lift_mul S H h _ _ u v Q E R rx ry p)
end Mn
/-! ## MnN -/
set_option Elab.async false
set_option linter.all false
set_option maxRecDepth 100000
/-! Mn, part N: a list's item, augmented. -/
namespace Mn
open PySem PySem.Spec PyProof.Rows L2
def rGetL (K : PySem.W.Frag) : V → V → Hp → VK → Prop := fun o i H Q => ∃ p xs k z, o = .ref p ∧ i = .int k ∧ H p = some (.lst xs) ∧ atI xs k = some z ∧ Q z H
theorem get_listP {X : Cx} : PGet X (rGetL X.K) := by
  intro pins s σ H o i ov iv Q I ro ri h
  obtain ⟨p, xs, k, z, rfl, rfl, hp, he, q⟩ := h
  cases ro
  obtain ⟨t, rfl⟩ := ri
  obtain ⟨its, n, r, e, hs⟩ := I.lst hp
  obtain ⟨j, h1, h2, h3, h4, h5⟩ := atI_get he
  obtain ⟨w, ew, rw'⟩ := r.get h2
  have hl := r.length
  have hn := line63
  have fin : EP X pins σ Q w s := ⟨z, H, I, rw', q⟩
  by_cases h0 : 0 ≤ k
  · have hj : k.toNat = j := by
      rw [seqIndex_of h0 h5] at h1
      exact Option.some.inj h1
    exact wpAny_getItem_list (l := p) (items := its.toArray) ⟨_, e, rfl, n, rfl⟩ h0 (by omega) (by rw [hj]; simpa using ew) fin
  · have hj : (k + (its.toArray.size : Int)).toNat = j := by
      rw [seqIndex_neg (by omega) h4] at h1
      have := Option.some.inj h1
      rw [List.size_toArray, ← hl]; exact this
    exact wpAny_getItem_list_neg (l := p) (items := its.toArray) ⟨_, e, rfl, n, rfl⟩ (by omega) (by rw [List.size_toArray]; omega) (by omega) (by rw [hj]; simpa using ew) fin
def fGetL : MV → MV → MH → Out MV
  | .ref n, .int k, h => match h[n]? with
    | some (.lst xs) => match atI xs k with
      | some d => .ok d h
      | none => .stuck
    | _ => .stuck
  | _, _, _ => .stuck
theorem lift_getL {Γ : Gm} {K : PySem.W.Frag} : Lift2 Γ K (rGetL K) fGetL := by
  intro S H h x y u v Q E R rx ry p
  cases x with
  | ref n =>
    cases y with
    | int k =>
      unfold fGetL at p
      simp only at p
      split at p
      · rename_i xs hn
        split at p
        · rename_i d hd
          unfold Rep at rx
          obtain ⟨a, q1, rfl⟩ := rx
          obtain ⟨z, us, q3, q4⟩ := R.cell _ _ a hn q1
          obtain ⟨w, ew, rw_⟩ := atI_rep q4 hd
          exact ⟨a, us, k, w, rfl, rep_int ry, q3, ew, p _ _ _ (Ext.refl _ _) R rw_⟩
        · exact p.elim
      · exact p.elim
    | _ => exact p.elim
  | _ => exact p.elim
/-- o[i] op= e -/
def sAugS (mo mi : ME) (f : MV → MV → MH → Out MV) (me : ME) : MS := fun env h => (mo env h).andS env fun o h => (mi env h).andS env fun i h => (fGetL o i h).andS env fun x h => (me env h).andS env fun y h => (f x y h).andS env fun z h => (fSetL o i z h).andS env fun _ h => .ok .nx env h
section
variable {Γ : Gm} {X : Cx} {W : WX} {o i e : Expr} {mo mi me : ME} {pos tpos : Pos} {op : Operator} {tip : TIp} {f : MV → MV → MH → Out MV}
theorem postS_of {γ β : Type} {S : Sh} {H : Hp} {D : L2.Ends} {σ : L2.St} {env : MEnv} {x : Out γ} {k : γ → MH → OutS} {R' : Sh → γ → β → Prop} {QQ : β → Hp → Prop} (G : REnv Γ X.K S env σ) (hp : PostS Γ X.K S H D W (x.andS env k)) (hk : ∀ a h1 S1 H1 b, Ext S H S1 H1 → Rel Γ X.K S1 h1 H1 → REnv Γ X.K S1 env σ → R' S1 a b → PostS Γ X.K S1 H1 D W (k a h1) → QQ b H1) : Post Γ X.K R' S H QQ (WE' W σ) x := by
  cases x with
  | ok a h1 => exact fun S' H' b e r q => hk a h1 S' H' b e r (G.mono e) q (PostS.ext hp e)
  | exc C xs h1 => exact fun S' H' dd e r q => hp S' H' σ dd e r (G.mono e) q
  | stuck => exact hp
theorem ss_augS (ho : SE Γ X W o mo) (hi : SE Γ X W i mi) (he : SE Γ X W e me) (hp : PIp X op tip) (hl : Lift2 Γ X.K tip f) (ha : ∀ ov iv new, augStore i ov iv new = (do holding [new, ov, iv] (setItem ov iv new); release [new, ov, iv] []; pure .next) := by intros; rfl) : SS Γ X W (.AugAssign (.Subscript o i tpos) op e pos) (sAugS mo mi f me) := by
  obtain ⟨to, po, eo⟩ := ho.ex
  obtain ⟨ti, pi, ei⟩ := hi.ex
  obtain ⟨te, pe, ee⟩ := he.ex
  refine ⟨_, ps_augS po pi get_listP pe hp set_list ha, fun S H h σ env D R G q => exES (t := to) eo R G q fun x h1 S1 H1 u e1 R1 G1 r1 p1 => exES (t := ti) ei R1 G1 p1 fun y h2 S2 H2 v e2 R2 G2 r2 p2 => ?_⟩
  exact lift_getL S2 H2 h2 x y u v _ (WE' W σ) R2 (r1.ext e2) r2 (postS_of G2 p2 fun d h3 S3 H3 w e3 R3 G3 r3 p3 => exES (t := te) ee R3 G3 p3 fun z h4 S4 H4 w2 e4 R4 G4 r4 p4 =>
    hl S4 H4 h4 d z w w2 _ (WE' W σ) R4 (r3.ext e4) r4 (postS_of G4 p4 fun nw h5 S5 H5 w3 e5 R5 G5 r5 p5 =>
      lift_setL S5 H5 h5 x y nw u v w3 _ (WE' W σ) R5 ((((r1.ext e2).ext e3).ext e4).ext e5) (((r2.ext e3).ext e4).ext e5) r5 (postS_of (R' := Rep Γ X.K) G5 p5 fun _ h6 S6 H6 _ e6 R6 G6 _ p6 => p6 S6 H6 σ (Ext.refl _ _) R6 G6)))
end
end Mn
/-! ## MnO -/
set_option Elab.async false
set_option linter.all false
set_option maxRecDepth 100000
/-! Mn, part O: freezing a cell (a list that nobody changes any more becomes a value). -/
namespace Mn
open PySem PySem.Spec PyProof.Rows L2
def frzL (f : MV → MH → Option (MV × MH)) : List MV → MH → Option (List MV × MH)
  | [], h => some ([], h)
  | x :: xs, h => match f x h with
    | some (y, h1) => match frzL f xs h1 with
      | some (ys, h2) => some (y :: ys, h2)
      | none => none
    | none => none
def frzV : Nat → MV → MH → Option (MV × MH)
  | 0, _, _ => none
  | k + 1, .ref n, h => match h[n]? with
    | some (.lst xs) => match frzL (frzV k) xs h with
      | some (ys, h1) => match h1[n]? with
        | some (.lst _) => some (.fl ys, h1.set n .dead)
        | _ => none
      | none => none
    | _ => none
  | k + 1, .tup xs, h => match frzL (frzV k) xs h with
    | some (ys, h1) => some (.tup ys, h1)
    | none => none
  | _ + 1, v, h => some (v, h)
section
variable {Γ : Gm} {K : PySem.W.Frag}
/-- what freezing gives -/
def FrzOk (Γ : Gm) (K : PySem.W.Frag) (f : MV → MH → Option (MV × MH)) : Prop := ∀ v h v' h' S H u, Rel Γ K S h H → Rep Γ K S v u → f v h = some (v', h') → ∃ S', Rel Γ K S' h' H ∧ Ext S H S' H ∧ S'.ι = S.ι ∧ Rep Γ K S' v' u
theorem frzL_ok {f : MV → MH → Option (MV × MH)} (k : FrzOk Γ K f) : ∀ xs h ys h' S H us, Rel Γ K S h H → RepL Γ K S xs us → frzL f xs h = some (ys, h') → ∃ S', Rel Γ K S' h' H ∧ Ext S H S' H ∧ S'.ι = S.ι ∧ RepL Γ K S' ys us
  | [], h, ys, h', S, H, us, R, r, e => by
    unfold frzL at e
    cases e
    exact ⟨S, R, Ext.refl _ _, rfl, r⟩
  | x :: xs, h, ys, h', S, H, us, R, r, e => by
    unfold frzL at e
    unfold RepL at r
    obtain ⟨u, us', rfl, r1, r2⟩ := r
    cases e1 : f x h with
    | none => rw [e1] at e; cases e
    | some q =>
      obtain ⟨y, h1⟩ := q
      rw [e1] at e
      simp only at e
      obtain ⟨S1, R1, x1, i1, q1⟩ := k x h y h1 S H u R r1 e1
      cases e2 : frzL f xs h1 with
      | none => rw [e2] at e; cases e
      | some q =>
        obtain ⟨zs, h2⟩ := q
        rw [e2] at e
        cases e
        obtain ⟨S2, R2, x2, i2, q2⟩ := frzL_ok k xs h1 zs _ S1 H us' R1 (r2.ext x1) e2
        exact ⟨S2, R2, x1.trans x2, by rw [i2, i1], by unfold RepL; exact ⟨u, us', rfl, q1.ext x2, q2⟩⟩
theorem frzV_ok : ∀ k, FrzOk Γ K (frzV k)
  | 0 => fun v h v' h' S H u R r e => by unfold frzV at e; cases e
  | k + 1 => fun v h v' h' S H u R r e => by
    have ih := frzL_ok (frzV_ok k)
    cases v with
    | ref n =>
      unfold frzV at e
      cases e1 : h[n]? with
      | none => rw [e1] at e; cases e
      | some c =>
        rw [e1] at e
        cases c with
        | lst xs =>
          simp only at e
          cases e2 : frzL (frzV k) xs h with
          | none => rw [e2] at e; cases e
          | some q =>
            obtain ⟨ys, h1⟩ := q
            rw [e2] at e
            simp only at e
            have r' := r
            unfold Rep at r'
            obtain ⟨a, ha, rfl⟩ := r'
            obtain ⟨_, us, hH, rl⟩ := R.cell n _ a e1 ha
            obtain ⟨S1, R1, x1, i1, q1⟩ := ih xs h ys h1 S H us R rl e2
            cases e3 : h1[n]? with
            | none => rw [e3] at e; cases e
            | some c =>
              rw [e3] at e
              cases c with
              | lst zs =>
                simp only at e
                cases e
                have ha1 : S1.ι[n]? = some a := by rw [i1]; exact ha
                obtain ⟨hs1, _⟩ := R1.cell n _ a e3 ha1
                obtain ⟨R2, x2⟩ := R1.freeze ha1 hs1 hH
                refine ⟨_, R2, x1.trans x2, i1, ?_⟩
                unfold Rep
                exact ⟨a, us, rfl, upd_same, q1.ext x2⟩
              | dct _ => cases e
              | ins _ _ _ => cases e
              | dead => cases e
        | dct _ => cases e
        | ins _ _ _ => cases e
        | dead => cases e
    | tup xs =>
      unfold frzV at e
      cases e2 : frzL (frzV k) xs h with
      | none => rw [e2] at e; cases e
      | some q =>
        obtain ⟨ys, h1⟩ := q
        rw [e2] at e
        cases e
        unfold Rep at r
        obtain ⟨a, us, rfl, sq, rl⟩ := r
        obtain ⟨S1, R1, x1, i1, q1⟩ := ih xs h ys _ S H us R rl e2
        refine ⟨S1, R1, x1, i1, ?_⟩
        unfold Rep
        exact ⟨a, us, rfl, sqT_mono x1.hs sq, q1⟩
    | non => cases e; exact ⟨S, R, Ext.refl _ _, rfl, r⟩
    | bl _ => cases e; exact ⟨S, R, Ext.refl _ _, rfl, r⟩
    | int _ => cases e; exact ⟨S, R, Ext.refl _ _, rfl, r⟩
    | str _ => cases e; exact ⟨S, R, Ext.refl _ _, rfl, r⟩
    | fl _ => cases e; exact ⟨S, R, Ext.refl _ _, rfl, r⟩
    | sl _ => cases e; exact ⟨S, R, Ext.refl _ _, rfl, r⟩
    | ob _ _ _ => cases e; exact ⟨S, R, Ext.refl _ _, rfl, r⟩
    | exo _ _ _ _ => cases e; exact ⟨S, R, Ext.refl _ _, rfl, r⟩
end
/-- a name's list frozen ahead of a statement -/
def sFrz (i : Nat) (m : MS) : MS := fun env h => match env[i]? with
  | some (some v) => match frzV 8 v h with
    | some (v', h') => m (env.set i (some v')) h'
    | none => .stuck
  | _ => .stuck
/-- an expression's value frozen -/
def mFrz (e : ME) : ME := fun env h => (e env h).bind fun v h => match frzV 8 v h with
  | some (v', h') => .ok v' h'
  | none => .stuck
section
variable {Γ : Gm} {X : Cx} {W : WX} {st : Stmt} {m : MS} {e : Expr} {me : ME}
theorem REnv.frz {K : PySem.W.Frag} {S : Sh} {env : MEnv} {σ : L2.St} {i : Nat} {v : MV} {u : V} (G : REnv Γ K S env σ) (hi : σ[i]? = some (some u)) (r : Rep Γ K S v u) : REnv Γ K S (env.set i (some v)) σ :=
  ⟨by rw [List.length_set]; exact G.1, fun j d hj => by
    by_cases hij : i = j
    · subst hij
      have hl := (List.getElem?_eq_some_iff.mp hj).1
      rw [List.length_set] at hl
      rw [List.getElem?_set_self hl] at hj
      cases hj
      exact ⟨u, hi, r⟩
    · rw [List.getElem?_set_ne hij] at hj
      exact G.2 j d hj⟩
theorem ss_frz (i : Nat) (k : SS Γ X W st m) : SS Γ X W st (sFrz i m) := by
  obtain ⟨t, p, ex⟩ := k.ex
  refine ⟨t, p, fun S H h σ env D R G q => ?_⟩
  unfold sFrz at q
  split at q
  · rename_i v hv
    split at q
    · rename_i v' h' hf
      obtain ⟨u, hu, r⟩ := G.2 i v hv
      obtain ⟨S1, R1, x1, _, r1⟩ := frzV_ok 8 v h v' h' S H u R r hf
      exact ex S1 H h' σ _ D R1 (REnv.frz (G.mono x1) hu r1) (PostS.ext q x1)
    · exact q.elim
  · exact q.elim
theorem se_frz (k : SE Γ X W e me) : SE Γ X W e (mFrz me) := by
  obtain ⟨t, p, ex⟩ := k.ex
  refine ⟨t, p, fun S H h σ env Q R G q => exE_bind (t := t) ex R G q fun v h1 S1 H1 u e1 R1 G1 r1 p1 => ?_⟩
  split at p1
  · rename_i v' h' hf
    obtain ⟨S2, R2, x2, _, r2⟩ := frzV_ok 8 v h1 v' h' S1 H1 u R1 r1 hf
    exact p1 S2 H1 u x2 R2 r2
  · exact p1.elim
end
end Mn
/-! ## MnT -/
set_option Elab.async false
set_option linter.all false
set_option maxRecDepth 100000
/-! Mn, part T: xs[::-1], a list extended by a tuple. -/
namespace Mn
open PySem PySem.Spec PyProof.Rows L2
theorem ext_tupW (l : Addr) (items : Array Value) (n : Nat) (b : Addr) (items2 : Array Value) (n2 : Nat) (dd : Option Addr) (sl : Array (Option Value)) (hs0 : ¬(!items.isEmpty && Builtin.List.listTooLong (items.size + items2.size)) = true) (hs1 : items.size ≤ sizeLine) (hs2 : items.size + items2.size ≤ sizeLine + 1) :
    Meets (Builtin.«list.extend» ⟨[.ref l, .ref b], []⟩) (fun _ R s => s.heap.get? l = some { cls := .type "list", dict := none, data := .seq items n, slots := #[] } ∧ s.heap.get? b = some { cls := .type "tuple", dict := dd, data := .seq items2 n2, slots := sl } ∧ R (.ok (.ret Value.none)) { s with heap := s.heap.update l (Obj.mapSeq fun x => x ++ items2), toks := s.toks }) :=
  .of_wp fun prog w A R s h => by
    obtain ⟨hp, g, d, tk, os⟩ := s; obtain ⟨hl, hb, h⟩ := h; have f1 := AutoSeq1.idx_int; have f2 := AutoSeq1.sub_tuple_tuple; have f3 := AutoSeq1.sub_list_list; have f4 := AutoSeq1.sub_tuple_list; have f5 := AutoSeq1.sub_list_tuple
    have hz' : (items ++ items2).size ≤ sizeLine + 1 := by rw [Array.size_append]; exact hs2
    wp_walk using (wpAny_updateSeq hl rfl (hz := hs1) (_hz' := hz')), wpAny_loadPart' hl, wpAny_loadPart' hb; exact ⟨_, rfl, h⟩
def rExtendT (K : PySem.W.Frag) : V → List V → Hp → VK → Prop := fun x vs H Q => ∃ l b xs zs, x = .ref l ∧ vs = [.ref b] ∧ H l = some (.lst xs) ∧ SqT K H b zs ∧ xs.length + zs.length ≤ sizeLine ∧ Q .non (upd H l (.lst (xs ++ zs)))
theorem mt_extendT {X : Cx} : MtM X "list.extend" (rExtendT X.K) := by
  intro pins s σ H x vs v us Q I rx rv h
  obtain ⟨l, b, xs, zs, rfl, rfl, hH, hB, hz, q⟩ := h
  cases rx
  obtain ⟨u, rfl, ru⟩ := rv.one
  cases ru
  obtain ⟨z, its, n, r, hl, e⟩ := I.lstM hH
  obtain ⟨its2, r2, ⟨⟨cls, dd, data, sl⟩, ho, hc, n2, hd⟩, hs⟩ := I.tuple hB
  simp only at hc hd
  subst hc hd
  have hl2 := r2.length
  have hsz : its.toArray.size + its2.toArray.size ≤ sizeLine := by rw [List.size_toArray, List.size_toArray]; omega
  have hlong : ¬ (!its.toArray.isEmpty && Builtin.List.listTooLong (its.toArray.size + its2.toArray.size)) = true := by
    rw [notLongL hsz, Bool.and_false]
    exact Bool.false_ne_true
  refine call_meets F.slot_list_extend ⟨_, e, rfl⟩ F.entry_list_extend (F.args_list_extend_2 _ _)
    (ext_tupW l its.toArray n b its2.toArray n2 dd sl hlong (by rw [List.size_toArray]; omega) (by omega)) ⟨e, ho, ?_⟩
  refine ⟨.non, _, I.lset (its' := its ++ its2) hH e (by simp) (r.append r2) ?_, rfl, q⟩
  rw [List.length_append]
  omega
def rExtend2 (K : PySem.W.Frag) : V → List V → Hp → VK → Prop := fun x vs H Q => rExtend x vs H Q ∨ rExtendT K x vs H Q
theorem mt_extend2 {X : Cx} : MtM X "list.extend" (rExtend2 X.K) := by
  intro pins s σ H x vs v us Q I rx rv h
  rcases h with h | h
  · exact mt_extend pins s σ H x vs v us Q I rx rv h
  · exact mt_extendT pins s σ H x vs v us Q I rx rv h
def fExtend2 : MV → List MV → MH → Out MV
  | .ref n, [.tup ys], h => match h[n]? with
    | some (.lst xs) => if xs.length + ys.length ≤ sizeLine then .ok .non (h.set n (.lst (xs ++ ys))) else .stuck
    | _ => .stuck
  | x, ys, h => fExtend x ys h
theorem lift_extend2 {Γ : Gm} {K : PySem.W.Frag} : LiftM Γ K (rExtend2 K) fExtend2 := by
  intro S H h x u xs us Q E R rx rs p
  unfold fExtend2 at p
  split at p
  · split at p
    · rename_i n ys _ xs hx
      split at p
      · rename_i hz
        obtain ⟨v, rfl, q1⟩ := repL_1 rs
        obtain ⟨b, ws, rfl, w2, w3⟩ := tup_ok R q1
        obtain ⟨a, vs, rfl, q2, q3, q4⟩ := storeL (ys := xs ++ ys) R hx rx
        obtain ⟨R1, e1⟩ := q4 _ (repL_app q3 w3)
        exact .inr ⟨a, b, vs, ws, rfl, rfl, q2, w2, by rw [← repL_len q3, ← repL_len w3]; exact hz, p _ _ .non e1 R1 is_non⟩
      · exact p.elim
    · exact p.elim
  · exact .inl (lift_extend S H h x u xs us Q E R rx rs p)
section
variable {Γ : Gm} {X : Cx} {W : WX} {o e : Expr} {es : List Expr} {mo me : ME} {ms : MA} {pos apos cpos p2 : Pos}
theorem sm_extend2 (ho : SE Γ X W o mo) (ha : SA Γ X W (e :: es) ms) (hbase : attributeBase o "extend" X.env (eval o X.env) = eval o X.env := by rfl)
    (hfew : ((backTo cpos (starEach (e :: es) X.env)).all (fun x => !x.1) && (backToKw cpos (keywordEach [] X.env)).all (fun x => x.1.isSome)
      && decide ((e :: es).length + ([] : List Keyword).length + (if ([] : List Keyword).isEmpty then 0 else 1) < 30)) = true := by rfl)
    (hline : (apos.endLine == cpos.line) = true := by rfl) (hs : starEach (e :: es) X.env = (false, eval e X.env) :: starEach es X.env := by rfl) (hplain : (backTo cpos (starEach es X.env)).any (·.1) = false := by rfl) : SE Γ X W (.Call (.Attribute o "extend" apos) (e :: es) [] cpos) (mM "list" fExtend2 mo ms) :=
  se_m PySem.F.plainAttrs_list PySem.F.slot_list_extend PySem.F.type_list_extend mt_extend2 lift_extend2 ho ha hbase hfew hline hs hplain
/-! xs[::-1] -/
def tRev (K : PySem.W.Frag) (te ts : TE) : TE := fun σ H Q => te σ H fun x H1 => ts σ H1 fun y H2 => y = .int (-1) ∧ ∃ a xs, x = .ref a ∧ SqL K H2 a xs ∧ ∀ p, H2 p = none → Q (.ref p) (upd H2 p (.lst xs.reverse))
theorem pe_rev {te ts : TE} {st : Expr} (he : PE X e te) (hst : PE X st ts) : PE X (.Subscript e (.Slice none none (some st) p2) pos) (tRev X.K te ts) := by
  refine ⟨fun pins s σ H Q I h => ?_⟩
  refine Subscript_ (thn (he.run pins s σ H _ I h) fun v s1 ⟨x, H1, I1, r1, q1⟩ => ?_)
  refine wpAny_Slice ?_
  rw [evalPart_none]
  refine wpAny_pure ?_
  refine wpAny_pure ?_
  rw [evalPart_some]
  refine thn (hst.run pins s1 σ H1 _ I1 q1) fun u s2 ⟨y, H2, I2, r2, hy, a, xs, hx, hs, q⟩ => ?_
  subst hy hx
  obtain ⟨t, rfl⟩ := r2
  cases r1
  have I4 : Inv X pins σ H2 { s2 with heap := s2.heap.push { cls := .type "slice", data := .fields #[.none, .none, .int (-1) t] } } := I2.kept (t' := s2.toks) fun b ob q => Heap.get?_push_of_some _ q
  obtain ⟨its, r, ht, hz⟩ := I4.list hs
  have hlen := r.length
  show wpAny (model X.prog X.w) X.A (subscriptTail e (.Slice none none (some st) p2) (.ref a) (.ref s2.heap.objs.size)) (EP X pins σ Q) X.xe { s2 with heap := s2.heap.push { cls := .type "slice", data := .fields #[.none, .none, .int (-1) t] } }
  refine tail_any (ops := [.ref a, .ref s2.heap.objs.size]) ht.isList.typeIs slot_list_getitem.lookup ?_ (by with_unfolding_all rfl)
  refine wpAny_getItem_list_slice ht.isList (Heap.IsSliceOf.new ..) .none .none (.int (-1) t) (by decide) ?_ (by rw [List.size_toArray] <;> omega)
  rw [PySem.W.krv_pick]
  refine ⟨.ref _, _, I4.laid (t' := s2.toks) (o := .lst xs.reverse) (fun b ob q => Heap.get?_push_of_some _ q) (Nat.le_refl _) ?_, rfl, q _ (I4.hok.fresh (Nat.le_refl _))⟩
  exact ⟨by rw [List.length_reverse]; exact hz, _, 0, r.reverse, Heap.get?_push_size _ rfl⟩
def mRev (b : Bool) (a : ME) : ME := fun env h => (a env h).bind fun x h => match lstAt h x with
  | some xs => retL b xs.reverse h
  | none => .stuck
theorem rev_rep {K : PySem.W.Frag} {S : Sh} : ∀ {xs : List MV} {us : List V}, RepL Γ K S xs us → RepL Γ K S xs.reverse us.reverse
  | [], us, r => by unfold RepL at r; subst r; unfold List.reverse List.reverseAux; unfold RepL; rfl
  | x :: xs, us, r => by
    unfold RepL at r
    obtain ⟨u, r', rfl, q1, q2⟩ := r
    rw [List.reverse_cons, List.reverse_cons]
    exact repL_app (rev_rep q2) (repL_cons q1 repL_nil)
theorem se_rev {b : Bool} {k : Nat} {p1 p3 : Pos} (ha : SE Γ X W e me) : SE Γ X W (.Subscript e (.Slice none none (some (.UnaryOp .USub (.Constant (.int 1) k p1) p3)) p2) pos) (mRev b me) := by
  obtain ⟨ta, pa, ea⟩ := ha.ex
  obtain ⟨ts, ps, es⟩ := (se_un (Γ := Γ) (X := X) (W := W) un_neg lift_neg (se_int (i := 1) (j := k) (p := p1)) (pos := p3)).ex
  refine ⟨_, pe_rev pa ps, fun S H h σ env Q R G p => exE_bind (t := ta) ea R G p fun x h1 S1 H1 u e1 R1 G1 r1 p1 => ?_⟩
  refine es S1 H1 h1 σ env _ R1 G1 ?_
  show Post Γ X.K (Rep Γ X.K) S1 H1 _ (WE' W σ) (.ok (.int (-1)) h1)
  intro S2 H2 y e2 R2 r2
  refine ⟨rep_int r2, ?_⟩
  split at p1
  · rename_i xs hx
    obtain ⟨a, us, rfl, q2, q3⟩ := lstAt_ok R2 hx (r1.ext e2)
    exact ⟨a, us, rfl, q2, newL R2 (rev_rep q3) (p1.ext e2)⟩
  · exact p1.elim
end
end Mn
/-! ## MnU -/
set_option Elab.async false
set_option linter.all false
set_option maxRecDepth 100000
/-! Mn, part U: sorted(set(t)), t a tuple of ints. -/
namespace Mn
open PySem PySem.Spec PyProof.Rows L2
/-! ### ascending lists -/
def insA (k : Int) : List Int → List Int
  | [] => [k]
  | x :: xs => if k < x then k :: x :: xs else if k = x then x :: xs else x :: insA k xs
/-- the members, ascending, each once -/
def srtSet : List Int → List Int
  | [] => []
  | x :: xs => insA x (srtSet xs)
theorem mem_insA {k j : Int} : ∀ {xs : List Int}, j ∈ insA k xs ↔ j = k ∨ j ∈ xs
  | [] => by simp [insA]
  | x :: xs => by
    unfold insA
    split
    · simp
    · split
      · rename_i e; subst e; simp
      · rw [List.mem_cons, mem_insA (xs := xs), List.mem_cons]
        constructor
        · rintro (h | h | h)
          · exact .inr (.inl h)
          · exact .inl h
          · exact .inr (.inr h)
        · rintro (h | h | h)
          · exact .inr (.inl h)
          · exact .inl h
          · exact .inr (.inr h)
theorem insA_asc {k : Int} : ∀ {xs : List Int}, xs.Pairwise (· < ·) → (insA k xs).Pairwise (· < ·)
  | [], _ => by simp [insA]
  | x :: xs, h => by
    obtain ⟨h1, h2⟩ := List.pairwise_cons.mp h
    unfold insA
    split
    · rename_i c
      refine List.pairwise_cons.mpr ⟨fun y hy => ?_, h⟩
      rcases List.mem_cons.mp hy with rfl | hy
      · exact c
      · exact Int.lt_trans c (h1 y hy)
    · split
      · exact h
      · refine List.pairwise_cons.mpr ⟨fun y hy => ?_, insA_asc h2⟩
        rcases mem_insA.mp hy with rfl | hy
        · omega
        · exact h1 y hy
theorem mem_srtSet {j : Int} : ∀ {xs : List Int}, j ∈ srtSet xs ↔ j ∈ xs
  | [] => Iff.rfl
  | x :: xs => by
    show j ∈ insA x (srtSet xs) ↔ _
    rw [mem_insA, mem_srtSet (xs := xs), List.mem_cons]
theorem srtSet_asc : ∀ xs : List Int, (srtSet xs).Pairwise (· < ·)
  | [] => List.Pairwise.nil
  | x :: xs => insA_asc (srtSet_asc xs)
theorem insA_len {k : Int} : ∀ {xs : List Int}, (insA k xs).length ≤ xs.length + 1
  | [] => Nat.le_refl _
  | x :: xs => by
    unfold insA
    split
    · exact Nat.le_refl _
    · split
      · exact Nat.le_succ _
      · exact Nat.succ_le_succ insA_len
theorem srtSet_len : ∀ xs : List Int, (srtSet xs).length ≤ xs.length
  | [] => Nat.le_refl _
  | x :: xs => Nat.le_trans insA_len (Nat.succ_le_succ (srtSet_len xs))
/-- two ascending lists of the same members are one -/
theorem asc_eq : ∀ {a b : List Int}, a.Pairwise (· < ·) → b.Pairwise (· < ·) → (∀ k, k ∈ a ↔ k ∈ b) → a = b
  | [], [], _, _, _ => rfl
  | [], y :: ys, _, _, h => nomatch (h y).mpr List.mem_cons_self
  | x :: xs, [], _, _, h => nomatch (h x).mp List.mem_cons_self
  | x :: xs, y :: ys, ha, hb, h => by
    obtain ⟨a1, a2⟩ := List.pairwise_cons.mp ha
    obtain ⟨b1, b2⟩ := List.pairwise_cons.mp hb
    have e : x = y := by
      rcases List.mem_cons.mp ((h x).mp List.mem_cons_self) with z | z
      · exact z
      · rcases List.mem_cons.mp ((h y).mpr List.mem_cons_self) with w | w
        · exact w.symm
        · have p1 := b1 x z
          have p2 := a1 y w
          omega
    subst e
    rw [asc_eq a2 b2 fun k => ?_]
    have q := h k
    rw [List.mem_cons, List.mem_cons] at q
    constructor
    · intro m
      rcases q.mp (.inr m) with z | z
      · have p1 := a1 k m; omega
      · exact z
    · intro m
      rcases q.mpr (.inr m) with z | z
      · have p1 := b1 k m; omega
      · exact z
/-! ### set(t), sorted(set(t)) -/
/-- a set made of a tuple of ints -/
def rSetT (K : PySem.W.Frag) (w : World) : List V → Hp → VK → Prop := fun xs H Q => ∃ (a : Addr) (ns : List Int), xs = [V.ref a] ∧ SqT K H a (ns.map V.int) ∧ ns.length ≤ 1000 ∧
  ∀ (q : Addr) (c : Nat), c ≤ ns.length → H q = none → Q (.ref q) (upd H q (SetO w q (fun j => decide (j ∈ ns)) c))
theorem cr_setT {X : Cx} (hc : X.calm = true) : CallR X (.type "set") (rSetT X.K X.w) := by
  intro pins st σ H xs us Q I rr h
  obtain ⟨a, ns, rfl, hq, hn, q⟩ := h
  obtain ⟨cells, vals, isTup, small⟩ := I.tuple hq
  rw [Vals.ref1 rr]
  refine call_set_tupI ns (I.ok.hd hc) (show st.heap.IsTuple a cells.toArray from isTup) (ints_of_vals vals) (by unfold scanBound; omega) fun h' tk c R1 hcn keep => ?_
  have free : H st.heap.objs.size = none := I.hok.fresh (Nat.le_refl _)
  exact ⟨.ref _, _, I.laid (t' := tk) keep (Nat.le_refl _) (setO_new R1), rfl, q _ c hcn free⟩
def fSrtSet (b : Bool) : MF
  | [.tup xs], h => match intsOf xs with
    | some ns => if ns.length < 64 then retL b ((srtSet ns).map MV.int) h else .stuck
    | none => .stuck
  | _, _ => .stuck
theorem lift_srtSet {Γ : Gm} {K : PySem.W.Frag} {w : World} {b : Bool} : LiftF Γ K (fun xs H Q => rSetT K w xs H fun x H2 => rSortedSet w [x] H2 Q) (fSrtSet b) := by
  intro S H h xs us Q E R r p
  unfold fSrtSet at p
  split at p
  · obtain ⟨v, rfl, q1⟩ := repL_1 r
    split at p
    · rename_i ns hn
      split at p
      · rename_i hl
        obtain ⟨a, vs, rfl, q2, q3⟩ := tup_ok R q1
        rw [intsOf_eq hn] at q3
        rw [repL_ints q3] at q2
        refine ⟨a, ns, rfl, q2, by omega, fun q c hc hq => ⟨q, _, c, rfl, upd_same, by omega, fun out p' h1 h2 h3 hp' => ?_⟩⟩
        obtain ⟨R1, e1⟩ := R.froz (o := SetO w q (fun j => decide (j ∈ ns)) c) hq
        rw [show out = srtSet ns from asc_eq h1 (srtSet_asc ns) fun k => by rw [h2, mem_srtSet, decide_eq_true_eq]]
        exact newL R1 (ints_repL _) (Post.ext p e1) p' hp'
      · exact p.elim
    · exact p.elim
  · exact p.elim
section
variable {Γ : Gm} {X : Cx} {W : WX} {e : Expr} {ms : MA} {pos p p2 pos2 : Pos}
theorem bt_sorted : bootBuiltins "sorted" = some (.builtin "sorted") := by decide +kernel
theorem bt_set : bootBuiltins "set" = some (.type "set") := by decide +kernel
theorem se_srtSet (b : Bool) (hc : X.calm = true) (hm : X.mg "sorted" = none) (hm2 : X.mg "set" = none) (ha : SA Γ X W [e] ms) (hg : Gl X "sorted" := by rfl) (hg2 : Gl X "set" := by rfl)
    (he : starEach [e] X.env = (false, eval e X.env) :: starEach [] X.env := by rfl) (he2 : starEach [Expr.Call (.Name "set" p2) [e] [] pos2] X.env = (false, eval (Expr.Call (.Name "set" p2) [e] [] pos2) X.env) :: starEach [] X.env := by rfl) :
    SE Γ X W (.Call (.Name "sorted" p) [.Call (.Name "set" p2) [e] [] pos2] [] pos) (mF (fSrtSet b) ms) := by
  obtain ⟨ta, pa, ea⟩ := ha.ex
  exact ⟨_, pe_callB (cr_sortedSet hc) hg hm bt_sorted (pa_cons (pe_callTy (cr_setT hc) hg2 hm2 bt_set pa (by decide) (by decide) he rfl) pa_nil he2) (by decide) (by decide) he2 rfl,
    fun S H h σ env Q R G p => exA_bind (t := ta) ea R G p fun xs h1 S1 H1 us e1 R1 G1 r1 p1 => lift_srtSet (w := X.w) S1 H1 h1 xs us Q _ R1 r1 p1⟩
end
end Mn
/-! ## MnP -/
set_option Elab.async false
set_option linter.all false
set_option maxRecDepth 100000
/-! Mn, part P: plain reasoning about mirrors. -/
namespace Mn
open PySem PySem.Spec PyProof.Rows L2

abbrev nums (ns : List Int) : List MV := ns.map MV.int
/-! ### evaluation of expressions, by equations -/
section
variable {env : MEnv} {h h1 h2 h3 : MH} {a b c : ME} {x y z d : MV} {ms : MA} {xs ys : List MV} {t u : MT} {i : Nat}
theorem ev_C : mC d env h = .ok d h := rfl
theorem ev_V (e : env[i]? = some (some d)) : mV i env h = .ok d h := by unfold mV; rw [e]
theorem ev_1 {f : MV → MH → Out MV} (ha : a env h = .ok x h1) (hf : f x h1 = .ok y h2) : m1 f a env h = .ok y h2 := by unfold m1; rw [ha]; exact hf
theorem ev_2 {f : MV → MV → MH → Out MV} (ha : a env h = .ok x h1) (hb : b env h1 = .ok y h2) (hf : f x y h2 = .ok z h3) : m2 f a b env h = .ok z h3 := by unfold m2; rw [ha]; show (b env h1).bind _ = _; rw [hb]; exact hf
theorem ev_F {f : MF} (ha : ms env h = .ok xs h1) (hf : f xs h1 = .ok y h2) : mF f ms env h = .ok y h2 := by unfold mF; rw [ha]; exact hf
theorem ev_call {f : MF} {n : Nat} (ha : ms env h = .ok xs h1) (hn : xs.length = n) (hf : f xs h1 = .ok y h2) : mCall n f ms env h = .ok y h2 := by unfold mCall; rw [ha]; show (if xs.length = n then _ else _) = _; rw [if_pos hn]; exact hf
theorem ev_N : maN env h = .ok [] h := rfl
theorem ev_Cs (ha : a env h = .ok x h1) (hb : ms env h1 = .ok xs h2) : maC a ms env h = .ok (x :: xs) h2 := by unfold maC; rw [ha]; show (ms env h1).bind _ = _; rw [hb]
theorem ev_T {v : Bool} (ha : a env h = .ok (.bl v) h1) : mT a env h = .ok v h1 := by unfold mT; rw [ha]; rfl
theorem ev_tnot {v : Bool} (ha : t env h = .ok v h1) : tNotM t env h = .ok (!v) h1 := by unfold tNotM; rw [ha]
theorem ev_tand {v w : Bool} (ha : t env h = .ok v h1) (hb : v = true → u env h1 = .ok w h2) (hn : v = false → h2 = h1) : tAndM t u env h = .ok (v && w) h2 := by
  unfold tAndM; rw [ha]
  cases v with
  | true => show u env h1 = _; rw [hb rfl]; rfl
  | false => show Out.ok false h1 = _; rw [hn rfl]; rfl
theorem ev_tor {v w : Bool} (ha : t env h = .ok v h1) (hb : v = false → u env h1 = .ok w h2) (hn : v = true → h2 = h1) : tOrM t u env h = .ok (v || w) h2 := by
  unfold tOrM; rw [ha]
  cases v with
  | false => show u env h1 = _; rw [hb rfl]; rfl
  | true => show Out.ok true h1 = _; rw [hn rfl]; rfl
theorem ev_tandF (ha : t env h = .ok false h1) : tAndM t u env h = .ok false h1 := by unfold tAndM; rw [ha]; rfl
theorem ev_tandT {v : Bool} (ha : t env h = .ok true h1) (hb : u env h1 = .ok v h2) : tAndM t u env h = .ok v h2 := by unfold tAndM; rw [ha]; exact hb
theorem ev_torT (ha : t env h = .ok true h1) : tOrM t u env h = .ok true h1 := by unfold tOrM; rw [ha]; rfl
theorem ev_torF {v : Bool} (ha : t env h = .ok false h1) (hb : u env h1 = .ok v h2) : tOrM t u env h = .ok v h2 := by unfold tOrM; rw [ha]; exact hb
theorem ev_and {v w : Bool} (ha : a env h = .ok (.bl v) h1) (hb : v = true → b env h1 = .ok (.bl w) h2) (hn : v = false → h2 = h1) : mAnd a b env h = .ok (.bl (v && w)) h2 := by
  unfold mAnd; rw [ha]
  cases v with
  | true => show b env h1 = _; rw [hb rfl]; rfl
  | false => show Out.ok (MV.bl false) h1 = _; rw [hn rfl]; rfl
theorem ev_or {v w : Bool} (ha : a env h = .ok (.bl v) h1) (hb : v = false → b env h1 = .ok (.bl w) h2) (hn : v = true → h2 = h1) : mOr a b env h = .ok (.bl (v || w)) h2 := by
  unfold mOr; rw [ha]
  cases v with
  | false => show b env h1 = _; rw [hb rfl]; rfl
  | true => show Out.ok (MV.bl true) h1 = _; rw [hn rfl]; rfl
theorem ev_not {v : Bool} (ha : a env h = .ok (.bl v) h1) : mNot a env h = .ok (.bl (!v)) h1 := by unfold mNot; rw [ha]; rfl
theorem ev_ifT (ht : t env h = .ok true h1) (ha : a env h1 = .ok x h2) : mIf t a b env h = .ok x h2 := by unfold mIf; rw [ht]; exact ha
theorem ev_ifF (ht : t env h = .ok false h1) (ha : b env h1 = .ok x h2) : mIf t a b env h = .ok x h2 := by unfold mIf; rw [ht]; exact ha
theorem ev_tup (ha : ms env h = .ok xs h1) (hz : xs.length ≤ sizeLine) : mTup ms env h = .ok (.tup xs) h1 := by unfold mTup; rw [ha]; show (if xs.length ≤ sizeLine then _ else _) = _; rw [if_pos hz]
theorem ev_lstF (ha : ms env h = .ok xs h1) (hz : xs.length ≤ sizeLine) : mLst false ms env h = .ok (.fl xs) h1 := by unfold mLst; rw [ha]; show (if xs.length ≤ sizeLine then _ else _) = _; rw [if_pos hz]; rfl
theorem ev_lstT (ha : ms env h = .ok xs h1) (hz : xs.length ≤ sizeLine) : mLst true ms env h = .ok (.ref h1.length) (h1 ++ [.lst xs]) := by unfold mLst; rw [ha]; show (if xs.length ≤ sizeLine then _ else _) = _; rw [if_pos hz]; rfl
theorem ev_oN : moN env h = .ok none h := rfl
theorem ev_oS {k : Int} (ha : a env h = .ok (.int k) h1) : moS a env h = .ok (some k) h1 := by unfold moS; rw [ha]; rfl
theorem ev_sl {f : MV → Option Int → Option Int → MH → Out MV} {l r : MI} {lo hi : Option Int} {h4 : MH} (ha : a env h = .ok x h1) (hl : l env h1 = .ok lo h2) (hr : r env h2 = .ok hi h3) (hf : f x lo hi h3 = .ok y h4) : mSl f a l r env h = .ok y h4 := by
  unfold mSl; rw [ha]; show (l env h1).bind _ = _; rw [hl]; show (r env h2).bind _ = _; rw [hr]; exact hf
theorem ev_m0 {T : String} {f : MV → List MV → MH → Out MV} (ha : a env h = .ok x h1) (hc : tyChk T h1 x = true) (hf : f x [] h1 = .ok y h2) : mM0 T f a env h = .ok y h2 := by unfold mM0; rw [ha]; show (if tyChk T h1 x = true then _ else _) = _; rw [if_pos hc]; exact hf
theorem ev_m {T : String} {f : MV → List MV → MH → Out MV} (ha : a env h = .ok x h1) (hc : tyChk T h1 x = true) (hb : ms env h1 = .ok xs h2) (hf : f x xs h2 = .ok y h3) : mM T f a ms env h = .ok y h3 := by
  unfold mM; rw [ha]; show (if tyChk T h1 x = true then _ else _) = _; rw [if_pos hc]; show (ms env h1).bind _ = _; rw [hb]; exact hf
/-! operations -/
theorem f_ii {c : Int → Int → Bool} {g : Int → Int → MV} {m n : Int} (hc : c m n = true) : fII c g (.int m) (.int n) h = .ok (g m n) h := by unfold fII; simp only; rw [if_pos hc]
theorem f_ii0 {g : Int → Int → MV} {m n : Int} : fII (fun _ _ => true) g (.int m) (.int n) h = .ok (g m n) h := rfl
theorem f_ip {m n : Int} : fIpAdd (.int m) (.int n) h = .ok (.int (m + n)) h := rfl
theorem f_add {v : Bool} {m n : Int} : fAdd v (.int m) (.int n) h = .ok (.int (m + n)) h := rfl
theorem f_addT {v : Bool} (hz : xs.length + ys.length ≤ sizeLine) : fAdd v (.tup xs) (.tup ys) h = .ok (.tup (xs ++ ys)) h := by unfold fAdd; simp only; rw [if_pos hz]
theorem f_mod {m n : Int} (hn : 0 < n) : fMod (.int m) (.int n) h = .ok (.int (m % n)) h := f_ii (decide_eq_true hn)
theorem f_div {m n : Int} (hn : 0 < n) (hn2 : n < 1073741824) : fDiv (.int m) (.int n) h = .ok (.int (m / n)) h := f_ii (decide_eq_true ⟨hn, hn2⟩)
theorem f_pow {m n : Int} (hn : 0 ≤ n ∧ n ≤ 1000000 ∧ m.natAbs < 2 ^ 64) : fPow (.int m) (.int n) h = .ok (.int (m ^ n.toNat)) h := f_ii (decide_eq_true hn)
theorem f_mul {v : Bool} {m n : Int} (hc : cMul m n = true) : fMul v (.int m) (.int n) h = .ok (.int (m * n)) h := by unfold fMul; simp only; rw [if_pos hc]
theorem f_ui {g : Int → MV} {m : Int} : fUI g (.int m) h = .ok (g m) h := rfl
theorem f_int {m : Int} : fInt [.int m] h = .ok (.int m) h := rfl
theorem f_intB {v : Bool} : fInt [.bl v] h = .ok (.int (if v then 1 else 0)) h := rfl
theorem f_max {m n : Int} : fMax2 [.int m, .int n] h = .ok (.int (if n > m then n else m)) h := rfl
theorem f_min {m n : Int} : fMin2 [.int m, .int n] h = .ok (.int (if n < m then n else m)) h := rfl
theorem f_lenT : fLen [.tup xs] h = .ok (.int xs.length) h := rfl
theorem f_lenF : fLen [.fl xs] h = .ok (.int xs.length) h := rfl
theorem f_lenS : fLen [.sl xs] h = .ok (.int xs.length) h := rfl
theorem f_lenR {n : Nat} (e : h[n]? = some (.lst xs)) : fLen [.ref n] h = .ok (.int xs.length) h := by unfold fLen; simp only; rw [e]
theorem f_tupT : fTuple [.tup xs] h = .ok (.tup xs) h := rfl
theorem f_tupF : fTuple [.fl xs] h = .ok (.tup xs) h := rfl
theorem f_tupS : fTuple [.sl xs] h = .ok (.tup xs) h := rfl
theorem f_tupR {n : Nat} (e : h[n]? = some (.lst xs)) : fTuple [.ref n] h = .ok (.tup xs) h := by unfold fTuple lstAt; simp only; rw [e]
theorem f_listF {v : Bool} (e : seqAt h x = some xs) : fList v [x] h = retL v xs h := by unfold fList; simp only; rw [e]
theorem atI_of {α : Type} {xs : List α} {k : Nat} {v : α} (e : xs[k]? = some v) : atI xs (k : Int) = some v := by
  unfold atI ixN
  have hl := (List.getElem?_eq_some_iff.mp e).1
  rw [if_pos (by omega), if_pos (by omega)]
  simpa using e
theorem atI_z {α : Type} {xs : List α} {k : Int} {v : α} (h0 : 0 ≤ k) (e : xs[k.toNat]? = some v) : atI xs k = some v := by
  have := atI_of e
  rwa [Int.toNat_of_nonneg h0] at this
theorem f_ix {k : Int} (e : seqAt h x = some xs) (hk : atI xs k = some d) : fIx x (.int k) h = .ok d h := by
  unfold fIx
  cases x with
  | str z => cases e
  | tup ys => simp only; rw [e]; simp only; rw [hk]
  | fl ys => simp only; rw [e]; simp only; rw [hk]
  | sl ys => simp only; rw [e]; simp only; rw [hk]
  | ref n => simp only; rw [e]; simp only; rw [hk]
  | _ => cases e
theorem seq_T : seqAt h (.tup xs) = some xs := rfl
theorem seq_F : seqAt h (.fl xs) = some xs := rfl
theorem seq_S : seqAt h (.sl xs) = some xs := rfl
theorem seq_R {n : Nat} (e : h[n]? = some (.lst xs)) : seqAt h (.ref n) = some xs := by unfold seqAt lstAt; simp only; rw [e]
theorem f_slT {v : Bool} {lo hi : Option Int} : fSl v (.tup xs) lo hi h = .ok (.tup (cutM xs lo hi)) h := rfl
theorem f_slF {v : Bool} {lo hi : Option Int} : fSl v (.fl xs) lo hi h = retL v (cutM xs lo hi) h := rfl
theorem f_slR {v : Bool} {n : Nat} {lo hi : Option Int} (e : h[n]? = some (.lst xs)) : fSl v (.ref n) lo hi h = retL v (cutM xs lo hi) h := by unfold fSl lstAt; simp only; rw [e]
theorem f_app {n : Nat} (e : h[n]? = some (.lst xs)) (hz : xs.length < sizeLine) : fAppend (.ref n) [y] h = .ok .non (h.set n (.lst (xs ++ [y]))) := by unfold fAppend; simp only; rw [e]; simp only; rw [if_pos hz]
theorem f_pop {n : Nat} (e : h[n]? = some (.lst (xs ++ [y]))) : fPop (.ref n) [] h = .ok y (h.set n (.lst xs)) := by
  unfold fPop; simp only; rw [e]; simp
theorem f_rev {n : Nat} (e : h[n]? = some (.lst xs)) : fReverse (.ref n) [] h = .ok .non (h.set n (.lst xs.reverse)) := by unfold fReverse; simp only; rw [e]
theorem f_setL {n : Nat} {k : Int} (e : h[n]? = some (.lst xs)) (h0 : 0 ≤ k) (hk : k < xs.length) : fSetL (.ref n) (.int k) d h = .ok .non (h.set n (.lst (xs.set k.toNat d))) := by
  unfold fSetL; simp only; rw [e]; simp only
  have : ixN xs.length k = some k.toNat := by unfold ixN; rw [if_pos h0, if_pos hk]
  rw [this]
theorem tyc_R {n : Nat} (e : h[n]? = some (.lst xs)) : tyChk "list" h (.ref n) = true := by unfold tyChk lstAt; simp [e]
theorem f_isi {T : String} {A : String} {v : Bool} (e : tyOfM h x = some A) (e2 : isiB A T = some v) : fIsi T x h = .ok (.bl v) h := by unfold fIsi; rw [e]; simp only; rw [e2]
/-! equality of data -/
theorem f_eqD {e1 e2 : PyData} (a1 : dataOf h x = some e1) (a2 : dataOf h y = some e2) (s1 : SeqAt.shaped e1 = true) (s2 : SeqAt.shaped e2 = true) : fEq false x y h = .ok (.bl (PyData.eqv e1 e2)) h := by
  unfold fEq; rw [a1, a2]; simp only; rw [if_pos ⟨s1, s2⟩, if_neg Bool.false_ne_true]
theorem f_neD {e1 e2 : PyData} (a1 : dataOf h x = some e1) (a2 : dataOf h y = some e2) (s1 : SeqAt.shaped e1 = true) (s2 : SeqAt.shaped e2 = true) : fEq true x y h = .ok (.bl (!PyData.eqv e1 e2)) h := by
  unfold fEq; rw [a1, a2]; simp only; rw [if_pos ⟨s1, s2⟩]; rfl
theorem data_int {m : Int} : dataOf h (.int m) = some (.int m) := rfl
theorem f_eqI {m n : Int} : fEq false (.int m) (.int n) h = .ok (.bl (decide (m = n))) h := by
  rw [f_eqD data_int data_int rfl rfl]
  unfold PyData.eqv
  rw [Bool.beq_eq_decide_eq]
theorem f_neI {m n : Int} : fEq true (.int m) (.int n) h = .ok (.bl (!decide (m = n))) h := by
  rw [f_neD data_int data_int rfl rfl]
  unfold PyData.eqv
  rw [Bool.beq_eq_decide_eq]
theorem f_isN1 : fIsN false .non .non h = .ok (.bl true) h := rfl
theorem f_isN0 (hx : x ≠ .non) : fIsN false x .non h = .ok (.bl false) h := by cases x <;> first | exact absurd rfl hx | rfl
theorem f_notN1 : fIsN true .non .non h = .ok (.bl false) h := rfl
theorem f_notN0 (hx : x ≠ .non) : fIsN true x .non h = .ok (.bl true) h := by cases x <;> first | exact absurd rfl hx | rfl
end

/-! ### statements, by what is wanted at their end -/
@[irreducible] def Ends (Q : OutS → Prop) (o : OutS) : Prop := Q o
theorem Ends.out {Q : OutS → Prop} {o : OutS} (k : Ends Q o) : Q o := by unfold Ends at k; exact k
theorem Ends.of {Q : OutS → Prop} {o : OutS} (k : Q o) : Ends Q o := by unfold Ends; exact k
section
variable {Q : OutS → Prop} {env env1 : MEnv} {h h1 h2 : MH} {a b : MS} {e : ME} {t : MT} {d : MV} {i : Nat}
theorem en_seq (k : Ends (fun o => match o with | .ok .nx env' h' => Ends Q (b env' h') | o => Q o) (a env h)) : Ends Q (sSeq a b env h) := by
  unfold sSeq
  unfold Ends at *
  cases z : a env h with
  | ok f env' h' => rw [z] at k; cases f <;> exact k
  | exc _ _ _ _ => rw [z] at k; exact k
  | stuck => rw [z] at k; exact k
theorem en_set (he : e env h = .ok d h1) (k : Q (.ok .nx (env.set i (some d)) h1)) : Ends Q (sSet i e env h) := by unfold sSet Ends; rw [he]; exact k
theorem en_expr (he : e env h = .ok d h1) (k : Q (.ok .nx env h1)) : Ends Q (sExpr e env h) := by unfold sExpr Ends; rw [he]; exact k
theorem en_ret (he : e env h = .ok d h1) (k : Q (.ok (.rt d) env h1)) : Ends Q (sRet e env h) := by unfold sRet Ends; rw [he]; exact k
theorem en_retN (k : Q (.ok (.rt .non) env h)) : Ends Q (sRetN env h) := by unfold Ends; exact k
theorem en_nil (k : Q (.ok .nx env h)) : Ends Q (sNil env h) := by unfold Ends; exact k
theorem en_break (k : Q (.ok .bk env h)) : Ends Q (sBreak env h) := by unfold Ends; exact k
theorem en_cont (k : Q (.ok .ct env h)) : Ends Q (sCont env h) := by unfold Ends; exact k
theorem en_raise {C : Str} (k : Q (.exc C [] env h)) : Ends Q (sRaise C env h) := by unfold Ends; exact k
theorem en_if {v : Bool} (ht : t env h = .ok v h1) (k1 : v = true → Ends Q (a env h1)) (k2 : v = false → Ends Q (b env h1)) : Ends Q (sIf t a b env h) := by
  unfold sIf Ends; rw [ht]
  cases v with
  | true => exact (k1 rfl).out
  | false => exact (k2 rfl).out
theorem en_asg {g : MG} {env2 : MEnv} (he : e env h = .ok d h1) (hg : g d env h1 = .ok env2 h2) (k : Q (.ok .nx env2 h2)) : Ends Q (sAsg e g env h) := by unfold sAsg Ends; rw [he]; show Q ((g d env h1).andS env _); rw [hg]; exact k
theorem en_aug {f : MV → MV → MH → Out MV} {x y : MV} (hx : env[i]? = some (some x)) (he : e env h = .ok y h1) (hf : f x y h1 = .ok d h2) (k : Q (.ok .nx (env.set i (some d)) h2)) : Ends Q (sAug i f e env h) := by
  unfold sAug Ends; rw [hx]; simp only; rw [he]; show Q ((f x y h1).andS env _); rw [hf]; exact k
theorem en_callX {C : Str} {xs : List MV} (he : e env h = .exc C xs h1) (k : Q (.exc C xs env h1)) : Ends Q (sRet e env h) := by unfold sRet Ends; rw [he]; exact k
/-- a for over known values, by an invariant -/
theorem en_forL {g : MG} {xs : List MV} (I : Nat → MEnv → MH → Prop) (h0 : I 0 env h)
    (step : ∀ (j : Nat) (x : MV) env h, xs[j]? = some x → I j env h → Ends (fun o => match o with | .ok .nx env' h' => I (j + 1) env' h' | .ok .ct env' h' => I (j + 1) env' h' | .ok .bk env' h' => Q (.ok .nx env' h') | o => Q o) ((g x env h).andS env b))
    (fin : ∀ env h, I xs.length env h → Q (.ok .nx env h)) : Ends Q (sForL g b xs env h) := by
  have gen : ∀ (n : Nat) (k : Nat) env h, xs.length - k = n → k ≤ xs.length → I k env h → Q (sForL g b (xs.drop k) env h) := by
    intro n
    induction n with
    | zero =>
      intro k env h e1 e2 hi
      have : k = xs.length := by omega
      subst this
      rw [List.drop_length]
      exact fin env h hi
    | succ n ih =>
      intro k env h e1 e2 hi
      have hlt : k < xs.length := by omega
      rw [List.drop_eq_getElem_cons hlt]
      have st := step k xs[k] env h (List.getElem?_eq_getElem hlt) hi
      unfold sForL
      unfold Ends at st
      cases z : g xs[k] env h with
      | ok env1 h1 =>
        rw [z] at st
        simp only [Out.andS] at st ⊢
        cases y : b env1 h1 with
        | ok f env2 h2 =>
          rw [y] at st
          cases f with
          | nx => exact ih (k + 1) env2 h2 (by omega) hlt st
          | ct => exact ih (k + 1) env2 h2 (by omega) hlt st
          | bk => exact st
          | rt d => exact st
        | exc _ _ _ _ => rw [y] at st; exact st
        | stuck => rw [y] at st; exact st
      | exc _ _ _ => rw [z] at st; exact st
      | stuck => rw [z] at st; exact st
  have := gen xs.length 0 env h (by omega) (Nat.zero_le _) h0
  rw [List.drop_zero] at this; exact .of this
theorem en_for {g : MG} {mi : MIt} {xs : List MV} (he : mi env h = .ok (.st xs) h1) (k : Ends Q (sForL g b xs env h1)) : Ends Q (sFor mi g b env h) := by unfold sFor Ends; rw [he]; exact k.out
theorem en_while {n : Nat} (I : MEnv → MH → Prop) (μ : MEnv → MH → Nat) (h0 : I env h) (hn : μ env h < n)
    (step : ∀ env h, I env h → ∃ v h1, t env h = .ok v h1 ∧ (v = false → Q (.ok .nx env h1)) ∧ (v = true → Ends (fun o => match o with | .ok .nx env' h' => I env' h' ∧ μ env' h' < μ env h | .ok .ct env' h' => I env' h' ∧ μ env' h' < μ env h | .ok .bk env' h' => Q (.ok .nx env' h') | o => Q o) (b env h1))) : Ends Q (sWhile t b n env h) := by
  induction n generalizing env h with
  | zero => omega
  | succ n ih =>
    obtain ⟨v, h1, e1, e2, e3⟩ := step env h h0
    unfold sWhile Ends
    rw [e1]
    cases v with
    | false => exact e2 rfl
    | true =>
      have st := e3 rfl
      unfold Ends at st
      simp only [Out.andS, if_true]
      cases y : b env h1 with
      | ok f env2 h2 =>
        rw [y] at st
        cases f with
        | nx => exact (ih st.1 (by omega)).out
        | ct => exact (ih st.1 (by omega)).out
        | bk => exact st
        | rt d => exact st
      | exc _ _ _ _ => rw [y] at st; exact st
      | stuck => rw [y] at st; exact st
theorem runF_ends {N : Nat} {m : MS} {ds : List MV} {P : Out MV → Prop} (k : Ends (fun o => P o.out) (m (ds.map some ++ List.replicate (N - ds.length) none) h)) : P (runF N m ds h) := by unfold Ends at k; exact k
/-- a call's value and heap -/
def Does (Q : MV → MH → Prop) (o : Out MV) : Prop := ∃ v h, o = .ok v h ∧ Q v h
theorem runF_does {N : Nat} {m : MS} {ds : List MV} {P : MV → MH → Prop} (k : Ends (fun o => Does P o.out) (m (ds.map some ++ List.replicate (N - ds.length) none) h)) : Does P (runF N m ds h) := by unfold Ends at k; exact k
theorem Does.of {P : MV → MH → Prop} {v : MV} (k : P v h) : Does P (.ok v h) := ⟨v, h, rfl, k⟩
theorem it_range1 {ms : MA} {j : Int} (ha : ms env h = .ok [.int j] h1) (hj : -(2 ^ 62) ≤ j ∧ j < 2 ^ 62) : iRange1 ms env h = .ok (.st (rangeM 0 j.toNat)) h1 := by unfold iRange1; rw [ha]; simp only [Out.bind]; rw [if_pos hj]
theorem it_range2 {ms : MA} {i j : Int} (ha : ms env h = .ok [.int i, .int j] h1) (hj : -(2 ^ 62) ≤ i ∧ i < 2 ^ 62 ∧ -(2 ^ 62) ≤ j ∧ j < 2 ^ 62) : iRange2 ms env h = .ok (.st (rangeM i (j - i).toNat)) h1 := by unfold iRange2; rw [ha]; simp only [Out.bind]; rw [if_pos hj]
theorem it_T {xs : List MV} (ha : e env h = .ok (.tup xs) h1) : iSeq e env h = .ok (.st xs) h1 := by unfold iSeq; rw [ha]
theorem it_F {xs : List MV} (ha : e env h = .ok (.fl xs) h1) : iSeq e env h = .ok (.st xs) h1 := by unfold iSeq; rw [ha]
theorem it_S {xs : List MV} (ha : e env h = .ok (.sl xs) h1) : iSeq e env h = .ok (.st xs) h1 := by unfold iSeq; rw [ha]
theorem it_R {n : Nat} {xs : List MV} (ha : e env h = .ok (.ref n) h1) (hx : h1[n]? = some (.lst xs)) : iSeq e env h = .ok (.lv n) h1 := by unfold iSeq; rw [ha]; simp only [Out.bind]; rw [hx]
theorem rangeM_len {lo : Int} {n : Nat} : (rangeM lo n).length = n := by unfold rangeM; simp
theorem rangeM_get {lo : Int} {n j : Nat} {x : MV} (e : (rangeM lo n)[j]? = some x) : x = .int (lo + j) ∧ j < n := by
  have hl := (List.getElem?_eq_some_iff.mp e).1
  rw [rangeM_len] at hl
  unfold rangeM at e
  rw [List.getElem?_map, List.getElem?_range hl] at e
  cases e
  exact ⟨rfl, hl⟩
end
/-! ### heaps -/
theorem set_same {h : MH} {n : Nat} {c c' : Cell} (e : h[n]? = some c) : (h.set n c')[n]? = some c' := List.getElem?_set_self (List.getElem?_eq_some_iff.mp e).1
theorem set_other {h : MH} {n m : Nat} {c' : Cell} {x : Option Cell} (hn : n ≠ m) (e : h[m]? = x) : (h.set n c')[m]? = x := by rw [List.getElem?_set_ne hn]; exact e
theorem app_same {h : MH} {c : Cell} : (h ++ [c])[h.length]? = some c := by simp
theorem app_old {h g : MH} {n : Nat} {c : Cell} (e : h[n]? = some c) : (h ++ g)[n]? = some c := by rw [List.getElem?_append_left (List.getElem?_eq_some_iff.mp e).1]; exact e
/-- what stands apart from d stays -/
structure Kp (d : Nat) (h h' : MH) : Prop where
  len : h.length ≤ h'.length
  old : ∀ (n : Nat) c, n ≠ d → h[n]? = some c → h'[n]? = some c
theorem Kp.refl {d : Nat} {h : MH} : Kp d h h := ⟨Nat.le_refl _, fun _ _ _ e => e⟩
theorem Kp.trans {d : Nat} {h h1 h2 : MH} (a : Kp d h h1) (b : Kp d h1 h2) : Kp d h h2 := ⟨Nat.le_trans a.len b.len, fun n c hn e => b.old n c hn (a.old n c hn e)⟩
theorem Kp.set {d : Nat} {h : MH} {c : Cell} : Kp d h (h.set d c) := ⟨by rw [List.length_set]; exact Nat.le_refl _, fun n c' hn e => set_other (Ne.symm hn) e⟩
theorem Kp.app {d : Nat} {h g : MH} : Kp d h (h ++ g) := ⟨by rw [List.length_append]; omega, fun n c _ e => app_old e⟩
end Mn
/-! ## TyA -/
set_option Elab.async false
set_option linter.all false
set_option maxRecDepth 100000
/-! Ty, part A: typed programs by values, and how a mirror keeps to them. -/
namespace Ty
open PySem Mn

inductive X (σ α : Type) where
  | ok (a : α) (s : σ) | exc (C : Str) (xs : List MV) (s : σ) | bad
inductive F (σ ρ : Type) where
  | nx (s : σ) | bk (s : σ) | ct (s : σ) | rt (r : ρ) (s : σ) | exc (C : Str) (xs : List MV) (s : σ) | bad
@[reducible] def X.bind {σ α β : Type} (x : X σ α) (f : α → σ → X σ β) : X σ β := match x with
  | .ok a s => f a s
  | .exc C xs s => .exc C xs s
  | .bad => .bad
@[reducible] def X.toF {σ α ρ : Type} (x : X σ α) (f : α → σ → F σ ρ) : F σ ρ := match x with
  | .ok a s => f a s
  | .exc C xs s => .exc C xs s
  | .bad => .bad
@[reducible] def F.bind {σ ρ : Type} (x : F σ ρ) (f : σ → F σ ρ) : F σ ρ := match x with
  | .nx s => f s
  | o => o

/-- what a value stands for, and which cells it owns -/
structure Pr where
  r : MV → MH → List Nat → Prop
  frame : ∀ {v h h' fp}, r v h fp → (∀ n ∈ fp, h'[n]? = h[n]?) → r v h' fp
  dom : ∀ {v h fp}, r v h fp → ∀ n ∈ fp, n < h.length
abbrev Enc (α : Type) := α → Pr
def fz {α : Type} (val : α → MV) : Enc α := fun a => ⟨fun v _ fp => v = val a ∧ fp = [], fun q _ => q, fun q n hn => by rw [q.2] at hn; cases hn⟩
def own1 {α : Type} (val : α → MV) : Enc (List α) := fun xs => ⟨fun v h fp => ∃ n, v = .ref n ∧ h[n]? = some (.lst (xs.map val)) ∧ fp = [n],
  fun {v h h' fp} q k => by
    obtain ⟨n, e1, e2, e3⟩ := q
    exact ⟨n, e1, by rw [k n (by rw [e3]; exact List.mem_singleton.mpr rfl)]; exact e2, e3⟩,
  fun {v h fp} q n hn => by
    obtain ⟨m, e1, e2, e3⟩ := q
    rw [e3] at hn
    rw [List.mem_singleton.mp hn]
    exact (List.getElem?_eq_some_iff.mp e2).1⟩
def All2 {α : Type} (val : α → MV) (h : MH) : List (List α) → List Nat → Prop
  | [], [] => True
  | xs :: xss, n :: ns => h[n]? = some (.lst (xs.map val)) ∧ All2 val h xss ns
  | _, _ => False
theorem All2.frame {α : Type} {val : α → MV} {h h' : MH} : ∀ {xss : List (List α)} {ns : List Nat}, All2 val h xss ns → (∀ n ∈ ns, h'[n]? = h[n]?) → All2 val h' xss ns
  | [], [], _, _ => trivial
  | xs :: xss, n :: ns, q, k => ⟨by rw [k n (List.mem_cons_self ..)]; exact q.1, All2.frame q.2 fun m hm => k m (List.mem_cons_of_mem _ hm)⟩
  | [], _ :: _, q, _ => q.elim
  | _ :: _, [], q, _ => q.elim
theorem All2.dom {α : Type} {val : α → MV} {h : MH} : ∀ {xss : List (List α)} {ns : List Nat}, All2 val h xss ns → ∀ n ∈ ns, n < h.length
  | [], [], _, n, hn => nomatch hn
  | xs :: xss, m :: ns, q, n, hn => by
    rcases List.mem_cons.mp hn with rfl | hn
    · exact (List.getElem?_eq_some_iff.mp q.1).1
    · exact All2.dom q.2 n hn
  | [], _ :: _, q, _, _ => q.elim
  | _ :: _, [], q, _, _ => q.elim
def own2 {α : Type} (val : α → MV) : Enc (List (List α)) := fun xss => ⟨fun v h fp => ∃ n ns, v = .ref n ∧ h[n]? = some (.lst (ns.map .ref)) ∧ All2 val h xss ns ∧ fp = n :: ns,
  fun {v h h' fp} q k => by
    obtain ⟨n, ns, e1, e2, e4, e3⟩ := q
    subst e3
    exact ⟨n, ns, e1, by rw [k n (List.mem_cons_self ..)]; exact e2, e4.frame fun m hm => k m (List.mem_cons_of_mem _ hm), rfl⟩,
  fun {v h fp} q n hn => by
    obtain ⟨m, ns, e1, e2, e4, e3⟩ := q
    subst e3
    rcases List.mem_cons.mp hn with rfl | hn
    · exact (List.getElem?_eq_some_iff.mp e2).1
    · exact e4.dom n hn⟩

structure Slot (σ : Type) where
  ix : Nat
  rep : σ → Pr
structure RS {σ : Type} (tb : Nat → Slot σ) (N : Nat) (D : List Nat) (s : σ) (env : MEnv) (h : MH) (fp : Nat → List Nat) : Prop where
  len : env.length = N
  ok : ∀ i ∈ D, ∃ v, env[(tb i).ix]? = some (some v) ∧ ((tb i).rep s).r v h (fp i)
  nd : ∀ i ∈ D, (fp i).Nodup
  dj : ∀ i ∈ D, ∀ j ∈ D, i ≠ j → ∀ n ∈ fp i, n ∉ fp j
/-- the cells that the names own -/
def Wn (D : List Nat) (fp : Nat → List Nat) : Nat → Prop := fun n => ∃ i ∈ D, n ∈ fp i
structure Mono (h h' : MH) : Prop where
  len : h.length ≤ h'.length
  keep : ∀ n, n < h.length → h'[n]? = h[n]?
structure Fr (A : Nat → Prop) (h h' : MH) : Prop where
  len : h.length ≤ h'.length
  keep : ∀ n, n < h.length → ¬ A n → h'[n]? = h[n]?
def Grow (A B : Nat → Prop) (h : MH) : Prop := ∀ n, B n → A n ∨ h.length ≤ n
theorem Mono.refl {h : MH} : Mono h h := ⟨Nat.le_refl _, fun _ _ => rfl⟩
theorem Mono.trans {h h1 h2 : MH} (a : Mono h h1) (b : Mono h1 h2) : Mono h h2 := ⟨Nat.le_trans a.len b.len, fun n hn => by rw [b.keep n (Nat.lt_of_lt_of_le hn a.len), a.keep n hn]⟩
theorem Mono.app {h g : MH} : Mono h (h ++ g) := ⟨by rw [List.length_append]; omega, fun n hn => List.getElem?_append_left hn⟩
theorem Mono.fr {A : Nat → Prop} {h h' : MH} (m : Mono h h') : Fr A h h' := ⟨m.len, fun n hn _ => m.keep n hn⟩
theorem Fr.refl {A : Nat → Prop} {h : MH} : Fr A h h := ⟨Nat.le_refl _, fun _ _ _ => rfl⟩
theorem Fr.trans {A B : Nat → Prop} {h h1 h2 : MH} (a : Fr A h h1) (g : Grow A B h) (b : Fr B h1 h2) : Fr A h h2 := ⟨Nat.le_trans a.len b.len, fun n hn hA => by
  rw [b.keep n (Nat.lt_of_lt_of_le hn a.len) fun hB => (g n hB).elim hA fun q => by omega, a.keep n hn hA]⟩
theorem Fr.weak {A B : Nat → Prop} {h h1 : MH} (a : Fr A h h1) (k : ∀ n, A n → B n) : Fr B h h1 := ⟨a.len, fun n hn hB => a.keep n hn fun z => hB (k n z)⟩
theorem Grow.refl {A : Nat → Prop} {h : MH} : Grow A A h := fun _ q => .inl q
theorem Grow.trans {A B C : Nat → Prop} {h h1 : MH} (a : Grow A B h) (l : h.length ≤ h1.length) (b : Grow B C h1) : Grow A C h := fun n q => (b n q).elim (a n) fun z => .inr (Nat.le_trans l z)
theorem Grow.sub {A B C : Nat → Prop} {h : MH} (a : Grow A B h) (k : ∀ n, C n → B n) : Grow A C h := fun n q => a n (k n q)

section
variable {σ : Type} {tb : Nat → Slot σ} {N : Nat} {D D' : List Nat} {s : σ} {env : MEnv} {h h' : MH} {fp : Nat → List Nat}
theorem RS.frame (q : RS tb N D s env h fp) (k : ∀ n, Wn D fp n → h'[n]? = h[n]?) : RS tb N D s env h' fp :=
  ⟨q.len, fun i hi => let ⟨v, e1, e2⟩ := q.ok i hi; ⟨v, e1, ((tb i).rep s).frame e2 fun n hn => k n ⟨i, hi, hn⟩⟩, q.nd, q.dj⟩
theorem RS.dom (q : RS tb N D s env h fp) : ∀ n, Wn D fp n → n < h.length := fun n ⟨i, hi, hn⟩ => let ⟨_, _, e2⟩ := q.ok i hi; ((tb i).rep s).dom e2 n hn
theorem RS.mono (q : RS tb N D s env h fp) (m : Mono h h') : RS tb N D s env h' fp := q.frame fun n hn => m.keep n (q.dom n hn)
theorem RS.sub (q : RS tb N D s env h fp) (k : ∀ i ∈ D', i ∈ D) : RS tb N D' s env h fp :=
  ⟨q.len, fun i hi => q.ok i (k i hi), fun i hi => q.nd i (k i hi), fun i hi j hj => q.dj i (k i hi) j (k j hj)⟩
theorem Wn.sub (k : ∀ i ∈ D', i ∈ D) {n : Nat} (q : Wn D' fp n) : Wn D fp n := let ⟨i, hi, hn⟩ := q; ⟨i, k i hi, hn⟩
end
def subB (D' D : List Nat) : Bool := D'.all fun i => D.contains i
theorem subB_ok {D' D : List Nat} (k : subB D' D = true) : ∀ i ∈ D', i ∈ D := fun i hi => by
  have := (List.all_eq_true.mp k) i hi
  simpa using this

/-! ### judgements -/
section
variable {σ : Type} (tb : Nat → Slot σ) (N : Nat)
/-- an expression that changes nothing that stands -/
def TP {α : Type} (D : List Nat) (e : ME) (p : σ → X σ α) (en : Enc α) : Prop := ∀ s env h fp, RS tb N D s env h fp → match p s with
  | .ok a s' => s' = s ∧ ∃ v h' f, e env h = .ok v h' ∧ Mono h h' ∧ (en a).r v h' f
  | .exc C xs s' => s' = s ∧ ∃ h', e env h = .exc C xs h' ∧ Mono h h'
  | .bad => True
def TPT (D : List Nat) (e : MT) (p : σ → X σ Bool) : Prop := ∀ s env h fp, RS tb N D s env h fp → match p s with
  | .ok a s' => s' = s ∧ ∃ h', e env h = .ok a h' ∧ Mono h h'
  | .exc C xs s' => s' = s ∧ ∃ h', e env h = .exc C xs h' ∧ Mono h h'
  | .bad => True
/-- an expression that may change what its names own -/
def TX {α : Type} (D : List Nat) (e : ME) (p : σ → X σ α) (en : Enc α) : Prop := ∀ s env h fp, RS tb N D s env h fp → match p s with
  | .ok a s' => ∃ v h' f fp', e env h = .ok v h' ∧ RS tb N D s' env h' fp' ∧ (en a).r v h' f ∧ f.Nodup ∧ (∀ n ∈ f, ¬ Wn D fp' n) ∧ Fr (Wn D fp) h h' ∧ Grow (Wn D fp) (fun n => Wn D fp' n ∨ n ∈ f) h
  | .exc C xs s' => ∃ h' fp', e env h = .exc C xs h' ∧ RS tb N D s' env h' fp' ∧ Fr (Wn D fp) h h' ∧ Grow (Wn D fp) (Wn D fp') h
  | .bad => True
def TXT (D : List Nat) (e : MT) (p : σ → X σ Bool) : Prop := ∀ s env h fp, RS tb N D s env h fp → match p s with
  | .ok a s' => ∃ h' fp', e env h = .ok a h' ∧ RS tb N D s' env h' fp' ∧ Fr (Wn D fp) h h' ∧ Grow (Wn D fp) (Wn D fp') h
  | .exc C xs s' => ∃ h' fp', e env h = .exc C xs h' ∧ RS tb N D s' env h' fp' ∧ Fr (Wn D fp) h h' ∧ Grow (Wn D fp) (Wn D fp') h
  | .bad => True
/-- several values, all frozen -/
def TXA {α : Type} (D : List Nat) (e : MA) (p : σ → X σ α) (vs : α → List MV) : Prop := ∀ s env h fp, RS tb N D s env h fp → match p s with
  | .ok a s' => ∃ h' fp', e env h = .ok (vs a) h' ∧ RS tb N D s' env h' fp' ∧ Fr (Wn D fp) h h' ∧ Grow (Wn D fp) (Wn D fp') h
  | .exc C xs s' => ∃ h' fp', e env h = .exc C xs h' ∧ RS tb N D s' env h' fp' ∧ Fr (Wn D fp) h h' ∧ Grow (Wn D fp) (Wn D fp') h
  | .bad => True
def TPA {α : Type} (D : List Nat) (e : MA) (p : σ → X σ α) (vs : α → List MV) : Prop := ∀ s env h fp, RS tb N D s env h fp → match p s with
  | .ok a s' => s' = s ∧ ∃ h', e env h = .ok (vs a) h' ∧ Mono h h'
  | .exc C xs s' => s' = s ∧ ∃ h', e env h = .exc C xs h' ∧ Mono h h'
  | .bad => True
end
structure Cx (σ ρ : Type) where
  tb : Nat → Slot σ
  N : Nat
  Db : List Nat
  Dx : List Nat
  Dr : List Nat
  pin : List Nat
  er : Enc ρ
def Pin (pin : List Nat) (env env' : MEnv) : Prop := ∀ k ∈ pin, env'[k]? = env[k]?
def TS {σ ρ : Type} (c : Cx σ ρ) (D : List Nat) (m : MS) (p : σ → F σ ρ) (D' : List Nat) : Prop := ∀ s env h fp, RS c.tb c.N D s env h fp → match p s with
  | .nx s' => ∃ env' h' fp', m env h = .ok .nx env' h' ∧ RS c.tb c.N D' s' env' h' fp' ∧ Fr (Wn D fp) h h' ∧ Grow (Wn D fp) (Wn D' fp') h ∧ Pin c.pin env env'
  | .bk s' => ∃ env' h' fp', m env h = .ok .bk env' h' ∧ RS c.tb c.N c.Db s' env' h' fp' ∧ Fr (Wn D fp) h h' ∧ Grow (Wn D fp) (Wn c.Db fp') h ∧ Pin c.pin env env'
  | .ct s' => ∃ env' h' fp', m env h = .ok .ct env' h' ∧ RS c.tb c.N c.Db s' env' h' fp' ∧ Fr (Wn D fp) h h' ∧ Grow (Wn D fp) (Wn c.Db fp') h ∧ Pin c.pin env env'
  | .rt r s' => ∃ v env' h' f fp', m env h = .ok (.rt v) env' h' ∧ RS c.tb c.N c.Dr s' env' h' fp' ∧ (c.er r).r v h' f ∧ f.Nodup ∧ (∀ n ∈ f, ¬ Wn c.Dr fp' n) ∧ Fr (Wn D fp) h h' ∧ Grow (Wn D fp) (fun n => Wn c.Dr fp' n ∨ n ∈ f) h ∧ Pin c.pin env env'
  | .exc C xs s' => ∃ env' h' fp', m env h = .exc C xs env' h' ∧ RS c.tb c.N c.Dx s' env' h' fp' ∧ Fr (Wn D fp) h h' ∧ Grow (Wn D fp) (Wn c.Dx fp') h ∧ Pin c.pin env env'
  | .bad => True

/-! ### from one judgement to another -/
section
variable {σ : Type} {tb : Nat → Slot σ} {N : Nat} {D D' : List Nat} {α β γ : Type} {e e1 e2 : ME} {p : σ → X σ α} {q : σ → X σ β} {val : α → MV} {en : Enc α}
theorem TP.tx (k : TP tb N D e p (fz val)) : TX tb N D e p (fz val) := fun s env h fp R => by
  have z := k s env h fp R
  cases hp : p s with
  | ok a s' =>
    rw [hp] at z
    obtain ⟨rfl, v, h', f, e1, m, r⟩ := z
    exact ⟨v, h', [], fp, e1, R.mono m, ⟨r.1, rfl⟩, List.nodup_nil, (fun n hn => nomatch hn), m.fr, fun n hn => .inl (hn.elim id fun z => nomatch z)⟩
  | exc C xs s' =>
    rw [hp] at z
    obtain ⟨rfl, h', e1, m⟩ := z
    exact ⟨h', fp, e1, R.mono m, m.fr, Grow.refl⟩
  | bad => trivial
theorem TPT.tx {e : MT} {p : σ → X σ Bool} (k : TPT tb N D e p) : TXT tb N D e p := fun s env h fp R => by
  have z := k s env h fp R
  cases hp : p s with
  | ok a s' =>
    rw [hp] at z
    obtain ⟨rfl, h', e1, m⟩ := z
    exact ⟨h', fp, e1, R.mono m, m.fr, Grow.refl⟩
  | exc C xs s' =>
    rw [hp] at z
    obtain ⟨rfl, h', e1, m⟩ := z
    exact ⟨h', fp, e1, R.mono m, m.fr, Grow.refl⟩
  | bad => trivial
theorem TPA.tx {e : MA} {vs : α → List MV} (k : TPA tb N D e p vs) : TXA tb N D e p vs := fun s env h fp R => by
  have z := k s env h fp R
  cases hp : p s with
  | ok a s' =>
    rw [hp] at z
    obtain ⟨rfl, h', e1, m⟩ := z
    exact ⟨h', fp, e1, R.mono m, m.fr, Grow.refl⟩
  | exc C xs s' =>
    rw [hp] at z
    obtain ⟨rfl, h', e1, m⟩ := z
    exact ⟨h', fp, e1, R.mono m, m.fr, Grow.refl⟩
  | bad => trivial

/-! ### typed texts -/
@[irreducible] def xC (a : α) : σ → X σ α := fun s => .ok a s
@[irreducible] def xV (g : σ → α) : σ → X σ α := fun s => .ok (g s) s
@[irreducible] def x1 (g : α → β) (p : σ → X σ α) : σ → X σ β := fun s => (p s).bind fun a s => .ok (g a) s
@[irreducible] def x1o (g : α → Option β) (p : σ → X σ α) : σ → X σ β := fun s => (p s).bind fun a s => match g a with
  | some b => .ok b s
  | none => .bad
@[irreducible] def x2 (g : α → β → γ) (p : σ → X σ α) (q : σ → X σ β) : σ → X σ γ := fun s => (p s).bind fun a s => (q s).bind fun b s => .ok (g a b) s
@[irreducible] def x2o (g : α → β → Option γ) (p : σ → X σ α) (q : σ → X σ β) : σ → X σ γ := fun s => (p s).bind fun a s => (q s).bind fun b s => match g a b with
  | some b => .ok b s
  | none => .bad
@[irreducible] def xIf {α : Type} (t : σ → X σ Bool) (p q : σ → X σ α) : σ → X σ α := fun s => (t s).bind fun c s => if c = true then p s else q s
@[irreducible] def xAnd (p q : σ → X σ Bool) : σ → X σ Bool := fun s => (p s).bind fun c s => if c = true then q s else .ok false s
@[irreducible] def xOr (p q : σ → X σ Bool) : σ → X σ Bool := fun s => (p s).bind fun c s => if c = true then .ok true s else q s
@[irreducible] def xNot (p : σ → X σ Bool) : σ → X σ Bool := fun s => (p s).bind fun c s => .ok (!c) s

theorem tp_c {d : MV} {a : α} (hd : val a = d) : TP tb N D (mC d) (xC a) (fz val) := by with_unfolding_all exact (fun s env h fp R => ⟨rfl, d, h, [], rfl, Mono.refl, hd.symm, rfl⟩)
theorem tp_v {i ix : Nat} {g : σ → α} (hi : D.contains i = true) (hx : (tb i).ix = ix) (hr : ∀ s, (tb i).rep s = en (g s)) : TP tb N D (mV ix) (xV g) en := by with_unfolding_all exact (fun s env h fp R => by
  obtain ⟨v, e1, e2⟩ := R.ok i (by simpa using hi)
  refine ⟨rfl, v, h, fp i, ?_, Mono.refl, by rw [← hr s]; exact e2⟩
  rw [hx] at e1
  exact ev_V e1)
/-- an operation on frozen values -/
def Op1 (f : MV → MH → Out MV) (g : α → Option β) (va : α → MV) (vb : β → MV) : Prop := ∀ a b h, g a = some b → f (va a) h = .ok (vb b) h
def Op2 (f : MV → MV → MH → Out MV) (g : α → β → Option γ) (va : α → MV) (vb : β → MV) (vc : γ → MV) : Prop := ∀ a b c h, g a b = some c → f (va a) (vb b) h = .ok (vc c) h
/-- an operation on what is read -/
def Rd1 (f : MV → MH → Out MV) (g : α → Option β) (ea : Enc α) (vb : β → MV) : Prop := ∀ a b v fp h, (ea a).r v h fp → g a = some b → f v h = .ok (vb b) h
def Rd2 (f : MV → MV → MH → Out MV) (g : α → β → Option γ) (ea : Enc α) (eb : Enc β) (vc : γ → MV) : Prop := ∀ a b c u v f1 f2 h, (ea a).r u h f1 → (eb b).r v h f2 → g a b = some c → f u v h = .ok (vc c) h
theorem Op1.rd {f : MV → MH → Out MV} {g : α → Option β} {va : α → MV} {vb : β → MV} (k : Op1 f g va vb) : Rd1 f g (fz va) vb := fun a b v fp h r e => by rw [r.1]; exact k a b h e
theorem Op2.rd {f : MV → MV → MH → Out MV} {g : α → β → Option γ} {va : α → MV} {vb : β → MV} {vc : γ → MV} (k : Op2 f g va vb vc) : Rd2 f g (fz va) (fz vb) vc := fun a b c u v f1 f2 h r1 r2 e => by rw [r1.1, r2.1]; exact k a b c h e
variable {ea : Enc α} {eb : Enc β} {va : α → MV} {vb : β → MV} {vc : γ → MV}
theorem tp_1o {f : MV → MH → Out MV} {g : α → Option β} (o : Rd1 f g ea vb) (k : TP tb N D e p ea) : TP tb N D (m1 f e) (x1o g p) (fz vb) := fun s env h fp R => by
  have z := k s env h fp R
  unfold x1o m1
  cases hp : p s with
  | ok a s' =>
    rw [hp] at z
    obtain ⟨rfl, v, h', f', e1, m, r⟩ := z
    simp only [X.bind]
    cases hg : g a with
    | none => trivial
    | some b => exact ⟨rfl, vb b, h', [], by rw [e1]; exact o a b v f' h' r hg, m, rfl, rfl⟩
  | exc C xs s' =>
    rw [hp] at z
    obtain ⟨rfl, h', e1, m⟩ := z
    exact ⟨rfl, h', by rw [e1], m⟩
  | bad => trivial
theorem x1_o {g : α → β} : x1 g p = x1o (fun a => some (g a)) p := by with_unfolding_all exact (rfl)
theorem x2_o {g : α → β → γ} : x2 g p q = x2o (fun a b => some (g a b)) p q := by with_unfolding_all exact (rfl)
theorem tp_1 {f : MV → MH → Out MV} {g : α → β} (o : Rd1 f (fun a => some (g a)) ea vb) (k : TP tb N D e p ea) : TP tb N D (m1 f e) (x1 g p) (fz vb) := by with_unfolding_all exact (tp_1o o k)
theorem tp_2o {f : MV → MV → MH → Out MV} {g : α → β → Option γ} (o : Rd2 f g ea eb vc) (k1 : TP tb N D e1 p ea) (k2 : TP tb N D e2 q eb) : TP tb N D (m2 f e1 e2) (x2o g p q) (fz vc) := fun s env h fp R => by
  have z := k1 s env h fp R
  unfold x2o m2
  cases hp : p s with
  | ok a s' =>
    rw [hp] at z
    obtain ⟨rfl, v, h', f', e1, m, r⟩ := z
    simp only [X.bind]
    rw [e1]
    simp only [Out.bind]
    have z2 := k2 s' env h' fp (R.mono m)
    cases hq : q s' with
    | ok b s2 =>
      rw [hq] at z2
      obtain ⟨rfl, w, h2, f2, e2, m2, r2⟩ := z2
      simp only
      cases hg : g a b with
      | none => trivial
      | some c =>
        refine ⟨rfl, vc c, h2, [], ?_, m.trans m2, rfl, rfl⟩
        rw [e2]
        exact o a b c v w f' f2 h2 ((ea a).frame r fun n hn => m2.keep n ((ea a).dom r n hn)) r2 hg
    | exc C xs s2 =>
      rw [hq] at z2
      obtain ⟨rfl, h2, e2, m2⟩ := z2
      exact ⟨rfl, h2, by rw [e2], m.trans m2⟩
    | bad => trivial
  | exc C xs s' =>
    rw [hp] at z
    obtain ⟨rfl, h', e1, m⟩ := z
    exact ⟨rfl, h', by rw [e1], m⟩
  | bad => trivial
theorem tp_2 {f : MV → MV → MH → Out MV} {g : α → β → γ} (o : Rd2 f (fun a b => some (g a b)) ea eb vc) (k1 : TP tb N D e1 p ea) (k2 : TP tb N D e2 q eb) : TP tb N D (m2 f e1 e2) (x2 g p q) (fz vc) := by with_unfolding_all exact (tp_2o o k1 k2)
theorem tx_1o {f : MV → MH → Out MV} {g : α → Option β} (o : Op1 f g va vb) (k : TX tb N D e p (fz va)) : TX tb N D (m1 f e) (x1o g p) (fz vb) := fun s env h fp R => by
  have z := k s env h fp R
  unfold x1o m1
  cases hp : p s with
  | ok a s' =>
    rw [hp] at z
    obtain ⟨v, h', f', fp', e1, R1, r, _, _, fr, gr⟩ := z
    simp only [X.bind]
    cases hg : g a with
    | none => trivial
    | some b => exact ⟨vb b, h', [], fp', by rw [e1, r.1]; exact o a b h' hg, R1, ⟨rfl, rfl⟩, List.nodup_nil, (fun n hn => nomatch hn), fr, gr.sub fun n q => q.elim .inl fun z => nomatch z⟩
  | exc C xs s' =>
    rw [hp] at z
    obtain ⟨h', fp', e1, R1, fr, gr⟩ := z
    exact ⟨h', fp', by rw [e1], R1, fr, gr⟩
  | bad => trivial
theorem tx_1 {f : MV → MH → Out MV} {g : α → β} (o : Op1 f (fun a => some (g a)) va vb) (k : TX tb N D e p (fz va)) : TX tb N D (m1 f e) (x1 g p) (fz vb) := by with_unfolding_all exact (tx_1o o k)
theorem tx_2o {f : MV → MV → MH → Out MV} {g : α → β → Option γ} (o : Op2 f g va vb vc) (k1 : TX tb N D e1 p (fz va)) (k2 : TX tb N D e2 q (fz vb)) : TX tb N D (m2 f e1 e2) (x2o g p q) (fz vc) := fun s env h fp R => by
  have z := k1 s env h fp R
  unfold x2o m2
  cases hp : p s with
  | ok a s' =>
    rw [hp] at z
    obtain ⟨v, h', f', fp', e1, R1, r, _, _, fr, gr⟩ := z
    simp only [X.bind]
    rw [e1]
    simp only [Out.bind]
    have z2 := k2 s' env h' fp' R1
    have gr' : Grow (Wn D fp) (Wn D fp') h := gr.sub fun n q => .inl q
    cases hq : q s' with
    | ok b s2 =>
      rw [hq] at z2
      obtain ⟨w, h2, f2, fp2, e2, R2, r2, _, _, fr2, gr2⟩ := z2
      simp only
      cases hg : g a b with
      | none => trivial
      | some c =>
        refine ⟨vc c, h2, [], fp2, ?_, R2, ⟨rfl, rfl⟩, List.nodup_nil, (fun n hn => nomatch hn), fr.trans gr' fr2, ?_⟩
        · rw [e2, r.1, r2.1]
          exact o a b c h2 hg
        · exact (gr'.trans fr.len (gr2.sub fun n q => .inl q)).sub fun n q => q.elim id fun z => nomatch z
    | exc C xs s2 =>
      rw [hq] at z2
      obtain ⟨h2, fp2, e2, R2, fr2, gr2⟩ := z2
      exact ⟨h2, fp2, by rw [e2], R2, fr.trans gr' fr2, gr'.trans fr.len gr2⟩
    | bad => trivial
  | exc C xs s' =>
    rw [hp] at z
    obtain ⟨h', fp', e1, R1, fr, gr⟩ := z
    exact ⟨h', fp', by rw [e1], R1, fr, gr⟩
  | bad => trivial
theorem tx_2 {f : MV → MV → MH → Out MV} {g : α → β → γ} (o : Op2 f (fun a b => some (g a b)) va vb vc) (k1 : TX tb N D e1 p (fz va)) (k2 : TX tb N D e2 q (fz vb)) : TX tb N D (m2 f e1 e2) (x2 g p q) (fz vc) := by with_unfolding_all exact (tx_2o o k1 k2)
end
end Ty
/-! ## TyB -/
set_option Elab.async false
set_option linter.all false
set_option maxRecDepth 100000
/-! Ty, part B: expressions. -/
namespace Ty
open PySem PySem.Spec PyProof.Rows L2 Mn

/-! ### kinds of values -/
abbrev tV {α : Type} (va : α → MV) : List α → MV := fun xs => .tup (xs.map va)
abbrev lV {α : Type} (va : α → MV) : List α → MV := fun xs => .fl (xs.map va)
abbrev sV {α : Type} (va : α → MV) : List α → MV := fun xs => .sl (xs.map va)
abbrev p2 {α β : Type} (va : α → MV) (vb : β → MV) : α × β → MV := fun x => .tup [va x.1, vb x.2]
abbrev p3 {α β γ : Type} (va : α → MV) (vb : β → MV) (vc : γ → MV) : α × β × γ → MV := fun x => .tup [va x.1, vb x.2.1, vc x.2.2]
abbrev p4 {α β γ δ : Type} (va : α → MV) (vb : β → MV) (vc : γ → MV) (vd : δ → MV) : α × β × γ × δ → MV := fun x => .tup [va x.1, vb x.2.1, vc x.2.2.1, vd x.2.2.2]
abbrev p5 {α β γ δ ε : Type} (va : α → MV) (vb : β → MV) (vc : γ → MV) (vd : δ → MV) (ve : ε → MV) : α × β × γ × δ × ε → MV := fun x => .tup [va x.1, vb x.2.1, vc x.2.2.1, vd x.2.2.2.1, ve x.2.2.2.2]
abbrev p6 {α β γ δ ε ζ : Type} (va : α → MV) (vb : β → MV) (vc : γ → MV) (vd : δ → MV) (ve : ε → MV) (vf : ζ → MV) : α × β × γ × δ × ε × ζ → MV := fun x => .tup [va x.1, vb x.2.1, vc x.2.2.1, vd x.2.2.2.1, ve x.2.2.2.2.1, vf x.2.2.2.2.2]
abbrev l2 {α β : Type} (va : α → MV) (vb : β → MV) : α × β → MV := fun x => .fl [va x.1, vb x.2]
abbrev l3 {α β γ : Type} (va : α → MV) (vb : β → MV) (vc : γ → MV) : α × β × γ → MV := fun x => .fl [va x.1, vb x.2.1, vc x.2.2]
abbrev nV : Unit → MV := fun _ => .non
def oV {α : Type} (va : α → MV) : Option α → MV
  | none => .non
  | some a => va a
def NoN {α : Type} (va : α → MV) : Prop := ∀ a, va a ≠ .non

section
variable {α β γ δ : Type} {va : α → MV} {vb : β → MV} {vc : γ → MV}
theorem rd_own {xs : List α} {v : MV} {h : MH} {f : List Nat} (r : (own1 va xs).r v h f) : ∃ n, v = .ref n ∧ h[n]? = some (.lst (xs.map va)) ∧ f = [n] := r
theorem atI_map {f : α → β} {xs : List α} {k : Int} : atI (xs.map f) k = (atI xs k).map f := by
  unfold atI
  rw [List.length_map]
  cases ixN xs.length k with
  | none => rfl
  | some j => simp
/-! operations on numbers -/
theorem o_add {b : Bool} : Op2 (fAdd b) (fun i j : Int => some (i + j)) .int .int .int := fun _ _ _ _ e => by cases e; rfl
theorem o_sub : Op2 fSub (fun i j : Int => some (i - j)) .int .int .int := fun _ _ _ _ e => by cases e; rfl
theorem o_ip : Op2 fIpAdd (fun i j : Int => some (i + j)) .int .int .int := fun _ _ _ _ e => by cases e; rfl
@[reducible] def gMul (i j : Int) : Option Int := if cMul i j = true then some (i * j) else none
@[reducible] def gDiv (i j : Int) : Option Int := if 0 < j ∧ j < 1073741824 then some (i / j) else none
@[reducible] def gMod (i j : Int) : Option Int := if 0 < j then some (i % j) else none
@[reducible] def gPow (i j : Int) : Option Int := if 0 ≤ j ∧ j ≤ 1000000 ∧ i.natAbs < 2 ^ 64 then some (i ^ j.toNat) else none
@[reducible] def gShl (i j : Int) : Option Int := if 0 ≤ j ∧ j ≤ 1000000 ∧ i.natAbs < 2 ^ 64 then some (i * 2 ^ j.toNat) else none
@[reducible] def gShr (i j : Int) : Option Int := if 0 ≤ j then some (i / 2 ^ j.toNat) else none
theorem o_ii {c : Int → Int → Bool} {P : Int → Int → Prop} [∀ i j, Decidable (P i j)] {g : Int → Int → γ} {vc : γ → MV} (hc : ∀ i j, P i j → c i j = true) : Op2 (fII c (fun i j => vc (g i j))) (fun i j => if P i j then some (g i j) else none) .int .int vc := fun i j k h e => by
  unfold fII
  simp only at e
  by_cases q : P i j
  · rw [if_pos q] at e; cases e
    simp only; rw [if_pos (hc i j q)]
  · rw [if_neg q] at e; cases e
theorem o_mul {b : Bool} : Op2 (fMul b) gMul .int .int .int := fun i j k h e => by
  unfold fMul; unfold gMul at e
  by_cases q : cMul i j = true
  · rw [if_pos q] at e; cases e
    simp only; rw [if_pos q]
  · rw [if_neg q] at e; cases e
theorem o_div : Op2 fDiv gDiv .int .int .int := o_ii (P := fun _ j => 0 < j ∧ j < 1073741824) fun _ _ q => decide_eq_true q
theorem o_mod : Op2 fMod gMod .int .int .int := o_ii (P := fun _ j => 0 < j) fun _ _ q => decide_eq_true q
theorem o_pow : Op2 fPow gPow .int .int .int := o_ii (P := fun i j => 0 ≤ j ∧ j ≤ 1000000 ∧ i.natAbs < 2 ^ 64) fun _ _ q => decide_eq_true q
theorem o_shl : Op2 fShl gShl .int .int .int := o_ii (P := fun i j => 0 ≤ j ∧ j ≤ 1000000 ∧ i.natAbs < 2 ^ 64) fun _ _ q => decide_eq_true q
theorem o_shr : Op2 fShr gShr .int .int .int := o_ii (P := fun _ j => 0 ≤ j) fun _ _ q => decide_eq_true q
theorem o_band : Op2 fBand (fun i j => some (Builtin.bitAnd i j)) .int .int .int := fun _ _ _ _ e => by cases e; rfl
theorem o_bor : Op2 fBor (fun i j => some (Builtin.bitOr i j)) .int .int .int := fun _ _ _ _ e => by cases e; rfl
theorem o_lt : Op2 fLt (fun i j : Int => some (decide (i < j))) .int .int .bl := fun _ _ _ _ e => by cases e; rfl
theorem o_le : Op2 fLe (fun i j : Int => some (decide (i ≤ j))) .int .int .bl := fun _ _ _ _ e => by cases e; rfl
theorem o_gt : Op2 fGt (fun i j : Int => some (decide (j < i))) .int .int .bl := fun _ _ _ _ e => by cases e; rfl
theorem o_ge : Op2 fGe (fun i j : Int => some (decide (j ≤ i))) .int .int .bl := fun _ _ _ _ e => by cases e; rfl
theorem o_neg : Op1 fNeg (fun i : Int => some (-i)) .int .int := fun _ _ _ e => by cases e; rfl
theorem o_inv : Op1 fInv (fun i : Int => some (Builtin.bitNot i)) .int .int := fun _ _ _ e => by cases e; rfl
/-! rows -/
@[reducible] def gCat (xs ys : List α) : Option (List α) := if xs.length + ys.length ≤ sizeLine then some (xs ++ ys) else none
theorem o_addT {b : Bool} : Op2 (fAdd b) gCat (tV va) (tV va) (tV va) := fun xs ys z h e => by
  unfold gCat at e
  by_cases q : xs.length + ys.length ≤ sizeLine
  · rw [if_pos q] at e; cases e
    rw [f_addT (by simpa using q)]
    simp [tV]
  · rw [if_neg q] at e; cases e
def gIx (xs : List α) (k : Int) : Option α := atI xs k
def SqV (ea : Enc (List α)) (va : α → MV) : Prop := ∀ xs v h f, (ea xs).r v h f → seqAt h v = some (xs.map va)
theorem sq_t : SqV (fz (tV va)) va := fun xs v h f r => by rw [r.1]; rfl
theorem sq_l : SqV (fz (lV va)) va := fun xs v h f r => by rw [r.1]; rfl
theorem sq_s : SqV (fz (sV va)) va := fun xs v h f r => by rw [r.1]; rfl
theorem sq_o : SqV (own1 va) va := fun xs v h f r => by
  obtain ⟨n, rfl, e, _⟩ := rd_own r
  exact seq_R e
theorem o_ix {ea : Enc (List α)} (sq : SqV ea va) : Rd2 fIx gIx ea (fz .int) va := fun xs k c u v f1 f2 h r1 r2 e => by
  rw [r2.1]
  refine f_ix (sq xs u h f1 r1) ?_
  rw [atI_map]
  unfold gIx at e
  rw [e]; rfl
theorem o_ixF {va' : List α → MV} (sq : SqV (fz va') va) : Op2 fIx gIx va' .int va := fun xs k c h e => o_ix sq xs k c _ _ [] [] h ⟨rfl, rfl⟩ ⟨rfl, rfl⟩ e
/-- a part of a tuple -/
theorem o_pr {v1 : α → MV} {k : Int} {pr : α → β} (hv : ∀ a h, fIx (v1 a) (.int k) h = .ok (vb (pr a)) h) : Op2 fIx (fun a (_ : Unit) => some (pr a)) v1 (fun _ => .int k) vb := fun a _ c h e => by cases e; exact hv a h
theorem o_fld {tab : CTab} {x : Str} {pr : α → β} (hv : ∀ a h, fFld tab x (va a) h = .ok (vb (pr a)) h) : Op1 (fFld tab x) (fun a => some (pr a)) va vb := fun a c h e => by cases e; exact hv a h
theorem o_isN {va : α → MV} (hn : NoN va) {neg : Bool} : Op1 (fun x h => fIsN neg x .non h) (fun o : Option α => some (if neg then o.isSome else o.isNone)) (oV va) .bl := fun a c h e => by
  cases e
  cases a with
  | none => cases neg <;> rfl
  | some a =>
    show fIsN neg (va a) .non h = _
    have := hn a
    cases neg with
    | true => exact f_notN0 this
    | false => exact f_isN0 this
@[reducible] def gUn (o : Option α) : Option α := o
theorem o_isi {T : String} {c : α → Bool} (hv : ∀ a h, fIsi T (va a) h = .ok (.bl (c a)) h) : Op1 (fIsi T) (fun a => some (c a)) va .bl := fun a _ h e => by cases e; exact hv a h
theorem r_isiL {T : String} {c : Bool} (hc : isiB "list" T = some c) : Rd1 (fIsi T) (fun _ : List α => some c) (own1 va) .bl := fun xs _ v f h r e => by
  cases e
  obtain ⟨n, rfl, e, _⟩ := rd_own r
  exact f_isi (by unfold tyOfM; simp only; rw [e]) hc
/-! in -/
theorem scalVs_int : ∀ xs : List Int, scalVs (xs.map MV.int) = some (xs.map L2.V.int)
  | [] => rfl
  | x :: xs => by
    show (match scalV (.int x), scalVs (xs.map MV.int) with | some v, some vs => some (v :: vs) | _, _ => none) = _
    rw [scalVs_int xs]; rfl
theorem scalVs_str : ∀ xs : List Str, scalVs (xs.map MV.str) = some (xs.map L2.V.str)
  | [] => rfl
  | x :: xs => by
    show (match scalV (.str x), scalVs (xs.map MV.str) with | some v, some vs => some (v :: vs) | _, _ => none) = _
    rw [scalVs_str xs]; rfl
theorem scalVs_bl : ∀ xs : List Bool, scalVs (xs.map MV.bl) = some (xs.map L2.V.bl)
  | [] => rfl
  | x :: xs => by
    show (match scalV (.bl x), scalVs (xs.map MV.bl) with | some v, some vs => some (v :: vs) | _, _ => none) = _
    rw [scalVs_bl xs]; rfl
theorem inV_int (x : Int) (xs : List Int) : inV (.int x) (xs.map L2.V.int) = xs.contains x := by
  unfold inV
  rw [List.any_map, List.contains_eq_any_beq]
  congr 1; funext y
  show (y == x) = (x == y)
  exact Bool.beq_comm
theorem inV_str (x : Str) (xs : List Str) : inV (.str x) (xs.map L2.V.str) = xs.any (fun y => y == x) := by
  unfold inV
  rw [List.any_map]; rfl
theorem inV_bl (x : Bool) (xs : List Bool) : inV (.bl x) (xs.map L2.V.bl) = xs.contains x := by
  unfold inV
  rw [List.any_map, List.contains_eq_any_beq]
  congr 1; funext y
  show (y == x) = (x == y)
  cases x <;> cases y <;> rfl
theorem o_inI {ea : Enc (List Int)} (sq : SqV ea .int) {neg : Bool} : Rd2 (fIn neg) (fun x xs => some (if neg then !xs.contains x else xs.contains x)) (fz .int) ea .bl := fun x xs c u v f1 f2 h r1 r2 e => by
  cases e
  rw [r1.1]
  unfold fIn
  rw [sq xs v h f2 r2]
  show (match scalVs (xs.map MV.int) with | some vs => Out.ok (MV.bl (if neg = true then !inV (.int x) vs else inV (.int x) vs)) h | none => Out.stuck) = _
  rw [scalVs_int]
  simp only [inV_int]
theorem o_inS {ea : Enc (List Str)} (sq : SqV ea .str) {neg : Bool} : Rd2 (fIn neg) (fun x xs => some (if neg then !xs.any (fun y => y == x) else xs.any (fun y => y == x))) (fz .str) ea .bl := fun x xs c u v f1 f2 h r1 r2 e => by
  cases e
  rw [r1.1]
  unfold fIn
  rw [sq xs v h f2 r2]
  show (match scalVs (xs.map MV.str) with | some vs => Out.ok (MV.bl (if neg = true then !inV (.str x) vs else inV (.str x) vs)) h | none => Out.stuck) = _
  rw [scalVs_str]
  simp only [inV_str]
theorem o_inB {ea : Enc (List Bool)} (sq : SqV ea .bl) {neg : Bool} : Rd2 (fIn neg) (fun x xs => some (if neg then !xs.contains x else xs.contains x)) (fz .bl) ea .bl := fun x xs c u v f1 f2 h r1 r2 e => by
  cases e
  rw [r1.1]
  unfold fIn
  rw [sq xs v h f2 r2]
  show (match scalVs (xs.map MV.bl) with | some vs => Out.ok (MV.bl (if neg = true then !inV (.bl x) vs else inV (.bl x) vs)) h | none => Out.stuck) = _
  rw [scalVs_bl]
  simp only [inV_bl]
/-! equality -/
structure Dt {α : Type} [DecidableEq α] (va : α → MV) (d : α → PyData) (k : Nat) : Prop where
  to : ∀ r a, toD r (va a) = some (d a)
  lay : ∀ a, (d a).canLay0 = true
  dep : ∀ a, (d a).depth ≤ k
  eq : ∀ a b, PyData.eqv (d a) (d b) = decide (a = b)
  nn : ∀ a, PyData.eqv .none (d a) = false ∧ PyData.eqv (d a) .none = false
theorem dt_int : Dt MV.int PyData.int 1 := ⟨fun _ _ => rfl, fun _ => by simp [PyData.canLay0], fun _ => by simp [PyData.depth], fun a b => by unfold PyData.eqv; rw [Bool.beq_eq_decide_eq], fun _ => by simp [PyData.eqv]⟩
theorem dt_bl : Dt MV.bl PyData.bool 1 := ⟨fun _ _ => rfl, fun _ => by simp [PyData.canLay0], fun _ => by simp [PyData.depth], fun a b => by unfold PyData.eqv; rw [Bool.beq_eq_decide_eq], fun _ => by simp [PyData.eqv]⟩
section
variable [DecidableEq α] [DecidableEq β] [DecidableEq γ] {da : α → PyData} {db : β → PyData} {dc : γ → PyData} {k l m : Nat}
theorem Dt.toL (q : Dt va da k) (r : Nat → Option PyData) : ∀ xs : List α, toDL r (xs.map va) = some (xs.map da)
  | [] => rfl
  | x :: xs => by
    show (match toD r (va x), toDL r (xs.map va) with | some d, some ds => some (d :: ds) | _, _ => none) = _
    rw [q.to, q.toL r xs]; rfl
theorem Dt.layL (q : Dt va da k) : ∀ xs : List α, PyData.canLayAll0 (xs.map da) = true
  | [] => by simp [PyData.canLayAll0]
  | x :: xs => by
    rw [List.map_cons]; unfold PyData.canLayAll0
    rw [q.lay, q.layL xs]; rfl
theorem Dt.depL (q : Dt va da k) : ∀ xs : List α, PyData.depthAll (xs.map da) ≤ k
  | [] => by simp [PyData.depthAll]
  | x :: xs => by
    rw [List.map_cons]; unfold PyData.depthAll
    exact Nat.max_le.mpr ⟨q.dep x, q.depL xs⟩
theorem Dt.eqL (q : Dt va da k) : ∀ xs ys : List α, PyData.eqvAll (xs.map da) (ys.map da) = decide (xs = ys)
  | [], [] => by simp [PyData.eqvAll]
  | [], _ :: _ => by simp [PyData.eqvAll]
  | _ :: _, [] => by simp [PyData.eqvAll]
  | x :: xs, y :: ys => by
    rw [List.map_cons, List.map_cons]; unfold PyData.eqvAll
    rw [q.eq, q.eqL xs ys]
    by_cases h : x = y <;> by_cases h2 : xs = ys <;> simp [h, h2]
theorem dt_t (q : Dt va da k) : Dt (tV va) (fun xs => .tuple (xs.map da)) (k + 1) :=
  ⟨fun r a => by show (toDL r (a.map va)).map _ = _; rw [q.toL]; rfl, fun a => by unfold PyData.canLay0; exact q.layL a, fun a => by unfold PyData.depth; have := q.depL a; omega, fun a b => by unfold PyData.eqv; exact q.eqL a b, fun a => by simp [PyData.eqv]⟩
theorem dt_l (q : Dt va da k) : Dt (lV va) (fun xs => .list (xs.map da)) (k + 1) :=
  ⟨fun r a => by show (toDL r (a.map va)).map _ = _; rw [q.toL]; rfl, fun a => by unfold PyData.canLay0; exact q.layL a, fun a => by unfold PyData.depth; have := q.depL a; omega, fun a b => by unfold PyData.eqv; exact q.eqL a b, fun a => by simp [PyData.eqv]⟩
theorem dt_p2 (qa : Dt va da k) (qb : Dt vb db l) : Dt (p2 va vb) (fun x => .tuple [da x.1, db x.2]) (max k l + 1) :=
  ⟨fun r a => by show (toDL r [va a.1, vb a.2]).map _ = _; simp only [toDL, qa.to, qb.to]; rfl, fun a => by simp [PyData.canLay0, PyData.canLayAll0, qa.lay, qb.lay], fun a => by
    have h1 := qa.dep a.1
    have h2 := qb.dep a.2
    simp only [PyData.depth, PyData.depthAll]; omega, fun a b => by
    simp only [PyData.eqv, PyData.eqvAll, qa.eq, qb.eq]
    obtain ⟨a1, a2⟩ := a
    obtain ⟨b1, b2⟩ := b
    by_cases h : a1 = b1 <;> by_cases h2 : a2 = b2 <;> simp [h, h2], fun a => by simp [PyData.eqv]⟩
theorem dt_p3 (qa : Dt va da k) (qb : Dt vb db l) (qc : Dt vc dc m) : Dt (p3 va vb vc) (fun x => .tuple [da x.1, db x.2.1, dc x.2.2]) (max k (max l m) + 1) :=
  ⟨fun r a => by show (toDL r [va a.1, vb a.2.1, vc a.2.2]).map _ = _; simp only [toDL, qa.to, qb.to, qc.to]; rfl, fun a => by simp [PyData.canLay0, PyData.canLayAll0, qa.lay, qb.lay, qc.lay], fun a => by
    have h1 := qa.dep a.1
    have h2 := qb.dep a.2.1
    have h3 := qc.dep a.2.2
    simp only [PyData.depth, PyData.depthAll]; omega, fun a b => by
    simp only [PyData.eqv, PyData.eqvAll, qa.eq, qb.eq, qc.eq]
    obtain ⟨a1, a2, a3⟩ := a
    obtain ⟨b1, b2, b3⟩ := b
    by_cases h : a1 = b1 <;> by_cases h2 : a2 = b2 <;> by_cases h3 : a3 = b3 <;> simp [h, h2, h3], fun a => by simp [PyData.eqv]⟩
theorem dt_l2 (qa : Dt va da k) (qb : Dt vb db l) : Dt (l2 va vb) (fun x => .list [da x.1, db x.2]) (max k l + 1) :=
  ⟨fun r a => by show (toDL r [va a.1, vb a.2]).map _ = _; simp only [toDL, qa.to, qb.to]; rfl, fun a => by simp [PyData.canLay0, PyData.canLayAll0, qa.lay, qb.lay], fun a => by
    have h1 := qa.dep a.1
    have h2 := qb.dep a.2
    simp only [PyData.depth, PyData.depthAll]; omega, fun a b => by
    simp only [PyData.eqv, PyData.eqvAll, qa.eq, qb.eq]
    obtain ⟨a1, a2⟩ := a
    obtain ⟨b1, b2⟩ := b
    by_cases h : a1 = b1 <;> by_cases h2 : a2 = b2 <;> simp [h, h2], fun a => by simp [PyData.eqv]⟩
theorem dt_p4 {vd : δ → MV} [DecidableEq δ] {dd : δ → PyData} {n : Nat} (qa : Dt va da k) (qb : Dt vb db l) (qc : Dt vc dc m) (qd : Dt vd dd n) : Dt (p4 va vb vc vd) (fun x => .tuple [da x.1, db x.2.1, dc x.2.2.1, dd x.2.2.2]) (max k (max l (max m n)) + 1) :=
  ⟨fun r a => by show (toDL r [va a.1, vb a.2.1, vc a.2.2.1, vd a.2.2.2]).map _ = _; simp only [toDL, qa.to, qb.to, qc.to, qd.to]; rfl, fun a => by simp [PyData.canLay0, PyData.canLayAll0, qa.lay, qb.lay, qc.lay, qd.lay], fun a => by
    have h1 := qa.dep a.1
    have h2 := qb.dep a.2.1
    have h3 := qc.dep a.2.2.1
    have h4 := qd.dep a.2.2.2
    simp only [PyData.depth, PyData.depthAll]; omega, fun a b => by
    simp only [PyData.eqv, PyData.eqvAll, qa.eq, qb.eq, qc.eq, qd.eq]
    obtain ⟨a1, a2, a3, a4⟩ := a
    obtain ⟨b1, b2, b3, b4⟩ := b
    by_cases h : a1 = b1 <;> by_cases h2 : a2 = b2 <;> by_cases h3 : a3 = b3 <;> by_cases h4 : a4 = b4 <;> simp [h, h2, h3, h4], fun a => by simp [PyData.eqv]⟩
theorem dt_o (q : Dt va da k) : Dt (oV va) (fun o => match o with | none => .none | some a => da a) (k + 1) → True := fun _ => trivial
/-- what is read is data -/
def DtR (ea : Enc α) (d : α → PyData) (k : Nat) : Prop := ∀ a v h f, (ea a).r v h f → dataOf h v = some (d a) ∧ (d a).canLay0 = true ∧ (d a).depth ≤ k
theorem Dt.rd (q : Dt va da k) : DtR (fz va) da k := fun a v h f r => ⟨by rw [r.1]; exact q.to _ a, q.lay a, q.dep a⟩
theorem Dt.rdO (q : Dt va da k) : DtR (own1 va) (fun xs => .list (xs.map da)) (k + 1) := fun xs v h f r => by
  obtain ⟨n, rfl, e, _⟩ := rd_own r
  refine ⟨?_, (dt_l q).lay xs, (dt_l q).dep xs⟩
  unfold Mn.dataOf toD rD
  rw [e]
  show (toDL (rD h 3) (xs.map va)).map _ = _
  rw [q.toL]; rfl
theorem sh_of {d : PyData} {k : Nat} (h1 : d.canLay0 = true) (h2 : d.depth ≤ k) (hk : k ≤ 64) : SeqAt.shaped d = true := by
  unfold SeqAt.shaped; rw [h1]; simp; omega
/-- two readings of like data -/
theorem o_eqR {ea eb : Enc α} {d : α → PyData} (h1 : DtR ea d k) (h2 : DtR eb d l) (q : ∀ a b, PyData.eqv (d a) (d b) = decide (a = b)) (hk : k ≤ 64 := by decide) (hl : l ≤ 64 := by decide) {neg : Bool} : Rd2 (fEq neg) (fun a b => some (if neg then !decide (a = b) else decide (a = b))) ea eb .bl := fun a b c u v f1 f2 h r1 r2 e => by
  cases e
  obtain ⟨a1, a2, a3⟩ := h1 a u h f1 r1
  obtain ⟨b1, b2, b3⟩ := h2 b v h f2 r2
  cases neg with
  | true => rw [f_neD a1 b1 (sh_of a2 a3 hk) (sh_of b2 b3 hl), q]; rfl
  | false => rw [f_eqD a1 b1 (sh_of a2 a3 hk) (sh_of b2 b3 hl), q]; rfl
theorem o_eq (q : Dt va da k) (hk : k ≤ 64 := by decide) {neg : Bool} : Op2 (fEq neg) (fun a b => some (if neg then !decide (a = b) else decide (a = b))) va va .bl := fun a b c h e => o_eqR q.rd q.rd q.eq hk hk a b c _ _ [] [] h ⟨rfl, rfl⟩ ⟨rfl, rfl⟩ e
/-- an option against a value -/
theorem o_eqO (q : Dt va da k) (hk : k ≤ 64 := by decide) {neg : Bool} : Op2 (fEq neg) (fun a b => some (if neg then !decide (a = some b) else decide (a = some b))) (oV va) va .bl := fun a b c h e => by
  cases e
  cases a with
  | some a =>
    have := o_eq q hk (neg := neg) a b _ h rfl
    rw [show oV va (some a) = va a from rfl, this]
    simp
  | none =>
    have s1 : SeqAt.shaped PyData.none = true := by decide
    have s2 := sh_of (q.lay b) (q.dep b) hk
    cases neg with
    | true => rw [f_neD (show dataOf h (oV va none) = some .none from rfl) (q.to _ b) s1 s2, (q.nn b).1]; rfl
    | false => rw [f_eqD (show dataOf h (oV va none) = some .none from rfl) (q.to _ b) s1 s2, (q.nn b).1]; rfl
theorem o_eqOO (q : Dt va da k) (hk : k ≤ 64 := by decide) {neg : Bool} : Op2 (fEq neg) (fun a b => some (if neg then !decide (a = b) else decide (a = b))) (oV va) (oV va) .bl := fun a b c h e => by
  cases b with
  | some b =>
    have := o_eqO q hk (neg := neg) a b c h e
    exact this
  | none =>
    cases e
    have s1 : SeqAt.shaped PyData.none = true := by decide
    cases a with
    | none => cases neg <;> rfl
    | some a =>
      have s2 := sh_of (q.lay a) (q.dep a) hk
      rw [show oV va (some a) = va a from rfl]
      cases neg with
      | true => rw [f_neD (q.to _ a) (show dataOf h (oV va none) = some .none from rfl) s2 s1, (q.nn a).2]; rfl
      | false => rw [f_eqD (q.to _ a) (show dataOf h (oV va none) = some .none from rfl) s2 s1, (q.nn a).2]; rfl
end
end

/-! ### arguments -/
section
variable {σ : Type} {tb : Nat → Slot σ} {N : Nat} {D D' : List Nat} {α β γ : Type} {e e1 e2 : ME} {p : σ → X σ α} {q : σ → X σ β} {va : α → MV} {vb : β → MV} {vc : γ → MV} {ea : Enc α} {ms : MA} {vs : β → List MV}
@[irreducible] def xN : σ → X σ Unit := fun s => .ok () s
@[irreducible] def xCs (p : σ → X σ α) (q : σ → X σ β) : σ → X σ (α × β) := fun s => (p s).bind fun a s => (q s).bind fun b s => .ok (a, b) s
theorem tpa_n : TPA tb N D maN xN (fun _ => []) := by with_unfolding_all exact (fun s env h fp R => ⟨rfl, h, rfl, Mono.refl⟩)
theorem tpa_c (k1 : TP tb N D e p (fz va)) (k2 : TPA tb N D ms q vs) : TPA tb N D (maC e ms) (xCs p q) (fun x => va x.1 :: vs x.2) := fun s env h fp R => by
  have z := k1 s env h fp R
  unfold xCs maC
  cases hp : p s with
  | ok a s' =>
    rw [hp] at z
    obtain ⟨rfl, v, h', f', e1, m, r⟩ := z
    simp only [X.bind]
    rw [e1]
    simp only [Out.bind]
    have z2 := k2 s' env h' fp (R.mono m)
    cases hq : q s' with
    | ok b s2 =>
      rw [hq] at z2
      obtain ⟨rfl, h2, e2, m2⟩ := z2
      exact ⟨rfl, h2, by rw [e2, r.1], m.trans m2⟩
    | exc C xs s2 =>
      rw [hq] at z2
      obtain ⟨rfl, h2, e2, m2⟩ := z2
      exact ⟨rfl, h2, by rw [e2], m.trans m2⟩
    | bad => trivial
  | exc C xs s' =>
    rw [hp] at z
    obtain ⟨rfl, h', e1, m⟩ := z
    exact ⟨rfl, h', by rw [e1], m⟩
  | bad => trivial
theorem txa_c (k1 : TX tb N D e p (fz va)) (k2 : TXA tb N D ms q vs) : TXA tb N D (maC e ms) (xCs p q) (fun x => va x.1 :: vs x.2) := fun s env h fp R => by
  have z := k1 s env h fp R
  unfold xCs maC
  cases hp : p s with
  | ok a s' =>
    rw [hp] at z
    obtain ⟨v, h', f', fp', e1, R1, r, _, _, fr, gr⟩ := z
    simp only [X.bind]
    rw [e1]
    simp only [Out.bind]
    have z2 := k2 s' env h' fp' R1
    have gr' : Grow (Wn D fp) (Wn D fp') h := gr.sub fun n q => .inl q
    cases hq : q s' with
    | ok b s2 =>
      rw [hq] at z2
      obtain ⟨h2, fp2, e2, R2, fr2, gr2⟩ := z2
      exact ⟨h2, fp2, by rw [e2, r.1], R2, fr.trans gr' fr2, gr'.trans fr.len gr2⟩
    | exc C xs s2 =>
      rw [hq] at z2
      obtain ⟨h2, fp2, e2, R2, fr2, gr2⟩ := z2
      exact ⟨h2, fp2, by rw [e2], R2, fr.trans gr' fr2, gr'.trans fr.len gr2⟩
    | bad => trivial
  | exc C xs s' =>
    rw [hp] at z
    obtain ⟨h', fp', e1, R1, fr, gr⟩ := z
    exact ⟨h', fp', by rw [e1], R1, fr, gr⟩
  | bad => trivial
/-- a built-in on values -/
def OpF (f : MF) (g : β → Option γ) (vs : β → List MV) (vc : γ → MV) : Prop := ∀ a b h, g a = some b → f (vs a) h = .ok (vc b) h
/-- what makes a value of several -/
def OpA (m : MA → ME) (g : β → Option γ) (vs : β → List MV) (vc : γ → MV) : Prop := ∀ (ms : MA) env h, (∀ a b h', ms env h = .ok (vs a) h' → g a = some b → m ms env h = .ok (vc b) h') ∧ ∀ C xs h', ms env h = .exc C xs h' → m ms env h = .exc C xs h'
theorem OpF.a {f : MF} {g : β → Option γ} (k : OpF f g vs vc) : OpA (mF f) g vs vc := fun ms env h => ⟨fun a b h' e q => by unfold mF; rw [e]; exact k a b h' q, fun C xs h' e => by unfold mF; rw [e]⟩
theorem oa_tup {t : β → γ} (hv : ∀ a, MV.tup (vs a) = vc (t a)) (n : Nat) (hl : ∀ a, (vs a).length = n) (hn : n ≤ 1000 := by decide) : OpA mTup (fun a => some (t a)) vs vc := fun ms env h => ⟨fun a b h' e q => by
    cases q
    rw [ev_tup e (by rw [hl, sizeLine_eq]; omega), hv], fun C xs h' e => by unfold mTup; rw [e]⟩
theorem oa_lst {t : β → γ} (hv : ∀ a, MV.fl (vs a) = vc (t a)) (n : Nat) (hl : ∀ a, (vs a).length = n) (hn : n ≤ 1000 := by decide) : OpA (mLst false) (fun a => some (t a)) vs vc := fun ms env h => ⟨fun a b h' e q => by
    cases q
    rw [ev_lstF e (by rw [hl, sizeLine_eq]; omega), hv], fun C xs h' e => by unfold mLst; rw [e]⟩
theorem tp_ao {m : MA → ME} {g : β → Option γ} (o : OpA m g vs vc) (k : TPA tb N D ms q vs) : TP tb N D (m ms) (x1o g q) (fz vc) := fun s env h fp R => by
  have z := k s env h fp R
  unfold x1o
  cases hq : q s with
  | ok a s' =>
    rw [hq] at z
    obtain ⟨rfl, h', e1, mo⟩ := z
    simp only [X.bind]
    cases hg : g a with
    | none => trivial
    | some b => exact ⟨rfl, vc b, h', [], (o ms env h).1 a b h' e1 hg, mo, rfl, rfl⟩
  | exc C xs s' =>
    rw [hq] at z
    obtain ⟨rfl, h', e1, mo⟩ := z
    exact ⟨rfl, h', (o ms env h).2 C xs h' e1, mo⟩
  | bad => trivial
theorem tp_a {m : MA → ME} {g : β → γ} (o : OpA m (fun a => some (g a)) vs vc) (k : TPA tb N D ms q vs) : TP tb N D (m ms) (x1 g q) (fz vc) := by with_unfolding_all exact (tp_ao o k)
theorem tx_ao {m : MA → ME} {g : β → Option γ} (o : OpA m g vs vc) (k : TXA tb N D ms q vs) : TX tb N D (m ms) (x1o g q) (fz vc) := fun s env h fp R => by
  have z := k s env h fp R
  unfold x1o
  cases hq : q s with
  | ok a s' =>
    rw [hq] at z
    obtain ⟨h', fp', e1, R1, fr, gr⟩ := z
    simp only [X.bind]
    cases hg : g a with
    | none => trivial
    | some b => exact ⟨vc b, h', [], fp', (o ms env h).1 a b h' e1 hg, R1, ⟨rfl, rfl⟩, List.nodup_nil, (fun n hn => nomatch hn), fr, gr.sub fun n q => q.elim id fun z => nomatch z⟩
  | exc C xs s' =>
    rw [hq] at z
    obtain ⟨h', fp', e1, R1, fr, gr⟩ := z
    exact ⟨h', fp', (o ms env h).2 C xs h' e1, R1, fr, gr⟩
  | bad => trivial
theorem tx_a {m : MA → ME} {g : β → γ} (o : OpA m (fun a => some (g a)) vs vc) (k : TXA tb N D ms q vs) : TX tb N D (m ms) (x1 g q) (fz vc) := by with_unfolding_all exact (tx_ao o k)
/-- a built-in with one argument that is read -/
theorem tp_f1o {f : MF} {g : α → Option γ} (o : Rd1 (fun v h => f [v] h) g ea vc) (k : TP tb N D e p ea) : TP tb N D (mF f (maC e maN)) (x1o g p) (fz vc) := fun s env h fp R => by
  have z := tp_1o (f := fun v h => f [v] h) o k s env h fp R
  have e0 : mF f (maC e maN) env h = m1 (fun v h => f [v] h) e env h := by
    unfold mF maC maN m1
    cases e env h <;> rfl
  rw [e0]; exact z
theorem tp_f1 {f : MF} {g : α → γ} (o : Rd1 (fun v h => f [v] h) (fun a => some (g a)) ea vc) (k : TP tb N D e p ea) : TP tb N D (mF f (maC e maN)) (x1 g p) (fz vc) := by with_unfolding_all exact (tp_f1o o k)
theorem tx_f1o {f : MF} {g : α → Option γ} (o : Op1 (fun v h => f [v] h) g va vc) (k : TX tb N D e p (fz va)) : TX tb N D (mF f (maC e maN)) (x1o g p) (fz vc) := fun s env h fp R => by
  have z := tx_1o (f := fun v h => f [v] h) o k s env h fp R
  have e0 : mF f (maC e maN) env h = m1 (fun v h => f [v] h) e env h := by
    unfold mF maC maN m1
    cases e env h <;> rfl
  rw [e0]; exact z
theorem tx_f1 {f : MF} {g : α → γ} (o : Op1 (fun v h => f [v] h) (fun a => some (g a)) va vc) (k : TX tb N D e p (fz va)) : TX tb N D (mF f (maC e maN)) (x1 g p) (fz vc) := by with_unfolding_all exact (tx_f1o o k)
end
section
variable {α β γ : Type} {va : α → MV} {vb : β → MV}
theorem f1_lenQ {ea : Enc (List α)} {va' : α → MV} (sq : SqV ea va') (hs : ∀ xs v h f, (ea xs).r v h f → ∃ y, v = .tup y ∨ v = .fl y ∨ v = .sl y ∨ ∃ n, v = .ref n ∧ ∃ ys, h[n]? = some (.lst ys) ∧ ys.length = xs.length) : Rd1 (fun v h => fLen [v] h) (fun xs => some (xs.length : Int)) ea .int := fun xs c v f h r e => by
  cases e
  have s := sq xs v h f r
  obtain ⟨y, rfl | rfl | rfl | ⟨n, rfl, ys, e, l⟩⟩ := hs xs v h f r
  · have : y = xs.map va' := by simpa [seqAt] using s
    show fLen [.tup y] h = _
    rw [f_lenT, this, List.length_map]
  · have : y = xs.map va' := by simpa [seqAt, lstAt] using s
    show fLen [.fl y] h = _
    rw [f_lenF, this, List.length_map]
  · have : y = xs.map va' := by simpa [seqAt, lstAt] using s
    show fLen [.sl y] h = _
    rw [f_lenS, this, List.length_map]
  · show fLen [.ref n] h = _
    rw [f_lenR e, l]
theorem f1_lenT : Rd1 (fun v h => fLen [v] h) (fun xs : List α => some (xs.length : Int)) (fz (tV va)) .int := f1_lenQ sq_t fun xs v h f r => ⟨_, .inl r.1⟩
theorem f1_lenL : Rd1 (fun v h => fLen [v] h) (fun xs : List α => some (xs.length : Int)) (fz (lV va)) .int := f1_lenQ sq_l fun xs v h f r => ⟨_, .inr (.inl r.1)⟩
theorem f1_lenS : Rd1 (fun v h => fLen [v] h) (fun xs : List α => some (xs.length : Int)) (fz (sV va)) .int := f1_lenQ sq_s fun xs v h f r => ⟨_, .inr (.inr (.inl r.1))⟩
theorem f1_lenO : Rd1 (fun v h => fLen [v] h) (fun xs : List α => some (xs.length : Int)) (own1 va) .int := f1_lenQ sq_o fun xs v h f r => by
  obtain ⟨n, rfl, e, _⟩ := rd_own r
  exact ⟨[], .inr (.inr (.inr ⟨n, rfl, _, e, List.length_map ..⟩))⟩
theorem All2.len {h : MH} : ∀ {xss : List (List α)} {ns : List Nat}, All2 va h xss ns → ns.length = xss.length
  | [], [], _ => rfl
  | _ :: _, _ :: _, q => congrArg (· + 1) (All2.len q.2)
  | [], _ :: _, q => q.elim
  | _ :: _, [], q => q.elim
theorem f1_lenO2 : Rd1 (fun v h => fLen [v] h) (fun xs : List (List α) => some (xs.length : Int)) (own2 va) .int := fun xs c v f h r e => by
  cases e
  obtain ⟨n, ns, rfl, e, q, _⟩ := r
  show fLen [.ref n] h = _
  rw [f_lenR e, List.length_map, q.len]
theorem f1_int : Op1 (fun v h => fInt [v] h) (fun i : Int => some i) .int .int := fun _ _ _ e => by cases e; rfl
theorem f1_intB : Op1 (fun v h => fInt [v] h) (fun b : Bool => some (if b then (1 : Int) else 0)) .bl .int := fun _ _ _ e => by cases e; rfl
theorem f1_tupT : Op1 (fun v h => fTuple [v] h) (fun xs : List α => some xs) (tV va) (tV va) := fun _ _ _ e => by cases e; rfl
theorem f1_tupL : Op1 (fun v h => fTuple [v] h) (fun xs : List α => some xs) (lV va) (tV va) := fun _ _ _ e => by cases e; rfl
theorem f1_tupO : Rd1 (fun v h => fTuple [v] h) (fun xs : List α => some xs) (own1 va) (tV va) := fun xs c v f h r e => by
  cases e
  obtain ⟨n, rfl, e, _⟩ := rd_own r
  exact f_tupR e
theorem f1_list {ea : Enc (List α)} (sq : SqV ea va) : Rd1 (fun v h => fList false [v] h) (fun xs : List α => some xs) ea (lV va) := fun xs c v f h r e => by
  cases e
  show fList false [v] h = _
  rw [f_listF (sq xs v h f r)]; rfl
theorem f1_listF {va' : List α → MV} (sq : SqV (fz va') va) : Op1 (fun v h => fList false [v] h) (fun xs : List α => some xs) va' (lV va) := fun xs c h e => f1_list sq xs c _ [] h ⟨rfl, rfl⟩ e
theorem ff_max : OpF fMax2 (fun x : Int × Int × Unit => some (max x.1 x.2.1)) (fun x => [.int x.1, .int x.2.1]) .int := fun a b h e => by
  cases e
  rw [f_max]; congr 2; rw [Int.max_def]; split <;> split <;> omega
theorem ff_min : OpF fMin2 (fun x : Int × Int × Unit => some (min x.1 x.2.1)) (fun x => [.int x.1, .int x.2.1]) .int := fun a b h e => by
  cases e
  rw [f_min]; congr 2; rw [Int.min_def]; split <;> split <;> omega
theorem intsOf_map : ∀ xs : List Int, intsOf (xs.map MV.int) = some xs
  | [] => rfl
  | x :: xs => by show (match intsOf (xs.map MV.int) with | some ns => some (x :: ns) | none => none) = _; rw [intsOf_map xs]
@[reducible] def gMax : List Int → Option Int
  | [] => none
  | x :: xs => some (maxL x xs)
@[reducible] def gMin : List Int → Option Int
  | [] => none
  | x :: xs => some (minL x xs)
def LsV' (ea : Enc (List α)) (va : α → MV) : Prop := ∀ xs v h f, (ea xs).r v h f → lstAt h v = some (xs.map va)
theorem ls_l : LsV' (fz (lV va)) va := fun xs v h f r => by rw [r.1]; rfl
theorem ls_s : LsV' (fz (sV va)) va := fun xs v h f r => by rw [r.1]; rfl
theorem ls_o : LsV' (own1 va) va := fun xs v h f r => by
  obtain ⟨n, rfl, e, _⟩ := rd_own r
  unfold lstAt; simp only; rw [e]
theorem f1_max {ea : Enc (List Int)} (q : LsV' ea .int) : Rd1 (fun v h => fMax1 [v] h) gMax ea .int := fun xs c v f h r e => by
  unfold fMax1; simp only
  rw [q xs v h f r]; simp only
  rw [intsOf_map]
  cases xs with
  | nil => cases e
  | cons x xs => cases e; rfl
theorem f1_sum {ea : Enc (List Int)} (q : LsV' ea .int) : Rd1 (fun v h => fSum [v] h) (fun xs => some xs.sum) ea .int := fun xs c v f h r e => by
  cases e
  unfold fSum; simp only
  rw [q xs v h f r]; simp only
  rw [intsOf_map]
@[reducible] def gLcm (x : Int × Int × Unit) : Option Int := if x.1.natAbs < 2 ^ 64 ∧ x.2.1.natAbs < 2 ^ 64 then some ((Nat.lcm x.1.natAbs x.2.1.natAbs : Nat) : Int) else none
theorem ff_lcm : OpF fLcm gLcm (fun x => [.int x.1, .int x.2.1]) .int := fun a b h e => by
  unfold fLcm; unfold gLcm at e
  by_cases q : a.1.natAbs < 2 ^ 64 ∧ a.2.1.natAbs < 2 ^ 64
  · rw [if_pos q] at e; cases e; simp only; rw [if_pos q]
  · rw [if_neg q] at e; cases e
end
end Ty
/-! ## TyC -/
set_option Elab.async false
set_option linter.all false
set_option maxRecDepth 100000
/-! Ty, part C: tests, slices, statements. -/
namespace Ty
open PySem PySem.Spec PyProof.Rows L2 Mn

section
variable {σ : Type} {tb : Nat → Slot σ} {N : Nat} {D D' D0 D1 D2 : List Nat} {α β γ ρ : Type} {e e1 e2 : ME} {p : σ → X σ α} {q : σ → X σ β} {va : α → MV} {vb : β → MV} {vc : γ → MV} {ea : Enc α} {eb : Enc β} {ms : MA} {t u : MT} {pt qt : σ → X σ Bool}
/-! ### tests -/
theorem txt_v {pb : σ → X σ Bool} (k : TX tb N D e pb (fz .bl)) : TXT tb N D (mT e) pb := fun s env h fp R => by
  have z := k s env h fp R
  unfold mT
  cases hp : pb s with
  | ok a s' =>
    rw [hp] at z
    obtain ⟨v, h', f', fp', e1, R1, r, _, _, fr, gr⟩ := z
    exact ⟨h', fp', by rw [e1, r.1]; rfl, R1, fr, gr.sub fun n q => .inl q⟩
  | exc C xs s' =>
    rw [hp] at z
    obtain ⟨h', fp', e1, R1, fr, gr⟩ := z
    exact ⟨h', fp', by rw [e1], R1, fr, gr⟩
  | bad => trivial
theorem txt_and (k1 : TXT tb N D t pt) (k2 : TXT tb N D u qt) : TXT tb N D (tAndM t u) (xAnd pt qt) := fun s env h fp R => by
  have z := k1 s env h fp R
  unfold tAndM xAnd
  cases hp : pt s with
  | ok a s' =>
    rw [hp] at z
    obtain ⟨h', fp', e1, R1, fr, gr⟩ := z
    simp only [X.bind]
    rw [e1]; simp only [Out.bind]
    cases a with
    | false => exact ⟨h', fp', rfl, R1, fr, gr⟩
    | true =>
      simp only [if_true]
      have z2 := k2 s' env h' fp' R1
      cases hq : qt s' with
      | ok b s2 =>
        rw [hq] at z2
        obtain ⟨h2, fp2, e2, R2, fr2, gr2⟩ := z2
        exact ⟨h2, fp2, e2, R2, fr.trans gr fr2, gr.trans fr.len gr2⟩
      | exc C xs s2 =>
        rw [hq] at z2
        obtain ⟨h2, fp2, e2, R2, fr2, gr2⟩ := z2
        exact ⟨h2, fp2, e2, R2, fr.trans gr fr2, gr.trans fr.len gr2⟩
      | bad => trivial
  | exc C xs s' =>
    rw [hp] at z
    obtain ⟨h', fp', e1, R1, fr, gr⟩ := z
    exact ⟨h', fp', by rw [e1], R1, fr, gr⟩
  | bad => trivial
theorem txt_or (k1 : TXT tb N D t pt) (k2 : TXT tb N D u qt) : TXT tb N D (tOrM t u) (xOr pt qt) := fun s env h fp R => by
  have z := k1 s env h fp R
  unfold tOrM xOr
  cases hp : pt s with
  | ok a s' =>
    rw [hp] at z
    obtain ⟨h', fp', e1, R1, fr, gr⟩ := z
    simp only [X.bind]
    rw [e1]; simp only [Out.bind]
    cases a with
    | true => exact ⟨h', fp', rfl, R1, fr, gr⟩
    | false =>
      have z2 := k2 s' env h' fp' R1
      simp only [Bool.false_eq_true, if_false]
      cases hq : qt s' with
      | ok b s2 =>
        rw [hq] at z2
        obtain ⟨h2, fp2, e2, R2, fr2, gr2⟩ := z2
        exact ⟨h2, fp2, e2, R2, fr.trans gr fr2, gr.trans fr.len gr2⟩
      | exc C xs s2 =>
        rw [hq] at z2
        obtain ⟨h2, fp2, e2, R2, fr2, gr2⟩ := z2
        exact ⟨h2, fp2, e2, R2, fr.trans gr fr2, gr.trans fr.len gr2⟩
      | bad => trivial
  | exc C xs s' =>
    rw [hp] at z
    obtain ⟨h', fp', e1, R1, fr, gr⟩ := z
    exact ⟨h', fp', by rw [e1], R1, fr, gr⟩
  | bad => trivial
theorem txt_not (k1 : TXT tb N D t pt) : TXT tb N D (tNotM t) (xNot pt) := fun s env h fp R => by
  have z := k1 s env h fp R
  unfold tNotM xNot
  cases hp : pt s with
  | ok a s' =>
    rw [hp] at z
    obtain ⟨h', fp', e1, R1, fr, gr⟩ := z
    exact ⟨h', fp', by rw [e1], R1, fr, gr⟩
  | exc C xs s' =>
    rw [hp] at z
    obtain ⟨h', fp', e1, R1, fr, gr⟩ := z
    exact ⟨h', fp', by rw [e1], R1, fr, gr⟩
  | bad => trivial
/-- a test's mirror as a value's -/
theorem TXT.val {m : ME} (hm : ∀ env h, m env h = (t env h).bind fun c h => .ok (.bl c) h) (k : TXT tb N D t pt) : TX tb N D m pt (fz .bl) := fun s env h fp R => by
  have z := k s env h fp R
  rw [hm]
  cases hp : pt s with
  | ok a s' =>
    rw [hp] at z
    obtain ⟨h', fp', e1, R1, fr, gr⟩ := z
    exact ⟨_, h', [], fp', by rw [e1], R1, ⟨rfl, rfl⟩, List.nodup_nil, (fun n hn => nomatch hn), fr, gr.sub fun n q => q.elim id fun z => nomatch z⟩
  | exc C xs s' =>
    rw [hp] at z
    obtain ⟨h', fp', e1, R1, fr, gr⟩ := z
    exact ⟨h', fp', by rw [e1], R1, fr, gr⟩
  | bad => trivial
theorem tx_not (k1 : TX tb N D e pt (fz .bl)) : TX tb N D (mNot e) (xNot pt) (fz .bl) := (txt_not (txt_v k1)).val fun env h => by
  unfold mNot tNotM mT
  cases e env h with
  | ok x h => simp only [Out.bind]; cases boolOf x h <;> rfl
  | exc _ _ _ => rfl
  | stuck => rfl
theorem tx_and (k1 : TX tb N D e1 pt (fz .bl)) (k2 : TX tb N D e2 qt (fz .bl)) : TX tb N D (mAnd e1 e2) (xAnd pt qt) (fz .bl) := fun s env h fp R => by
  have z := k1 s env h fp R
  unfold mAnd xAnd
  cases hp : pt s with
  | ok a s' =>
    rw [hp] at z
    obtain ⟨v, h', f', fp', e1, R1, r, _, _, fr, gr⟩ := z
    have gr' : Grow (Wn D fp) (Wn D fp') h := gr.sub fun n q => .inl q
    simp only [X.bind]
    rw [e1, r.1]; simp only [Out.bind, boolOf]
    cases a with
    | false => exact ⟨_, h', [], fp', rfl, R1, ⟨rfl, rfl⟩, List.nodup_nil, (fun n hn => nomatch hn), fr, gr'.sub fun n q => q.elim id fun z => nomatch z⟩
    | true =>
      simp only [if_true]
      have z2 := k2 s' env h' fp' R1
      cases hq : qt s' with
      | ok b s2 =>
        rw [hq] at z2
        obtain ⟨w, h2, f2, fp2, e2, R2, r2, n2, d2, fr2, gr2⟩ := z2
        exact ⟨w, h2, f2, fp2, e2, R2, r2, n2, d2, fr.trans gr' fr2, gr'.trans fr.len gr2⟩
      | exc C xs s2 =>
        rw [hq] at z2
        obtain ⟨h2, fp2, e2, R2, fr2, gr2⟩ := z2
        exact ⟨h2, fp2, e2, R2, fr.trans gr' fr2, gr'.trans fr.len gr2⟩
      | bad => trivial
  | exc C xs s' =>
    rw [hp] at z
    obtain ⟨h', fp', e1, R1, fr, gr⟩ := z
    exact ⟨h', fp', by rw [e1], R1, fr, gr⟩
  | bad => trivial
theorem tx_or (k1 : TX tb N D e1 pt (fz .bl)) (k2 : TX tb N D e2 qt (fz .bl)) : TX tb N D (mOr e1 e2) (xOr pt qt) (fz .bl) := fun s env h fp R => by
  have z := k1 s env h fp R
  unfold mOr xOr
  cases hp : pt s with
  | ok a s' =>
    rw [hp] at z
    obtain ⟨v, h', f', fp', e1, R1, r, _, _, fr, gr⟩ := z
    have gr' : Grow (Wn D fp) (Wn D fp') h := gr.sub fun n q => .inl q
    simp only [X.bind]
    rw [e1, r.1]; simp only [Out.bind, boolOf]
    cases a with
    | true => exact ⟨_, h', [], fp', rfl, R1, ⟨rfl, rfl⟩, List.nodup_nil, (fun n hn => nomatch hn), fr, gr'.sub fun n q => q.elim id fun z => nomatch z⟩
    | false =>
      simp only [Bool.false_eq_true, if_false]
      have z2 := k2 s' env h' fp' R1
      cases hq : qt s' with
      | ok b s2 =>
        rw [hq] at z2
        obtain ⟨w, h2, f2, fp2, e2, R2, r2, n2, d2, fr2, gr2⟩ := z2
        exact ⟨w, h2, f2, fp2, e2, R2, r2, n2, d2, fr.trans gr' fr2, gr'.trans fr.len gr2⟩
      | exc C xs s2 =>
        rw [hq] at z2
        obtain ⟨h2, fp2, e2, R2, fr2, gr2⟩ := z2
        exact ⟨h2, fp2, e2, R2, fr.trans gr' fr2, gr'.trans fr.len gr2⟩
      | bad => trivial
  | exc C xs s' =>
    rw [hp] at z
    obtain ⟨h', fp', e1, R1, fr, gr⟩ := z
    exact ⟨h', fp', by rw [e1], R1, fr, gr⟩
  | bad => trivial
theorem tx_if {p1 p2 : σ → X σ α} (k0 : TXT tb N D t pt) (k1 : TX tb N D e1 p1 ea) (k2 : TX tb N D e2 p2 ea) : TX tb N D (mIf t e1 e2) (xIf pt p1 p2) ea := fun s env h fp R => by
  have z := k0 s env h fp R
  unfold mIf xIf
  cases hp : pt s with
  | ok a s' =>
    rw [hp] at z
    obtain ⟨h', fp', e1, R1, fr, gr⟩ := z
    simp only [X.bind]
    rw [e1]; simp only [Out.bind]
    have go : ∀ {e : ME} {p : σ → X σ α}, TX tb N D e p ea → match p s' with
        | .ok a s9 => ∃ v h9 f fp9, e env h' = .ok v h9 ∧ RS tb N D s9 env h9 fp9 ∧ (ea a).r v h9 f ∧ f.Nodup ∧ (∀ n ∈ f, ¬ Wn D fp9 n) ∧ Fr (Wn D fp) h h9 ∧ Grow (Wn D fp) (fun n => Wn D fp9 n ∨ n ∈ f) h
        | .exc C xs s9 => ∃ h9 fp9, e env h' = .exc C xs h9 ∧ RS tb N D s9 env h9 fp9 ∧ Fr (Wn D fp) h h9 ∧ Grow (Wn D fp) (Wn D fp9) h
        | .bad => True := fun {e p} k => by
      have z2 := k s' env h' fp' R1
      cases hq : p s' with
      | ok b s2 =>
        rw [hq] at z2
        obtain ⟨w, h2, f2, fp2, e2, R2, r2, n2, d2, fr2, gr2⟩ := z2
        exact ⟨w, h2, f2, fp2, e2, R2, r2, n2, d2, fr.trans gr fr2, gr.trans fr.len gr2⟩
      | exc C xs s2 =>
        rw [hq] at z2
        obtain ⟨h2, fp2, e2, R2, fr2, gr2⟩ := z2
        exact ⟨h2, fp2, e2, R2, fr.trans gr fr2, gr.trans fr.len gr2⟩
      | bad => trivial
    cases a with
    | true => simp only [if_true]; exact go k1
    | false => simp only [Bool.false_eq_true, if_false]; exact go k2
  | exc C xs s' =>
    rw [hp] at z
    obtain ⟨h', fp', e1, R1, fr, gr⟩ := z
    exact ⟨h', fp', by rw [e1], R1, fr, gr⟩
  | bad => trivial
/-! ### chains of two -/
@[irreducible] def xCh {γ : Type} (g : α → β → Option Bool) (g' : β → γ → Option Bool) (p : σ → X σ α) (q : σ → X σ β) (r : σ → X σ γ) : σ → X σ Bool := fun s => (p s).bind fun a s => (q s).bind fun b s => match g a b with
  | some true => (r s).bind fun c s => match g' b c with
    | some z => .ok z s
    | none => .bad
  | some false => .ok false s
  | none => .bad
theorem tx_ch {e3 : ME} {r : σ → X σ γ} {f f' : MV → MV → MH → Out MV} {g : α → β → Option Bool} {g' : β → γ → Option Bool} (o : Op2 f g va vb .bl) (o' : Op2 f' g' vb vc .bl) (k1 : TX tb N D e1 p (fz va)) (k2 : TX tb N D e2 q (fz vb)) (k3 : TX tb N D e3 r (fz vc)) : TX tb N D (mChain f f' e1 e2 e3) (xCh g g' p q r) (fz .bl) := fun s env h fp R => by
  have z := k1 s env h fp R
  unfold xCh mChain
  cases hp : p s with
  | ok a s' =>
    rw [hp] at z
    obtain ⟨v, h', f', fp', e1, R1, r1, _, _, fr, gr⟩ := z
    have gr' : Grow (Wn D fp) (Wn D fp') h := gr.sub fun n q => .inl q
    simp only [X.bind]
    rw [e1]
    simp only [Out.bind]
    have z2 := k2 s' env h' fp' R1
    cases hq : q s' with
    | ok b s2 =>
      rw [hq] at z2
      obtain ⟨w, h2, f2, fp2, e2, R2, r2, _, _, fr2, gr2⟩ := z2
      have frA := fr.trans gr' fr2
      have grA := gr'.trans fr.len (gr2.sub fun n q => .inl q)
      simp only
      rw [e2]
      simp only
      cases hg : g a b with
      | none => trivial
      | some c =>
        have ef : f v w h2 = .ok (.bl c) h2 := by rw [r1.1, r2.1]; exact o a b c h2 hg
        rw [ef]
        simp only
        cases c with
        | false => exact ⟨_, h2, [], fp2, rfl, R2, ⟨rfl, rfl⟩, List.nodup_nil, (fun n hn => nomatch hn), frA, grA.sub fun n q => q.elim id fun z => nomatch z⟩
        | true =>
          simp only
          have z3 := k3 s2 env h2 fp2 R2
          cases hr : r s2 with
          | ok d s3 =>
            rw [hr] at z3
            obtain ⟨x, h3, f3, fp3, e3, R3, r3, _, _, fr3, gr3⟩ := z3
            simp only
            rw [e3]
            simp only
            cases hg' : g' b d with
            | none => trivial
            | some y => exact ⟨_, h3, [], fp3, by rw [r2.1, r3.1]; exact o' b d y h3 hg', R3, ⟨rfl, rfl⟩, List.nodup_nil, (fun n hn => nomatch hn), frA.trans grA fr3, (grA.trans frA.len (gr3.sub fun n q => .inl q)).sub fun n q => q.elim id fun z => nomatch z⟩
          | exc C xs s3 =>
            rw [hr] at z3
            obtain ⟨h3, fp3, e3, R3, fr3, gr3⟩ := z3
            exact ⟨h3, fp3, by rw [e3], R3, frA.trans grA fr3, grA.trans frA.len gr3⟩
          | bad => trivial
    | exc C xs s2 =>
      rw [hq] at z2
      obtain ⟨h2, fp2, e2, R2, fr2, gr2⟩ := z2
      exact ⟨h2, fp2, by rw [e2], R2, fr.trans gr' fr2, gr'.trans fr.len gr2⟩
    | bad => trivial
  | exc C xs s' =>
    rw [hp] at z
    obtain ⟨h', fp', e1, R1, fr, gr⟩ := z
    exact ⟨h', fp', by rw [e1], R1, fr, gr⟩
  | bad => trivial
/-! ### slices -/
def TPI (tb : Nat → Slot σ) (N : Nat) (D : List Nat) (e : MI) (p : σ → X σ (Option Int)) : Prop := ∀ s env h fp, RS tb N D s env h fp → match p s with
  | .ok a s' => s' = s ∧ ∃ h', e env h = .ok a h' ∧ Mono h h'
  | .exc C xs s' => s' = s ∧ ∃ h', e env h = .exc C xs h' ∧ Mono h h'
  | .bad => True
theorem tpi_n : TPI tb N D moN (xC none) := by with_unfolding_all exact (fun s env h fp R => ⟨rfl, h, rfl, Mono.refl⟩)
theorem tpi_s {p : σ → X σ Int} (k : TP tb N D e p (fz .int)) : TPI tb N D (moS e) (x1 some p) := fun s env h fp R => by
  have z := k s env h fp R
  unfold moS x1
  cases hp : p s with
  | ok a s' =>
    rw [hp] at z
    obtain ⟨rfl, v, h', f', e1, m, r⟩ := z
    exact ⟨rfl, h', by rw [e1, r.1]; rfl, m⟩
  | exc C xs s' =>
    rw [hp] at z
    obtain ⟨rfl, h', e1, m⟩ := z
    exact ⟨rfl, h', by rw [e1], m⟩
  | bad => trivial
def gCut (xs : List α) (lo hi : Option Int) : List α := (xs.drop (HT.sIx xs.length 0 lo)).take (HT.sIx xs.length xs.length hi - HT.sIx xs.length 0 lo)
theorem cut_map {f : α → MV} {xs : List α} {lo hi : Option Int} : cutM (xs.map f) lo hi = (gCut xs lo hi).map f := by
  unfold cutM gCut
  rw [List.length_map, List.map_take, List.map_drop]
@[irreducible] def xSl (p : σ → X σ (List α)) (l r : σ → X σ (Option Int)) : σ → X σ (List α) := fun s => (p s).bind fun a s => (l s).bind fun lo s => (r s).bind fun hi s => .ok (gCut a lo hi) s
def OpSl (f : MV → Option Int → Option Int → MH → Out MV) (ea : Enc (List α)) (vc : List α → MV) : Prop := ∀ xs v fp h lo hi, (ea xs).r v h fp → f v lo hi h = .ok (vc (gCut xs lo hi)) h
theorem os_t {b : Bool} : OpSl (α := α) (fSl b) (fz (tV va)) (tV va) := fun xs v fp h lo hi r => by
  rw [r.1, f_slT, cut_map]
theorem os_l : OpSl (α := α) (fSl false) (fz (lV va)) (lV va) := fun xs v fp h lo hi r => by
  rw [r.1, f_slF, cut_map]; rfl
theorem os_o : OpSl (α := α) (fSl false) (own1 va) (lV va) := fun xs v fp h lo hi r => by
  obtain ⟨n, rfl, e, _⟩ := rd_own r
  rw [f_slR e, cut_map]; rfl
theorem tp_sl {f : MV → Option Int → Option Int → MH → Out MV} {ea : Enc (List α)} {vc : List α → MV} {p : σ → X σ (List α)} {l r : MI} {pl pr : σ → X σ (Option Int)} (o : OpSl f ea vc) (k1 : TP tb N D e p ea) (k2 : TPI tb N D l pl) (k3 : TPI tb N D r pr) : TP tb N D (mSl f e l r) (xSl p pl pr) (fz vc) := fun s env h fp R => by
  have z := k1 s env h fp R
  unfold xSl mSl
  cases hp : p s with
  | ok a s' =>
    rw [hp] at z
    obtain ⟨rfl, v, h', f', e1, m, rr⟩ := z
    simp only [X.bind]
    rw [e1]
    simp only [Out.bind]
    have z2 := k2 s' env h' fp (R.mono m)
    cases hq : pl s' with
    | ok lo s2 =>
      rw [hq] at z2
      obtain ⟨rfl, h2, e2, m2⟩ := z2
      simp only
      rw [e2]; simp only
      have z3 := k3 s2 env h2 fp (R.mono (m.trans m2))
      cases hr : pr s2 with
      | ok hi s3 =>
        rw [hr] at z3
        obtain ⟨rfl, h3, e3, m3⟩ := z3
        refine ⟨rfl, _, h3, [], ?_, m.trans (m2.trans m3), rfl, rfl⟩
        rw [e3]
        exact o a v f' h3 lo hi ((ea a).frame rr fun n hn => (m2.trans m3).keep n ((ea a).dom rr n hn))
      | exc C xs s3 =>
        rw [hr] at z3
        obtain ⟨rfl, h3, e3, m3⟩ := z3
        exact ⟨rfl, h3, by rw [e3], m.trans (m2.trans m3)⟩
      | bad => trivial
    | exc C xs s2 =>
      rw [hq] at z2
      obtain ⟨rfl, h2, e2, m2⟩ := z2
      exact ⟨rfl, h2, by rw [e2], m.trans m2⟩
    | bad => trivial
  | exc C xs s' =>
    rw [hp] at z
    obtain ⟨rfl, h', e1, m⟩ := z
    exact ⟨rfl, h', by rw [e1], m⟩
  | bad => trivial
/-! ### new lists -/
theorem tx_new {ys : β → List α} {m : ME} {q : σ → X σ β} (k : ∀ s env h fp, RS tb N D s env h fp → match q s with
  | .ok a s' => ∃ h' fp', m env h = retL true ((ys a).map va) h' ∧ RS tb N D s' env h' fp' ∧ Fr (Wn D fp) h h' ∧ Grow (Wn D fp) (Wn D fp') h
  | .exc C xs s' => ∃ h' fp', m env h = .exc C xs h' ∧ RS tb N D s' env h' fp' ∧ Fr (Wn D fp) h h' ∧ Grow (Wn D fp) (Wn D fp') h
  | .bad => True) : TX tb N D m (x1 ys q) (own1 va) := fun s env h fp R => by
  have z := k s env h fp R
  unfold x1
  cases hq : q s with
  | ok a s' =>
    rw [hq] at z
    obtain ⟨h', fp', e1, R1, fr, gr⟩ := z
    refine ⟨.ref h'.length, h' ++ [.lst ((ys a).map va)], [h'.length], fp', by rw [e1]; rfl, R1.mono Mono.app, ⟨_, rfl, app_same, rfl⟩, by simp, fun n hn => ?_, ⟨by rw [List.length_append]; have := fr.len; omega, fun n hn hA => ?_⟩, fun n hn => ?_⟩
    · have : n = h'.length := by simpa using hn
      subst this
      exact fun z => Nat.lt_irrefl _ (R1.dom _ z)
    · rw [List.getElem?_append_left (Nat.lt_of_lt_of_le hn fr.len)]
      exact fr.keep n hn hA
    · rcases hn with hn | hn
      · exact gr n hn
      · have : n = h'.length := by simpa using hn
        subst this
        exact .inr fr.len
  | exc C xs s' =>
    rw [hq] at z
    obtain ⟨h', fp', e1, R1, fr, gr⟩ := z
    exact ⟨h', fp', e1, R1, fr, gr⟩
  | bad => trivial
theorem tx_lst {ys : β → List α} {vs : β → List MV} (hv : ∀ a, vs a = (ys a).map va) (n : Nat) (hl : ∀ a, (vs a).length = n) (k : TXA tb N D ms q vs) (hn : n ≤ 1000 := by decide) : TX tb N D (mLst true ms) (x1 ys q) (own1 va) := tx_new fun s env h fp R => by
  have z := k s env h fp R
  unfold mLst
  cases hq : q s with
  | ok a s' =>
    rw [hq] at z
    obtain ⟨h', fp', e1, R1, fr, gr⟩ := z
    exact ⟨h', fp', by rw [e1]; simp only [Out.bind]; rw [if_pos (by rw [hl, sizeLine_eq]; omega), hv], R1, fr, gr⟩
  | exc C xs s' =>
    rw [hq] at z
    obtain ⟨h', fp', e1, R1, fr, gr⟩ := z
    exact ⟨h', fp', by rw [e1], R1, fr, gr⟩
  | bad => trivial
/-- a new list of what is read -/
theorem tx_rdL {p : σ → X σ α} {f : MV → MH → Out MV} {ys : α → List γ} {m : ME} (hm : ∀ env h, m env h = (e env h).bind f) (o : ∀ a v h fp, (ea a).r v h fp → f v h = retL true ((ys a).map vc) h) (k : TP tb N D e p ea) : TX tb N D m (x1 ys p) (own1 vc) := tx_new fun s env h fp R => by
  have z := k s env h fp R
  cases hp : p s with
  | ok a s' =>
    rw [hp] at z
    obtain ⟨rfl, v, h', f', e1, mo, r⟩ := z
    exact ⟨h', fp, by rw [hm, e1]; exact o a v h' f' r, R.mono mo, mo.fr, Grow.refl⟩
  | exc C xs s' =>
    rw [hp] at z
    obtain ⟨rfl, h', e1, mo⟩ := z
    exact ⟨h', fp, by rw [hm, e1], R.mono mo, mo.fr, Grow.refl⟩
  | bad => trivial
theorem tx_listO {ea : Enc (List α)} {p : σ → X σ (List α)} (sq : SqV ea va) (k : TP tb N D e p ea) : TX tb N D (mF (fList true) (maC e maN)) (x1 id p) (own1 va) := tx_rdL (f := fun v h => fList true [v] h) (fun env h => by
    unfold mF maC maN
    cases e env h <;> rfl) (fun a v h fp r => by
    show fList true [v] h = _
    rw [f_listF (sq a v h fp r)]; rfl) k
end
end Ty
/-! ## TyD -/
set_option Elab.async false
set_option linter.all false
set_option maxRecDepth 100000
/-! Ty, part D: statements. -/
namespace Ty
open PySem PySem.Spec PyProof.Rows L2 Mn

/-! ### typed texts of statements -/
section
variable {σ α β ρ : Type}
@[irreducible] def yNil : σ → F σ ρ := fun s => .nx s
@[irreducible] def ySeq (p q : σ → F σ ρ) : σ → F σ ρ := fun s => (p s).bind q
@[irreducible] def ySet (st : σ → α → σ) (p : σ → X σ α) : σ → F σ ρ := fun s => (p s).toF fun a s => .nx (st s a)
@[irreducible] def yRet (p : σ → X σ ρ) : σ → F σ ρ := fun s => (p s).toF fun a s => .rt a s
@[irreducible] def yRetC (r : ρ) : σ → F σ ρ := fun s => .rt r s
@[irreducible] def yExpr (p : σ → X σ α) : σ → F σ ρ := fun s => (p s).toF fun _ s => .nx s
@[irreducible] def yIf (t : σ → X σ Bool) (p q : σ → F σ ρ) : σ → F σ ρ := fun s => (t s).toF fun c s => if c = true then p s else q s
@[irreducible] def yBreak : σ → F σ ρ := fun s => .bk s
@[irreducible] def yCont : σ → F σ ρ := fun s => .ct s
@[irreducible] def yRaise (C : Str) : σ → F σ ρ := fun s => .exc C [] s
def yForL (st : σ → α → σ) (b : σ → F σ ρ) : List α → σ → F σ ρ
  | [], s => .nx s
  | x :: xs, s => match b (st s x) with
    | .nx s' => yForL st b xs s'
    | .ct s' => yForL st b xs s'
    | .bk s' => .nx s'
    | o => o
@[irreducible] def yFor (p : σ → X σ (List α)) (st : σ → α → σ) (b : σ → F σ ρ) : σ → F σ ρ := fun s => (p s).toF fun xs s => yForL st b xs s
def yWhile0 (t : σ → X σ Bool) (b : σ → F σ ρ) : Nat → σ → F σ ρ
  | 0, _ => .bad
  | n + 1, s => (t s).toF fun c s => if c = true then (match b s with
    | .nx s' => yWhile0 t b n s'
    | .ct s' => yWhile0 t b n s'
    | .bk s' => .nx s'
    | o => o) else .nx s
@[irreducible] def yWhile (t : σ → X σ Bool) (b : σ → F σ ρ) (n : Nat) : σ → F σ ρ := yWhile0 t b n
/-- a loop over what a name owns, which the loop must let be -/
@[irreducible] def yForO (get : σ → List α) (put : σ → List α → σ) (st : σ → α → σ) (b : σ → F σ ρ) : σ → F σ ρ := fun s => match yForL st b (get s) s with
  | .nx s' => .nx (put s' (get s))
  | .rt r s' => .rt r s'
  | .exc C xs s' => .exc C xs s'
  | _ => .bad
end

def Keep {σ α : Type} (tb : Nat → Slot σ) (st : σ → α → σ) (ix : Nat) : List Nat → Prop
  | [] => True
  | j :: r => ((tb j).ix ≠ ix ∧ ∀ s a, (tb j).rep (st s a) = (tb j).rep s) ∧ Keep tb st ix r
theorem Keep.at {σ α : Type} {tb : Nat → Slot σ} {st : σ → α → σ} {ix : Nat} : ∀ {D : List Nat}, Keep tb st ix D → ∀ j ∈ D, (tb j).ix ≠ ix ∧ ∀ s a, (tb j).rep (st s a) = (tb j).rep s
  | _ :: _, k, j, hj => by
    rcases List.mem_cons.mp hj with rfl | hj
    · exact k.1
    · exact Keep.at k.2 j hj
  | [], _, _, hj => nomatch hj
theorem pin_set {pin : List Nat} {env : MEnv} {ix : Nat} {v : Option MV} (hp : pin.contains ix = false) : Pin pin env (env.set ix v) := fun k hk => by
  have : ix ≠ k := fun z => by
    subst z
    rw [List.contains_iff_mem.mpr hk] at hp; cases hp
  rw [List.getElem?_set_ne this]
theorem Pin.refl {pin : List Nat} {env : MEnv} : Pin pin env env := fun _ _ => rfl
theorem Pin.trans {pin : List Nat} {e1 e2 e3 : MEnv} (a : Pin pin e1 e2) (b : Pin pin e2 e3) : Pin pin e1 e3 := fun k hk => by rw [b k hk, a k hk]

section
variable {σ : Type} {tb : Nat → Slot σ} {N : Nat} {D D0 : List Nat} {s : σ} {env : MEnv} {h : MH} {fp : Nat → List Nat} {α : Type} {st : σ → α → σ} {a : α} {i ix : Nat} {v : MV} {f : List Nat}
/-- a name set -/
theorem RS.set (R : RS tb N D s env h fp) (hs : subB D0 D = true) (k : Keep tb st ix D0) (hx : (tb i).ix = ix) (hN : ix < N) (hr : ((tb i).rep (st s a)).r v h f) (hn : f.Nodup) (hd : ∀ n ∈ f, ¬ Wn D fp n) :
    RS tb N (i :: D0) (st s a) (env.set ix (some v)) h (fun j => if j = i then f else fp j) ∧ (∀ n, Wn (i :: D0) (fun j => if j = i then f else fp j) n → Wn D fp n ∨ n ∈ f) := by
  have hs := subB_ok hs
  have ni : ∀ j ∈ D0, j ≠ i := fun j hj z => (k.at j hj).1 (by rw [z]; exact hx)
  refine ⟨⟨by rw [List.length_set]; exact R.len, fun j hj => ?_, fun j hj => ?_, fun j hj l hl hjl n hn1 hn2 => ?_⟩, fun n ⟨j, hj, hn⟩ => ?_⟩
  · rcases List.mem_cons.mp hj with rfl | hj
    · exact ⟨v, by rw [hx, List.getElem?_set_self (by rw [R.len]; exact hN)], by rw [if_pos rfl]; exact hr⟩
    · obtain ⟨k1, k2⟩ := k.at j hj
      obtain ⟨w, e1, e2⟩ := R.ok j (hs j hj)
      exact ⟨w, by rw [List.getElem?_set_ne (Ne.symm k1)]; exact e1, by rw [if_neg (ni j hj), k2]; exact e2⟩
  · rcases List.mem_cons.mp hj with rfl | hj
    · show (if _ = _ then f else _).Nodup
      rw [if_pos rfl]; exact hn
    · show (if _ = _ then f else _).Nodup
      rw [if_neg (ni j hj)]; exact R.nd j (hs j hj)
  · have hn1 : n ∈ if j = i then f else fp j := hn1
    have hn2 : n ∈ if l = i then f else fp l := hn2
    rcases List.mem_cons.mp hj with ej | hj'
    · rcases List.mem_cons.mp hl with el | hl'
      · exact hjl (ej.trans el.symm)
      · rw [if_pos ej] at hn1
        rw [if_neg (ni l hl')] at hn2
        exact hd n hn1 ⟨l, hs l hl', hn2⟩
    · rw [if_neg (ni j hj')] at hn1
      rcases List.mem_cons.mp hl with el | hl'
      · rw [if_pos el] at hn2
        exact hd n hn2 ⟨j, hs j hj', hn1⟩
      · rw [if_neg (ni l hl')] at hn2
        exact R.dj j (hs j hj') l (hs l hl') hjl n hn1 hn2
  · have hn : n ∈ if j = i then f else fp j := hn
    rcases List.mem_cons.mp hj with rfl | hj
    · rw [if_pos rfl] at hn; exact .inr hn
    · rw [if_neg (ni j hj)] at hn; exact .inl ⟨j, hs j hj, hn⟩
end

section
variable {σ ρ : Type} {c : Cx σ ρ} {D D' D0 D1 D2 : List Nat} {α β γ : Type} {e e1 e2 : ME} {a b m : MS} {pa pb : σ → F σ ρ} {p : σ → X σ α} {va : α → MV} {ea : Enc α} {st : σ → α → σ} {i ix : Nat}
theorem ts_nil : TS c D sNil yNil D := by with_unfolding_all exact (fun s env h fp R => ⟨env, h, fp, rfl, R, Fr.refl, Grow.refl, Pin.refl⟩)
/-- what follows on what has been -/
theorem TS.after {s : σ} {env env1 : MEnv} {h h1 : MH} {fp fp1 : Nat → List Nat} (fr : Fr (Wn D fp) h h1) (gr : Grow (Wn D fp) (Wn D1 fp1) h) (pn : Pin c.pin env env1) {m : MS} {p : σ → F σ ρ} {x : OutS} (hx : x = m env1 h1) (R : RS c.tb c.N D1 s env1 h1 fp1) (k : TS c D1 m p D2) :
    match p s with
    | .nx s' => ∃ env' h' fp', x = .ok .nx env' h' ∧ RS c.tb c.N D2 s' env' h' fp' ∧ Fr (Wn D fp) h h' ∧ Grow (Wn D fp) (Wn D2 fp') h ∧ Pin c.pin env env'
    | .bk s' => ∃ env' h' fp', x = .ok .bk env' h' ∧ RS c.tb c.N c.Db s' env' h' fp' ∧ Fr (Wn D fp) h h' ∧ Grow (Wn D fp) (Wn c.Db fp') h ∧ Pin c.pin env env'
    | .ct s' => ∃ env' h' fp', x = .ok .ct env' h' ∧ RS c.tb c.N c.Db s' env' h' fp' ∧ Fr (Wn D fp) h h' ∧ Grow (Wn D fp) (Wn c.Db fp') h ∧ Pin c.pin env env'
    | .rt r s' => ∃ v env' h' f fp', x = .ok (.rt v) env' h' ∧ RS c.tb c.N c.Dr s' env' h' fp' ∧ (c.er r).r v h' f ∧ f.Nodup ∧ (∀ n ∈ f, ¬ Wn c.Dr fp' n) ∧ Fr (Wn D fp) h h' ∧ Grow (Wn D fp) (fun n => Wn c.Dr fp' n ∨ n ∈ f) h ∧ Pin c.pin env env'
    | .exc C xs s' => ∃ env' h' fp', x = .exc C xs env' h' ∧ RS c.tb c.N c.Dx s' env' h' fp' ∧ Fr (Wn D fp) h h' ∧ Grow (Wn D fp) (Wn c.Dx fp') h ∧ Pin c.pin env env'
    | .bad => True := by
  subst hx
  have z := k s env1 h1 fp1 R
  cases hp : p s with
  | nx s' =>
    rw [hp] at z
    obtain ⟨env', h', fp', e, R', fr', gr', pn'⟩ := z
    exact ⟨env', h', fp', e, R', fr.trans gr fr', gr.trans fr.len gr', pn.trans pn'⟩
  | bk s' =>
    rw [hp] at z
    obtain ⟨env', h', fp', e, R', fr', gr', pn'⟩ := z
    exact ⟨env', h', fp', e, R', fr.trans gr fr', gr.trans fr.len gr', pn.trans pn'⟩
  | ct s' =>
    rw [hp] at z
    obtain ⟨env', h', fp', e, R', fr', gr', pn'⟩ := z
    exact ⟨env', h', fp', e, R', fr.trans gr fr', gr.trans fr.len gr', pn.trans pn'⟩
  | rt r s' =>
    rw [hp] at z
    obtain ⟨v, env', h', f, fp', e, R', er, nd, dj, fr', gr', pn'⟩ := z
    exact ⟨v, env', h', f, fp', e, R', er, nd, dj, fr.trans gr fr', gr.trans fr.len gr', pn.trans pn'⟩
  | exc C xs s' =>
    rw [hp] at z
    obtain ⟨env', h', fp', e, R', fr', gr', pn'⟩ := z
    exact ⟨env', h', fp', e, R', fr.trans gr fr', gr.trans fr.len gr', pn.trans pn'⟩
  | bad => trivial
theorem ts_seq (k1 : TS c D a pa D1) (k2 : TS c D1 b pb D2) : TS c D (sSeq a b) (ySeq pa pb) D2 := fun s env h fp R => by
  have z := k1 s env h fp R
  unfold sSeq ySeq
  cases hp : pa s with
  | nx s' =>
    rw [hp] at z
    obtain ⟨env', h', fp', e, R', fr, gr, pn⟩ := z
    exact TS.after fr gr pn (by rw [e]) R' k2
  | bk s' => rw [hp] at z; obtain ⟨env', h', fp', e, q⟩ := z; exact ⟨env', h', fp', by rw [e], q⟩
  | ct s' => rw [hp] at z; obtain ⟨env', h', fp', e, q⟩ := z; exact ⟨env', h', fp', by rw [e], q⟩
  | rt r s' => rw [hp] at z; obtain ⟨v, env', h', f, fp', e, q⟩ := z; exact ⟨v, env', h', f, fp', by rw [e], q⟩
  | exc C xs s' => rw [hp] at z; obtain ⟨env', h', fp', e, q⟩ := z; exact ⟨env', h', fp', by rw [e], q⟩
  | bad => trivial
/-- an expression ahead of what is done with its value -/
theorem ts_ex {en : Enc α} {f : MV → MH → MEnv → OutS} {m : MS} {g : α → σ → F σ ρ} (hm : ∀ env h, m env h = (e env h).andS env fun v h => f v h env) (k : TX c.tb c.N D e p en) (hx : subB c.Dx D = true)
    (kk : ∀ a s v env h0 h fp0 fp fv, RS c.tb c.N D s env h fp → (en a).r v h fv → fv.Nodup → (∀ n ∈ fv, ¬ Wn D fp n) → Fr (Wn D fp0) h0 h → Grow (Wn D fp0) (fun n => Wn D fp n ∨ n ∈ fv) h0 → match g a s with
      | .nx s' => ∃ env' h' fp', f v h env = .ok .nx env' h' ∧ RS c.tb c.N D2 s' env' h' fp' ∧ Fr (Wn D fp0) h0 h' ∧ Grow (Wn D fp0) (Wn D2 fp') h0 ∧ Pin c.pin env env'
      | .bk s' => ∃ env' h' fp', f v h env = .ok .bk env' h' ∧ RS c.tb c.N c.Db s' env' h' fp' ∧ Fr (Wn D fp0) h0 h' ∧ Grow (Wn D fp0) (Wn c.Db fp') h0 ∧ Pin c.pin env env'
      | .ct s' => ∃ env' h' fp', f v h env = .ok .ct env' h' ∧ RS c.tb c.N c.Db s' env' h' fp' ∧ Fr (Wn D fp0) h0 h' ∧ Grow (Wn D fp0) (Wn c.Db fp') h0 ∧ Pin c.pin env env'
      | .rt r s' => ∃ w env' h' f' fp', f v h env = .ok (.rt w) env' h' ∧ RS c.tb c.N c.Dr s' env' h' fp' ∧ (c.er r).r w h' f' ∧ f'.Nodup ∧ (∀ n ∈ f', ¬ Wn c.Dr fp' n) ∧ Fr (Wn D fp0) h0 h' ∧ Grow (Wn D fp0) (fun n => Wn c.Dr fp' n ∨ n ∈ f') h0 ∧ Pin c.pin env env'
      | .exc C xs s' => ∃ env' h' fp', f v h env = .exc C xs env' h' ∧ RS c.tb c.N c.Dx s' env' h' fp' ∧ Fr (Wn D fp0) h0 h' ∧ Grow (Wn D fp0) (Wn c.Dx fp') h0 ∧ Pin c.pin env env'
      | .bad => True) : TS c D m (fun s => (p s).toF g) D2 := fun s env h fp R => by
  have z := k s env h fp R
  simp only
  cases hp : p s with
  | ok a s' =>
    rw [hp] at z
    obtain ⟨v, h', f', fp', e1, R1, r, nd, dj, fr, gr⟩ := z
    have hm' : m env h = f v h' env := by rw [hm, e1]
    rw [hm']
    exact kk a s' v env h h' fp fp' f' R1 r nd dj fr gr
  | exc C xs s' =>
    rw [hp] at z
    obtain ⟨h', fp', e1, R1, fr, gr⟩ := z
    exact ⟨env, h', fp', by rw [hm, e1], R1.sub (subB_ok hx), fr, gr.sub fun n q => Wn.sub (subB_ok hx) q, Pin.refl⟩
  | bad => trivial
theorem ts_set {en : Enc α} (i : Nat) (k : TX c.tb c.N D e p en) (kp : Keep c.tb st ix D0) (hr : ∀ s a, (c.tb i).rep (st s a) = en a) (hs : subB D0 D = true := by rfl) (hx : (c.tb i).ix = ix := by rfl) (hN : ix < c.N := by decide) (hp : c.pin.contains ix = false := by rfl) (hxx : subB c.Dx D = true := by rfl) :
    TS c D (sSet ix e) (ySet st p) (i :: D0) := by with_unfolding_all exact (ts_ex (f := fun v h env => .ok .nx (env.set ix (some v)) h) (fun env h => rfl) k hxx fun a s v env h0 h fp0 fp fv R r nd dj fr gr => by
  obtain ⟨q1, q2⟩ := R.set hs kp hx hN (by rw [hr]; exact r) nd dj
  exact ⟨_, h, _, rfl, q1, fr, fun n hn => gr n (q2 n hn), pin_set hp⟩)
theorem ts_ret {p : σ → X σ ρ} (k : TX c.tb c.N D e p c.er) (hd : subB c.Dr D = true := by rfl) (hxx : subB c.Dx D = true := by rfl) : TS c D (sRet e) (yRet p) D' := by with_unfolding_all exact (ts_ex (f := fun v h env => .ok (.rt v) env h) (fun env h => rfl) k hxx fun a s v env h0 h fp0 fp fv R r nd dj fr gr =>
  ⟨v, env, h, fv, fp, rfl, R.sub (subB_ok hd), r, nd, fun n hn z => dj n hn (Wn.sub (subB_ok hd) z), fr, gr.sub fun n q => q.imp (Wn.sub (subB_ok hd)) id, Pin.refl⟩)
theorem ts_retN {r : ρ} (hr : ∀ h, (c.er r).r .non h []) (hd : subB c.Dr D = true := by rfl) : TS c D sRetN (yRetC r) D' := by with_unfolding_all exact (fun s env h fp R =>
  ⟨.non, env, h, [], fp, rfl, R.sub (subB_ok hd), hr h, List.nodup_nil, (fun n hn => nomatch hn), Fr.refl, fun n q => q.elim (fun z => .inl (Wn.sub (subB_ok hd) z)) (fun z => nomatch z), Pin.refl⟩)
theorem ts_expr {en : Enc α} (k : TX c.tb c.N D e p en) (hxx : subB c.Dx D = true := by rfl) : TS c D (sExpr e) (yExpr p) D := by with_unfolding_all exact (ts_ex (f := fun v h env => .ok .nx env h) (fun env h => rfl) k hxx fun a s v env h0 h fp0 fp fv R r nd dj fr gr =>
  ⟨env, h, fp, rfl, R, fr, gr.sub fun n q => .inl q, Pin.refl⟩)
theorem ts_break (hd : subB c.Db D = true := by rfl) : TS c D sBreak yBreak D' := by with_unfolding_all exact (fun s env h fp R => ⟨env, h, fp, rfl, R.sub (subB_ok hd), Fr.refl, fun n q => .inl (Wn.sub (subB_ok hd) q), Pin.refl⟩)
theorem ts_cont (hd : subB c.Db D = true := by rfl) : TS c D sCont yCont D' := by with_unfolding_all exact (fun s env h fp R => ⟨env, h, fp, rfl, R.sub (subB_ok hd), Fr.refl, fun n q => .inl (Wn.sub (subB_ok hd) q), Pin.refl⟩)
theorem ts_raise {C : Str} (hd : subB c.Dx D = true := by rfl) : TS c D (sRaise C) (yRaise C) D' := by with_unfolding_all exact (fun s env h fp R => ⟨env, h, fp, rfl, R.sub (subB_ok hd), Fr.refl, fun n q => .inl (Wn.sub (subB_ok hd) q), Pin.refl⟩)
/-- fewer names -/
theorem ts_sub (k : TS c D m pa D1) (hs : subB D2 D1 = true := by rfl) : TS c D m pa D2 := fun s env h fp R => by
  have z := k s env h fp R
  cases hp : pa s with
  | nx s' =>
    rw [hp] at z
    obtain ⟨env', h', fp', e, R', fr, gr, pn⟩ := z
    exact ⟨env', h', fp', e, R'.sub (subB_ok hs), fr, gr.sub fun n q => Wn.sub (subB_ok hs) q, pn⟩
  | bk s' => rw [hp] at z; exact z
  | ct s' => rw [hp] at z; exact z
  | rt r s' => rw [hp] at z; exact z
  | exc C xs s' => rw [hp] at z; exact z
  | bad => trivial
theorem ts_if {t : MT} {pt : σ → X σ Bool} (kt : TXT c.tb c.N D t pt) (k1 : TS c D a pa D1) (k2 : TS c D b pb D2) (h1 : subB D' D1 = true := by rfl) (h2 : subB D' D2 = true := by rfl) (hxx : subB c.Dx D = true := by rfl) : TS c D (sIf t a b) (yIf pt pa pb) D' := fun s env h fp R => by
  have z := kt s env h fp R
  unfold sIf yIf
  cases hp : pt s with
  | ok v s' =>
    rw [hp] at z
    obtain ⟨h', fp', e1, R1, fr, gr⟩ := z
    simp only [X.toF]
    cases v with
    | true =>
      simp only [if_true]
      exact TS.after (m := a) fr gr Pin.refl (by rw [e1]; rfl) R1 (ts_sub k1 h1)
    | false =>
      simp only [Bool.false_eq_true, if_false]
      exact TS.after (m := b) fr gr Pin.refl (by rw [e1]; rfl) R1 (ts_sub k2 h2)
  | exc C xs s' =>
    rw [hp] at z
    obtain ⟨h', fp', e1, R1, fr, gr⟩ := z
    exact ⟨env, h', fp', by rw [e1], R1.sub (subB_ok hxx), fr, gr.sub fun n q => Wn.sub (subB_ok hxx) q, Pin.refl⟩
  | bad => trivial
/-! ### targets -/
def TG (c : Cx σ ρ) {α : Type} (D : List Nat) (g : MG) (st : σ → α → σ) (va : α → MV) (D1 : List Nat) : Prop := ∀ s env h fp a, RS c.tb c.N D s env h fp → ∃ env' fp', g (va a) env h = .ok env' h ∧ RS c.tb c.N D1 (st s a) env' h fp' ∧ (∀ n, Wn D1 fp' n → Wn D fp n) ∧ Pin c.pin env env'
def TGs (c : Cx σ ρ) {α : Type} (D : List Nat) (g : List MG) (st : σ → α → σ) (va : α → List MV) (D1 : List Nat) : Prop := ∀ s env h fp a, RS c.tb c.N D s env h fp → ∃ env' fp', gTp g (va a) env h = .ok env' h ∧ RS c.tb c.N D1 (st s a) env' h fp' ∧ (∀ n, Wn D1 fp' n → Wn D fp n) ∧ Pin c.pin env env'
theorem tg_nm (i : Nat) (kp : Keep c.tb st ix D0) (hr : ∀ s a, (c.tb i).rep (st s a) = fz va a) (hs : subB D0 D = true := by rfl) (hx : (c.tb i).ix = ix := by rfl) (hN : ix < c.N := by decide) (hp : c.pin.contains ix = false := by rfl) : TG c D (gNm ix) st va (i :: D0) := fun s env h fp a R => by
  obtain ⟨q1, q2⟩ := R.set (v := va a) (f := []) (a := a) hs kp hx hN (by rw [hr]; exact ⟨rfl, rfl⟩) List.nodup_nil (fun n hn => nomatch hn)
  exact ⟨_, _, rfl, q1, (fun n hn => (q2 n hn).elim id fun z => nomatch z), pin_set hp⟩
theorem tgs_one {g : MG} (k : TG c D g st va D1) : TGs c D [g] st (fun a => [va a]) D1 := fun s env h fp a R => by
  obtain ⟨env', fp', e, q⟩ := k s env h fp a R
  exact ⟨env', fp', by unfold gTp; rw [e]; rfl, q⟩
theorem tgs_cons {g : MG} {gs : List MG} {stb : σ → β → σ} {vs : β → List MV} (k1 : TG c D g st va D1) (k2 : TGs c D1 gs stb vs D2) : TGs c D (g :: gs) (fun s (x : α × β) => stb (st s x.1) x.2) (fun x => va x.1 :: vs x.2) D2 := fun s env h fp x R => by
  obtain ⟨env', fp', e, R1, w1, p1⟩ := k1 s env h fp x.1 R
  obtain ⟨env2, fp2, e2, R2, w2, p2⟩ := k2 _ env' h fp' x.2 R1
  exact ⟨env2, fp2, by unfold gTp; rw [e]; exact e2, R2, fun n q => w1 n (w2 n q), p1.trans p2⟩
theorem tg_tup {gs : List MG} {vs : α → List MV} (k : TGs c D gs st vs D1) (hv : ∀ a, va a = .tup (vs a) := by intro _; rfl) : TG c D (gTup gs) st va D1 := fun s env h fp a R => by
  obtain ⟨env', fp', e, q⟩ := k s env h fp a R
  exact ⟨env', fp', by rw [hv]; exact e, q⟩
theorem ts_asg {g : MG} (k : TX c.tb c.N D e p (fz va)) (kg : TG c D g st va D1) (hxx : subB c.Dx D = true := by rfl) : TS c D (sAsg e g) (ySet st p) D1 := by with_unfolding_all exact (ts_ex (f := fun v h env => (g v env h).andS env fun env' h => .ok .nx env' h) (fun env h => rfl) k hxx fun a s v env h0 h fp0 fp fv R r nd dj fr gr => by
  obtain ⟨env', fp', e, R1, w1, p1⟩ := kg s env h fp a R
  exact ⟨env', h, fp', by rw [r.1, e], R1, fr, fun n q => gr n (.inl (w1 n q)), p1⟩)
/-! ### loops -/
abbrev Cx.lp (c : Cx σ ρ) (Dl : List Nat) : Cx σ ρ := { c with Db := Dl }
/-- rows to walk through -/
def TXI (tb : Nat → Slot σ) (N : Nat) (D : List Nat) (it : MIt) (p : σ → X σ (List α)) (va : α → MV) : Prop := ∀ s env h fp, RS tb N D s env h fp → match p s with
  | .ok a s' => ∃ h' fp', it env h = .ok (.st (a.map va)) h' ∧ RS tb N D s' env h' fp' ∧ Fr (Wn D fp) h h' ∧ Grow (Wn D fp) (Wn D fp') h
  | .exc C xs s' => ∃ h' fp', it env h = .exc C xs h' ∧ RS tb N D s' env h' fp' ∧ Fr (Wn D fp) h h' ∧ Grow (Wn D fp) (Wn D fp') h
  | .bad => True
theorem ti_seq {va' : List α → MV} {tb : Nat → Slot σ} {N : Nat} {p : σ → X σ (List α)} (hs : ∀ xs env h, iSeq (mC (va' xs)) env h = .ok (.st (xs.map va)) h) (k : TX tb N D e p (fz va')) : TXI tb N D (iSeq e) p va := fun s env h fp R => by
  have z := k s env h fp R
  cases hp : p s with
  | ok a s' =>
    rw [hp] at z
    obtain ⟨v, h', f', fp', e1, R1, r, _, _, fr, gr⟩ := z
    refine ⟨h', fp', ?_, R1, fr, gr.sub fun n q => .inl q⟩
    have := hs a env h'
    unfold iSeq mC at this
    unfold iSeq
    rw [e1, r.1]
    exact this
  | exc C xs s' =>
    rw [hp] at z
    obtain ⟨h', fp', e1, R1, fr, gr⟩ := z
    exact ⟨h', fp', by unfold iSeq; rw [e1], R1, fr, gr⟩
  | bad => trivial
theorem ti_t {tb : Nat → Slot σ} {N : Nat} {p : σ → X σ (List α)} (k : TX tb N D e p (fz (tV va))) : TXI tb N D (iSeq e) p va := ti_seq (fun _ _ _ => rfl) k
theorem ti_l {tb : Nat → Slot σ} {N : Nat} {p : σ → X σ (List α)} (k : TX tb N D e p (fz (lV va))) : TXI tb N D (iSeq e) p va := ti_seq (fun _ _ _ => rfl) k
theorem ti_s {tb : Nat → Slot σ} {N : Nat} {p : σ → X σ (List α)} (k : TX tb N D e p (fz (sV va))) : TXI tb N D (iSeq e) p va := ti_seq (fun _ _ _ => rfl) k
/-- the parts of a tuple or list of known length -/
theorem ti_parts {γ : Type} {vg : γ → MV} {tb : Nat → Slot σ} {N : Nat} {p : σ → X σ γ} {ps : γ → List α} (hs : ∀ x env h, iSeq (mC (vg x)) env h = .ok (.st ((ps x).map va)) h) (k : TX tb N D e p (fz vg)) : TXI tb N D (iSeq e) (x1 ps p) va := fun s env h fp R => by
  have z := k s env h fp R
  unfold x1
  cases hp : p s with
  | ok a s' =>
    rw [hp] at z
    obtain ⟨v, h', f', fp', e1, R1, r, _, _, fr, gr⟩ := z
    refine ⟨h', fp', ?_, R1, fr, gr.sub fun n q => .inl q⟩
    have := hs a env h'
    unfold iSeq mC at this
    unfold iSeq
    rw [e1, r.1]
    exact this
  | exc C xs s' =>
    rw [hp] at z
    obtain ⟨h', fp', e1, R1, fr, gr⟩ := z
    exact ⟨h', fp', by unfold iSeq; rw [e1], R1, fr, gr⟩
  | bad => trivial
def rng (lo : Int) (n : Nat) : List Int := (List.range n).map fun k : Nat => lo + (k : Int)
theorem rng_map {lo : Int} {n : Nat} : rangeM lo n = (rng lo n).map .int := by
  unfold rangeM rng; rw [List.map_map]; rfl
@[irreducible] def gRng1 (x : Int × Unit) : Option (List Int) := if -(2 ^ 62) ≤ x.1 ∧ x.1 < 2 ^ 62 then some (rng 0 x.1.toNat) else none
@[irreducible] def gRng2 (x : Int × Int × Unit) : Option (List Int) := if -(2 ^ 62) ≤ x.1 ∧ x.1 < 2 ^ 62 ∧ -(2 ^ 62) ≤ x.2.1 ∧ x.2.1 < 2 ^ 62 then some (rng x.1 (x.2.1 - x.1).toNat) else none
theorem ti_args {tb : Nat → Slot σ} {N : Nat} {ms : MA} {it : MA → MIt} {β : Type} {vs : β → List MV} {g : β → Option (List α)} {q : σ → X σ β} (o : ∀ ms env h, (∀ b xs h', ms env h = .ok (vs b) h' → g b = some xs → it ms env h = .ok (.st (xs.map va)) h') ∧ ∀ C xs h', ms env h = .exc C xs h' → it ms env h = .exc C xs h') (k : TXA tb N D ms q vs) : TXI tb N D (it ms) (x1o g q) va := fun s env h fp R => by
  have z := k s env h fp R
  unfold x1o
  cases hq : q s with
  | ok a s' =>
    rw [hq] at z
    obtain ⟨h', fp', e1, R1, fr, gr⟩ := z
    simp only [X.bind]
    cases hg : g a with
    | none => trivial
    | some b => exact ⟨h', fp', (o ms env h).1 a b h' e1 hg, R1, fr, gr⟩
  | exc C xs s' =>
    rw [hq] at z
    obtain ⟨h', fp', e1, R1, fr, gr⟩ := z
    exact ⟨h', fp', (o ms env h).2 C xs h' e1, R1, fr, gr⟩
  | bad => trivial
theorem ti_range1 {tb : Nat → Slot σ} {N : Nat} {ms : MA} {q : σ → X σ (Int × Unit)} (k : TXA tb N D ms q (fun x => .int x.1 :: [])) : TXI tb N D (iRange1 ms) (x1o gRng1 q) .int := ti_args (fun ms env h => ⟨(fun b xs h' e g => by
  unfold gRng1 at g
  by_cases c : -(2 ^ 62) ≤ b.1 ∧ b.1 < 2 ^ 62
  · rw [if_pos c] at g; cases g
    rw [it_range1 e c, rng_map]
  · rw [if_neg c] at g; cases g), fun C xs h' e => by unfold iRange1; rw [e]⟩) k
theorem ti_range2 {tb : Nat → Slot σ} {N : Nat} {ms : MA} {q : σ → X σ (Int × Int × Unit)} (k : TXA tb N D ms q (fun x => .int x.1 :: .int x.2.1 :: [])) : TXI tb N D (iRange2 ms) (x1o gRng2 q) .int := ti_args (fun ms env h => ⟨(fun b xs h' e g => by
  unfold gRng2 at g
  by_cases c : -(2 ^ 62) ≤ b.1 ∧ b.1 < 2 ^ 62 ∧ -(2 ^ 62) ≤ b.2.1 ∧ b.2.1 < 2 ^ 62
  · rw [if_pos c] at g; cases g
    rw [it_range2 e c, rng_map]
  · rw [if_neg c] at g; cases g), fun C xs h' e => by unfold iRange2; rw [e]⟩) k
theorem tsl_for {Dl : List Nat} {g : MG} {va : α → MV} (kg : TG (c.lp Dl) Dl g st va D1) (kb : TS (c.lp Dl) D1 m pa D2) (h2 : subB Dl D2 = true) : ∀ xs : List α, TS c Dl (sForL g m (xs.map va)) (yForL st pa xs) Dl
  | [] => by with_unfolding_all exact ts_nil
  | x :: xs => fun s env h fp R => by
    obtain ⟨env1, fp1, e1, R1, w1, p1⟩ := kg s env h fp x R
    have fr1 : Fr (Wn Dl fp) h h := Fr.refl
    have gr1 : Grow (Wn Dl fp) (Wn D1 fp1) h := fun n q => .inl (w1 n q)
    have z := TS.after (c := c.lp Dl) (x := m env1 h) fr1 gr1 p1 rfl R1 (ts_sub kb h2)
    have ih := tsl_for kg kb h2 xs
    have hm : sForL g m ((x :: xs).map va) env h = match m env1 h with
        | .ok .nx env' h' => sForL g m (xs.map va) env' h'
        | .ok .ct env' h' => sForL g m (xs.map va) env' h'
        | .ok .bk env' h' => .ok .nx env' h'
        | o => o := by
      show ((g (va x) env h).andS env _) = _
      rw [e1] <;> rfl
    rw [hm]
    unfold yForL
    cases hp : pa (st s x) with
    | nx s' =>
      rw [hp] at z
      obtain ⟨env', h', fp', e, R', fr, gr, pn⟩ := z
      exact TS.after (c := c) (m := sForL g m (xs.map va)) fr gr pn (by rw [e]) R' ih
    | ct s' =>
      rw [hp] at z
      obtain ⟨env', h', fp', e, R', fr, gr, pn⟩ := z
      exact TS.after (c := c) (m := sForL g m (xs.map va)) fr gr pn (by rw [e]) R' ih
    | bk s' => rw [hp] at z; obtain ⟨env', h', fp', e, q⟩ := z; exact ⟨env', h', fp', by rw [e], q⟩
    | rt r s' => rw [hp] at z; obtain ⟨v, env', h', f, fp', e, q⟩ := z; exact ⟨v, env', h', f, fp', by rw [e], q⟩
    | exc C xs s' => rw [hp] at z; obtain ⟨env', h', fp', e, q⟩ := z; exact ⟨env', h', fp', by rw [e], q⟩
    | bad => trivial
theorem ts_for {Dl : List Nat} {it : MIt} {g : MG} {va : α → MV} {pi : σ → X σ (List α)} (ki : TXI c.tb c.N D it pi va) (kg : TG (c.lp Dl) Dl g st va D1) (kb : TS (c.lp Dl) D1 m pa D2) (h0 : subB Dl D = true := by rfl) (h2 : subB Dl D2 = true := by rfl) (hxx : subB c.Dx D = true := by rfl) : TS c D (sFor it g m) (yFor pi st pa) Dl := fun s env h fp R => by
  have z := ki s env h fp R
  unfold sFor yFor
  cases hp : pi s with
  | ok xs s' =>
    rw [hp] at z
    obtain ⟨h', fp', e1, R1, fr, gr⟩ := z
    simp only [X.toF]
    rw [e1]
    exact TS.after (m := sForL g m (xs.map va)) fr (gr.sub fun n q => Wn.sub (subB_ok h0) q) Pin.refl rfl (R1.sub (subB_ok h0)) (tsl_for kg kb h2 xs)
  | exc C xs s' =>
    rw [hp] at z
    obtain ⟨h', fp', e1, R1, fr, gr⟩ := z
    exact ⟨env, h', fp', by rw [e1], R1.sub (subB_ok hxx), fr, gr.sub fun n q => Wn.sub (subB_ok hxx) q, Pin.refl⟩
  | bad => trivial
theorem tsl_while {Dl : List Nat} {t : MT} {pt : σ → X σ Bool} (kt : TXT c.tb c.N Dl t pt) (kb : TS (c.lp Dl) Dl m pa D2) (h2 : subB Dl D2 = true) (hxx : subB c.Dx Dl = true) : ∀ n : Nat, TS c Dl (sWhile t m n) (yWhile0 pt pa n) Dl
  | 0 => fun s env h fp R => trivial
  | n + 1 => fun s env h fp R => by
    have z := kt s env h fp R
    have ih := tsl_while kt kb h2 hxx n
    unfold sWhile yWhile0
    cases hp : pt s with
    | ok v s' =>
      rw [hp] at z
      obtain ⟨h', fp', e1, R1, fr, gr⟩ := z
      simp only [X.toF]
      rw [e1]
      simp only [Out.andS]
      cases v with
      | false => simp only [Bool.false_eq_true, if_false]; exact ⟨env, h', fp', rfl, R1, fr, gr, Pin.refl⟩
      | true =>
        simp only [if_true]
        have z2 := TS.after (c := c.lp Dl) (x := m env h') fr gr Pin.refl rfl R1 (ts_sub kb h2)
        cases hb : pa s' with
        | nx s2 =>
          rw [hb] at z2
          obtain ⟨env', h2, fp2, e, R2, fr2, gr2, pn2⟩ := z2
          exact TS.after (c := c) (m := sWhile t m n) fr2 gr2 pn2 (by rw [e]) R2 ih
        | ct s2 =>
          rw [hb] at z2
          obtain ⟨env', h2, fp2, e, R2, fr2, gr2, pn2⟩ := z2
          exact TS.after (c := c) (m := sWhile t m n) fr2 gr2 pn2 (by rw [e]) R2 ih
        | bk s2 => rw [hb] at z2; obtain ⟨env', h', fp', e, q⟩ := z2; exact ⟨env', h', fp', by rw [e], q⟩
        | rt r s2 => rw [hb] at z2; obtain ⟨v, env', h', f, fp', e, q⟩ := z2; exact ⟨v, env', h', f, fp', by rw [e], q⟩
        | exc C xs s2 => rw [hb] at z2; obtain ⟨env', h', fp', e, q⟩ := z2; exact ⟨env', h', fp', by rw [e], q⟩
        | bad => trivial
    | exc C xs s' =>
      rw [hp] at z
      obtain ⟨h', fp', e1, R1, fr, gr⟩ := z
      exact ⟨env, h', fp', by rw [e1], R1.sub (subB_ok hxx), fr, gr.sub fun n q => Wn.sub (subB_ok hxx) q, Pin.refl⟩
    | bad => trivial
theorem ts_while {Dl : List Nat} {t : MT} {pt : σ → X σ Bool} {n : Nat} (kt : TXT c.tb c.N Dl t pt) (kb : TS (c.lp Dl) Dl m pa D2) (h0 : subB Dl D = true := by rfl) (h2 : subB Dl D2 = true := by rfl) (hxx : subB c.Dx Dl = true := by rfl) : TS c D (sWhile t m n) (yWhile pt pa n) Dl := by
  unfold yWhile
  exact fun s env h fp R => TS.after (m := sWhile t m n) Fr.refl (fun n q => .inl (Wn.sub (subB_ok h0) q)) Pin.refl rfl (R.sub (subB_ok h0)) (tsl_while kt kb h2 hxx n)
end
end Ty
/-! ## TyE -/
set_option Elab.async false
set_option linter.all false
set_option maxRecDepth 100000
/-! Ty, part E: calls, methods of lists, freezing. -/
namespace Ty
open PySem PySem.Spec PyProof.Rows L2 Mn

/-! ### parameters: frozen ones, and ones that are changed -/
inductive PSpec : Type → Type → Type 1 where
  | nil : PSpec Unit Unit
  | fr {I A α : Type} (va : α → MV) (r : PSpec I A) : PSpec I (α × A)
  | io {I A α : Type} (e : Enc α) (r : PSpec I A) : PSpec (α × I) A
def PSpec.rep : {I A : Type} → PSpec I A → I → A → List MV → MH → List (List Nat) → Prop
  | _, _, .nil, _, _, ds, _, fps => ds = [] ∧ fps = []
  | _, _, .fr va r, i, a, ds, h, fps => ∃ ds', ds = va a.1 :: ds' ∧ r.rep i a.2 ds' h fps
  | _, _, .io e r, i, a, ds, h, fps => ∃ v ds' f fps', ds = v :: ds' ∧ fps = f :: fps' ∧ (e i.1).r v h f ∧ r.rep i.2 a ds' h fps'
def PSpec.len : {I A : Type} → PSpec I A → Nat
  | _, _, .nil => 0
  | _, _, .fr _ r => r.len + 1
  | _, _, .io _ r => r.len + 1
theorem PSpec.rep_len : ∀ {I A : Type} (ps : PSpec I A) {i : I} {a : A} {ds : List MV} {h : MH} {fps : List (List Nat)}, ps.rep i a ds h fps → ds.length = ps.len
  | _, _, .nil, _, _, _, _, _, q => by rw [q.1]; rfl
  | _, _, .fr _ r, _, _, _, _, _, q => by obtain ⟨_, e, q⟩ := q; rw [e, List.length_cons, r.rep_len q]; rfl
  | _, _, .io _ r, _, _, _, _, _, q => by obtain ⟨_, _, _, _, e, _, _, q⟩ := q; rw [e, List.length_cons, r.rep_len q]; rfl
theorem PSpec.frame : ∀ {I A : Type} (ps : PSpec I A) {i : I} {a : A} {ds : List MV} {h h' : MH} {fps : List (List Nat)}, ps.rep i a ds h fps → (∀ n ∈ fps.flatten, h'[n]? = h[n]?) → ps.rep i a ds h' fps
  | _, _, .nil, _, _, _, _, _, _, q, _ => q
  | _, _, .fr _ r, _, _, _, _, _, _, q, k => by obtain ⟨_, e, q⟩ := q; exact ⟨_, e, r.frame q k⟩
  | _, _, .io ee r, _, _, _, _, _, _, q, k => by
    obtain ⟨v, ds', f, fps', e, e2, q1, q2⟩ := q
    subst e2
    rw [List.flatten_cons] at k
    exact ⟨v, ds', f, fps', e, rfl, (ee _).frame q1 fun n hn => k n (List.mem_append_left _ hn), r.frame q2 fun n hn => k n (List.mem_append_right _ hn)⟩
/-- what a function does -/
def TFun {I A ρ : Type} (ps : PSpec I A) (m : MF) (fn : I → A → X I ρ) (er : Enc ρ) : Prop := ∀ i a ds h fps, ps.rep i a ds h fps → fps.flatten.Nodup → match fn i a with
  | .ok r i' => ∃ v h' fps' f, m ds h = .ok v h' ∧ ps.rep i' a ds h' fps' ∧ (er r).r v h' f ∧ (f ++ fps'.flatten).Nodup ∧ Fr (· ∈ fps.flatten) h h' ∧ Grow (· ∈ fps.flatten) (fun n => n ∈ fps'.flatten ∨ n ∈ f) h
  | .exc C xs i' => ∃ h' fps', m ds h = .exc C xs h' ∧ ps.rep i' a ds h' fps' ∧ fps'.flatten.Nodup ∧ Fr (· ∈ fps.flatten) h h' ∧ Grow (· ∈ fps.flatten) (· ∈ fps'.flatten) h
  | .bad => True

/-! ### a function's own text -/
section
variable {σ : Type}
/-- the names of the parameters at the beginning -/
def PIn (tb : Nat → Slot σ) : {I A : Type} → PSpec I A → Nat → σ → I → A → Prop
  | _, _, .nil, _, _, _, _ => True
  | _, _, .fr va r, k, s, i, a => ((tb k).ix = k ∧ (tb k).rep s = fz va a.1) ∧ PIn tb r (k + 1) s i a.2
  | _, _, .io e r, k, s, i, a => ((tb k).ix = k ∧ (tb k).rep s = e i.1) ∧ PIn tb r (k + 1) s i.2 a
/-- the changed ones at the end -/
def POut (tb : Nat → Slot σ) : {I A : Type} → PSpec I A → Nat → σ → I → Prop
  | _, _, .nil, _, _, _ => True
  | _, _, .fr va r, k, s, i => POut tb r (k + 1) s i
  | _, _, .io e r, k, s, i => ((tb k).ix = k ∧ (tb k).rep s = e i.1) ∧ POut tb r (k + 1) s i.2
def PSpec.ios : {I A : Type} → PSpec I A → Nat → List Nat
  | _, _, .nil, _ => []
  | _, _, .fr _ r, k => r.ios (k + 1)
  | _, _, .io _ r, k => k :: r.ios (k + 1)
def PSpec.fpp : {I A : Type} → PSpec I A → Nat → List (List Nat) → Nat → List Nat
  | _, _, .nil, _, _ => fun _ => []
  | _, _, .fr _ r, k, fps => fun j => if j = k then [] else r.fpp (k + 1) fps j
  | _, _, .io _ r, k, fps => fun j => if j = k then fps.headD [] else r.fpp (k + 1) fps.tail j
theorem fpp_mem : ∀ {I A : Type} (ps : PSpec I A) (k : Nat) {i : I} {a : A} {ds : List MV} {h : MH} {fps : List (List Nat)}, ps.rep i a ds h fps → ∀ j n, n ∈ ps.fpp k fps j → n ∈ fps.flatten
  | _, _, .nil, _, _, _, _, _, _, _, _, _, hn => nomatch hn
  | _, _, .fr _ r, k, _, _, _, _, _, q, j, n, hn => by
    obtain ⟨_, _, q⟩ := q
    unfold PSpec.fpp at hn
    split at hn
    · cases hn
    · exact fpp_mem r (k + 1) q j n hn
  | _, _, .io _ r, k, _, _, _, _, _, q, j, n, hn => by
    obtain ⟨_, _, f, fps', _, e, _, q⟩ := q
    subst e
    unfold PSpec.fpp at hn
    rw [List.flatten_cons]
    split at hn
    · exact List.mem_append_left _ hn
    · exact List.mem_append_right _ (fpp_mem r (k + 1) q j n hn)
theorem fpp_nd : ∀ {I A : Type} (ps : PSpec I A) (k : Nat) {i : I} {a : A} {ds : List MV} {h : MH} {fps : List (List Nat)}, ps.rep i a ds h fps → fps.flatten.Nodup → (∀ j, (ps.fpp k fps j).Nodup) ∧ ∀ j l, j ≠ l → ∀ n ∈ ps.fpp k fps j, n ∉ ps.fpp k fps l
  | _, _, .nil, _, _, _, _, _, _, _, _ => ⟨fun _ => List.nodup_nil, fun _ _ _ _ hn => nomatch hn⟩
  | _, _, .fr _ r, k, _, _, _, _, _, q, nd => by
    obtain ⟨_, _, q⟩ := q
    obtain ⟨i1, i2⟩ := fpp_nd r (k + 1) q nd
    refine ⟨fun j => ?_, fun j l hjl n hn hm => ?_⟩
    · unfold PSpec.fpp; split
      · exact List.nodup_nil
      · exact i1 j
    · unfold PSpec.fpp at hn hm
      split at hn
      · cases hn
      · split at hm
        · cases hm
        · exact i2 j l hjl n hn hm
  | _, _, .io _ r, k, _, _, _, _, _, q, nd => by
    obtain ⟨_, _, f, fps', _, e, _, q⟩ := q
    subst e
    rw [List.flatten_cons, List.nodup_append] at nd
    obtain ⟨i1, i2⟩ := fpp_nd r (k + 1) q nd.2.1
    refine ⟨fun j => ?_, fun j l hjl n hn hm => ?_⟩
    · unfold PSpec.fpp; split
      · exact nd.1
      · exact i1 j
    · unfold PSpec.fpp at hn hm
      split at hn
      · rename_i ej
        rw [if_neg (fun z => hjl (ej.trans z.symm))] at hm
        exact nd.2.2 n hn n (fpp_mem r (k + 1) q l n hm) rfl
      · split at hm
        · exact nd.2.2 n hm n (fpp_mem r (k + 1) q j n hn) rfl
        · exact i2 j l hjl n hn hm
theorem pin_ok {tb : Nat → Slot σ} {s : σ} {N : Nat} : ∀ {I A : Type} (ps : PSpec I A) (k : Nat) {i : I} {a : A} {ds pre : List MV} {h : MH} {fps : List (List Nat)}, PIn tb ps k s i a → ps.rep i a ds h fps → pre.length = k → ∀ j, k ≤ j → j < k + ps.len → ∃ v, ((pre ++ ds).map some ++ List.replicate N none)[(tb j).ix]? = some (some v) ∧ ((tb j).rep s).r v h (ps.fpp k fps j)
  | _, _, .nil, k, _, _, _, _, _, _, _, _, _, j, h1, h2 => by unfold PSpec.len at h2; omega
  | _, _, .fr va r, k, _, a, _, pre, _, _, p, q, hl, j, h1, h2 => by
    obtain ⟨ds', e, q⟩ := q
    subst e
    unfold PSpec.len at h2
    by_cases hj : j = k
    · subst hj
      obtain ⟨⟨p1, p2⟩, _⟩ := p
      refine ⟨va a.1, ?_, ?_⟩
      · rw [p1, ← hl]; simp
      · rw [p2]; unfold PSpec.fpp; rw [if_pos rfl]; exact ⟨rfl, rfl⟩
    · obtain ⟨_, p3⟩ := p
      have := pin_ok (tb := tb) (s := s) (N := N) r (k + 1) (pre := pre ++ [va a.1]) p3 q (by simp [hl]) j (by omega) (by omega)
      unfold PSpec.fpp; rw [if_neg hj]
      simpa using this
  | _, _, .io ee r, k, i, a, _, pre, _, _, p, q, hl, j, h1, h2 => by
    obtain ⟨v, ds', f, fps', e, e2, q1, q2⟩ := q
    subst e; subst e2
    unfold PSpec.len at h2
    by_cases hj : j = k
    · subst hj
      obtain ⟨⟨p1, p2⟩, _⟩ := p
      refine ⟨v, ?_, ?_⟩
      · rw [p1, ← hl]; simp
      · rw [p2]; unfold PSpec.fpp; rw [if_pos rfl]; exact q1
    · obtain ⟨_, p3⟩ := p
      have := pin_ok (tb := tb) (s := s) (N := N) r (k + 1) (pre := pre ++ [v]) p3 q2 (by simp [hl]) j (by omega) (by omega)
      unfold PSpec.fpp; rw [if_neg hj]
      simpa using this
theorem ios_ge : ∀ {I A : Type} (ps : PSpec I A) (k : Nat), ∀ j ∈ ps.ios k, k ≤ j
  | _, _, .nil, _, _, h => nomatch h
  | _, _, .fr _ r, k, j, h => Nat.le_of_succ_le (ios_ge r (k + 1) j h)
  | _, _, .io _ r, k, j, h => by
    rcases List.mem_cons.mp h with rfl | h
    · exact Nat.le_refl _
    · exact Nat.le_of_succ_le (ios_ge r (k + 1) j h)
/-- at the end -/
theorem pout_ok {tb : Nat → Slot σ} {N : Nat} {s : σ} {env : MEnv} {h : MH} {fp : Nat → List Nat} {D : List Nat} (R : RS tb N D s env h fp) : ∀ {I A : Type} (ps : PSpec I A) (k : Nat) {i0 i : I} {a : A} {ds : List MV} {h0 : MH} {fps0 : List (List Nat)}, POut tb ps k s i → ps.rep i0 a ds h0 fps0 → (∀ j ∈ ps.ios k, j ∈ D) → (∀ j ∈ ps.ios k, env[j]? = (ds[j - k]?).map some) → ps.rep i a ds h ((ps.ios k).map fp)
  | _, _, .nil, _, _, _, _, _, _, _, _, q, _, _ => ⟨q.1, rfl⟩
  | _, _, .fr va r, k, i0, i, a, _, h0, fps0, p, q, hd, hp => by
    obtain ⟨ds', e, q⟩ := q
    subst e
    refine ⟨ds', rfl, pout_ok R r (k + 1) p q hd fun j hj => ?_⟩
    have g := ios_ge r (k + 1) j hj
    rw [hp j hj, show j - k = (j - (k + 1)) + 1 by omega]; rfl
  | _, _, .io ee r, k, i0, i, a, _, h0, fps0, p, q, hd, hp => by
    obtain ⟨⟨p1, p2⟩, p3⟩ := p
    obtain ⟨v, ds', f, fps', e, e2, q1, q2⟩ := q
    subst e; subst e2
    obtain ⟨w, w1, w2⟩ := R.ok k (hd k (List.mem_cons_self ..))
    have e0 := hp k (List.mem_cons_self ..)
    rw [p1] at w1
    rw [w1, Nat.sub_self] at e0
    have e0 : some (some w) = some (some v) := e0
    have e0 : w = v := Option.some.inj (Option.some.inj e0)
    subst e0
    refine ⟨w, ds', fp k, _, rfl, rfl, by rw [← p2]; exact w2, pout_ok R r (k + 1) p3 q2 (fun j hj => hd j (List.mem_cons_of_mem _ hj)) fun j hj => ?_⟩
    have g := ios_ge r (k + 1) j hj
    rw [hp j (List.mem_cons_of_mem _ hj), show j - k = (j - (k + 1)) + 1 by omega]; rfl
theorem ios_nd : ∀ {I A : Type} (ps : PSpec I A) (k : Nat), (ps.ios k).Nodup
  | _, _, .nil, _ => List.nodup_nil
  | _, _, .fr _ r, k => ios_nd r (k + 1)
  | _, _, .io _ r, k => List.nodup_cons.mpr ⟨fun h => by have := ios_ge r (k + 1) k h; omega, ios_nd r (k + 1)⟩
theorem map_nd {tb : Nat → Slot σ} {N : Nat} {s : σ} {env : MEnv} {h : MH} {fp : Nat → List Nat} {D : List Nat} (R : RS tb N D s env h fp) : ∀ L : List Nat, L.Nodup → (∀ j ∈ L, j ∈ D) → (L.map fp).flatten.Nodup
  | [], _, _ => List.nodup_nil
  | j :: L, nd, hd => by
    obtain ⟨n1, n2⟩ := List.nodup_cons.mp nd
    rw [List.map_cons, List.flatten_cons, List.nodup_append]
    refine ⟨R.nd j (hd j (List.mem_cons_self ..)), map_nd R L n2 fun l hl => hd l (List.mem_cons_of_mem _ hl), fun n hn m hm e => ?_⟩
    subst e
    obtain ⟨q, hq, hm⟩ := List.mem_flatten.mp hm
    obtain ⟨l, hl, rfl⟩ := List.mem_map.mp hq
    exact R.dj j (hd j (List.mem_cons_self ..)) l (hd l (List.mem_cons_of_mem _ hl)) (fun z => n1 (z ▸ hl)) n hn hm
theorem mem_map_fp {fp : Nat → List Nat} {L : List Nat} {n : Nat} : n ∈ (L.map fp).flatten ↔ Wn L fp n := by
  constructor
  · intro h
    obtain ⟨q, hq, hm⟩ := List.mem_flatten.mp h
    obtain ⟨l, hl, rfl⟩ := List.mem_map.mp hq
    exact ⟨l, hl, hm⟩
  · rintro ⟨l, hl, hm⟩
    exact List.mem_flatten.mpr ⟨_, List.mem_map.mpr ⟨l, hl, rfl⟩, hm⟩
end

/-- a typed function of a typed text; what falls off the end is d -/
@[irreducible] def yRun {σ I A ρ : Type} (init : I → A → σ) (out : σ → I) (d : Option ρ) (b : σ → F σ ρ) : I → A → X I ρ := fun i a => match b (init i a) with
  | .rt r s => .ok r (out s)
  | .nx s => match d with
    | some r => .ok r (out s)
    | none => .bad
  | .exc C xs s => .exc C xs (out s)
  | _ => .bad
theorem tf_mk {σ I A ρ : Type} {c : Cx σ ρ} {ps : PSpec I A} {D0 D1 : List Nat} {m : MS} {b : σ → F σ ρ} {init : I → A → σ} {out : σ → I} {d : Option ρ} (kb : TS c D0 m b D1)
    (hin : ∀ i a, PIn c.tb ps 0 (init i a) i a) (hout : ∀ s, POut c.tb ps 0 s (out s)) (hd : ∀ r, d = some r → ∀ h, (c.er r).r .non h []) (h0 : D0 = List.range ps.len := by rfl) (hN : ps.len ≤ c.N := by decide) (hr : c.Dr = ps.ios 0 := by rfl) (hx : c.Dx = ps.ios 0 := by rfl) (hp : c.pin = ps.ios 0 := by rfl) (h1 : subB (ps.ios 0) D1 = true := by rfl) :
    TFun ps (runF c.N m) (yRun init out d b) c.er := fun i a ds h fps q nd => by
  have hl := ps.rep_len q
  have R0 : RS c.tb c.N D0 (init i a) (ds.map some ++ List.replicate (c.N - ds.length) none) h (ps.fpp 0 fps) := by
    obtain ⟨n1, n2⟩ := fpp_nd ps 0 q nd
    refine ⟨by simp; omega, fun j hj => ?_, fun j _ => n1 j, fun j _ l _ hjl => n2 j l hjl⟩
    rw [h0] at hj
    have := pin_ok (N := c.N - ds.length) ps 0 (pre := []) (hin i a) q rfl j (Nat.zero_le _) (by simpa using List.mem_range.mp hj)
    simpa using this
  have w0 : ∀ n, Wn D0 (ps.fpp 0 fps) n → n ∈ fps.flatten := fun n ⟨j, _, hn⟩ => fpp_mem ps 0 q j n hn
  have z := kb _ _ h _ R0
  have ge0 : ∀ j ∈ ps.ios 0, j < ds.length := by
    have gen : ∀ {I A : Type} (ps : PSpec I A) (k : Nat), ∀ j ∈ ps.ios k, j < k + ps.len := by
      intro I A ps
      induction ps with
      | nil => intro k j hj; cases hj
      | fr va r ih => intro k j hj; have := ih (k + 1) j hj; unfold PSpec.len; omega
      | io e r ih =>
        intro k j hj
        unfold PSpec.len
        rcases List.mem_cons.mp hj with rfl | hj
        · omega
        · have := ih (k + 1) j hj; omega
    intro j hj
    have := gen ps 0 j hj
    omega
  have fin : ∀ {s' : σ} {env' : MEnv} {h' : MH} {fp' : Nat → List Nat} {D : List Nat}, RS c.tb c.N D s' env' h' fp' → (∀ j ∈ ps.ios 0, j ∈ D) → Pin c.pin (ds.map some ++ List.replicate (c.N - ds.length) none) env' → ps.rep (out s') a ds h' ((ps.ios 0).map fp') := fun R hD pn => by
    refine pout_ok R ps 0 (hout _) q hD fun j hj => ?_
    rw [pn j (by rw [hp]; exact hj), List.getElem?_append_left (by simpa using ge0 j hj)]
    simp
  unfold yRun runF
  cases hb : b (init i a) with
  | rt r s' =>
    rw [hb] at z
    obtain ⟨v, env', h', f, fp', e, R', er, n1, n2, fr, gr, pn⟩ := z
    rw [hr] at R' n2 gr
    refine ⟨v, h', _, f, by rw [e], fin R' (fun _ h => h) pn, er, ?_, fr.weak w0, ?_⟩
    · rw [List.nodup_append]
      refine ⟨n1, map_nd R' _ (ios_nd ps 0) fun _ h => h, fun n hn m hm e => ?_⟩
      subst e
      exact n2 n hn (mem_map_fp.mp hm)
    · intro n hn
      rcases gr n (hn.imp mem_map_fp.mp id) with g | g
      · exact .inl (w0 n g)
      · exact .inr g
  | nx s' =>
    rw [hb] at z
    obtain ⟨env', h', fp', e, R', fr, gr, pn⟩ := z
    cases d with
    | none => trivial
    | some r =>
      refine ⟨.non, h', _, [], by rw [e], fin R' (subB_ok h1) pn, hd r rfl h', ?_, fr.weak w0, ?_⟩
      · rw [List.nil_append]
        exact map_nd R' _ (ios_nd ps 0) (subB_ok h1)
      · intro n hn
        rcases hn with hn | hn
        · rcases gr n (Wn.sub (subB_ok h1) (mem_map_fp.mp hn)) with g | g
          · exact .inl (w0 n g)
          · exact .inr g
        · cases hn
  | exc C xs s' =>
    rw [hb] at z
    obtain ⟨env', h', fp', e, R', fr, gr, pn⟩ := z
    rw [hx] at R' gr
    refine ⟨h', _, by rw [e], fin R' (fun _ h => h) pn, map_nd R' _ (ios_nd ps 0) fun _ h => h, fr.weak w0, ?_⟩
    intro n hn
    rcases gr n (mem_map_fp.mp hn) with g | g
    · exact .inl (w0 n g)
    · exact .inr g
  | bk s' => trivial
  | ct s' => trivial
  | bad => trivial

/-! ### calls -/
section
variable {σ : Type} {tb : Nat → Slot σ} {N : Nat} {D : List Nat}
/-- the arguments as they stand in the environment -/
def Mat (tb : Nat → Slot σ) : {I A : Type} → PSpec I A → List Nat → MEnv → A → List MV → Prop
  | _, _, .nil, ids, _, _, ds => ids = [] ∧ ds = []
  | _, _, .fr va r, ids, env, a, ds => ∃ ds', ds = va a.1 :: ds' ∧ Mat tb r ids env a.2 ds'
  | _, _, .io _ r, ids, env, a, ds => ∃ i ids' v ds', ids = i :: ids' ∧ ds = v :: ds' ∧ env[(tb i).ix]? = some (some v) ∧ Mat tb r ids' env a ds'
def TXP {I A : Type} (tb : Nat → Slot σ) (N : Nat) (D : List Nat) (ms : MA) (ps : PSpec I A) (ids : List Nat) (p : σ → X σ A) : Prop := ∀ s env h fp, RS tb N D s env h fp → match p s with
  | .ok a s' => ∃ ds h' fp', ms env h = .ok ds h' ∧ Mat tb ps ids env a ds ∧ RS tb N D s' env h' fp' ∧ Fr (Wn D fp) h h' ∧ Grow (Wn D fp) (Wn D fp') h
  | .exc C xs s' => ∃ h' fp', ms env h = .exc C xs h' ∧ RS tb N D s' env h' fp' ∧ Fr (Wn D fp) h h' ∧ Grow (Wn D fp) (Wn D fp') h
  | .bad => True
theorem txp_n : TXP tb N D maN .nil [] (xC ()) := by with_unfolding_all exact (fun s env h fp R => ⟨[], h, fp, rfl, ⟨rfl, rfl⟩, R, Fr.refl, Grow.refl⟩)
theorem txp_f {I A α : Type} {e : ME} {p : σ → X σ α} {va : α → MV} {ms : MA} {ps : PSpec I A} {ids : List Nat} {q : σ → X σ A} (k1 : TX tb N D e p (fz va)) (k2 : TXP tb N D ms ps ids q) : TXP tb N D (maC e ms) (.fr va ps) ids (xCs p q) := fun s env h fp R => by
  have z := k1 s env h fp R
  unfold xCs maC
  cases hp : p s with
  | ok a s' =>
    rw [hp] at z
    obtain ⟨v, h', f', fp', e1, R1, r, _, _, fr, gr⟩ := z
    have gr' : Grow (Wn D fp) (Wn D fp') h := gr.sub fun n q => .inl q
    simp only [X.bind]
    rw [e1]
    simp only [Out.bind]
    have z2 := k2 s' env h' fp' R1
    cases hq : q s' with
    | ok b s2 =>
      rw [hq] at z2
      obtain ⟨ds, h2, fp2, e2, M, R2, fr2, gr2⟩ := z2
      exact ⟨va a :: ds, h2, fp2, by rw [e2, r.1], ⟨ds, rfl, M⟩, R2, fr.trans gr' fr2, gr'.trans fr.len gr2⟩
    | exc C xs s2 =>
      rw [hq] at z2
      obtain ⟨h2, fp2, e2, R2, fr2, gr2⟩ := z2
      exact ⟨h2, fp2, by rw [e2], R2, fr.trans gr' fr2, gr'.trans fr.len gr2⟩
    | bad => trivial
  | exc C xs s' =>
    rw [hp] at z
    obtain ⟨h', fp', e1, R1, fr, gr⟩ := z
    exact ⟨h', fp', by rw [e1], R1, fr, gr⟩
  | bad => trivial
theorem txp_i {I A α : Type} {en : Enc α} {ms : MA} {ps : PSpec I A} {i ix : Nat} {ids : List Nat} {q : σ → X σ A} (k2 : TXP tb N D ms ps ids q) (hi : D.contains i = true := by rfl) (hx : (tb i).ix = ix := by rfl) : TXP tb N D (maC (mV ix) ms) (.io en ps) (i :: ids) q := fun s env h fp R => by
  obtain ⟨v, e1, e2⟩ := R.ok i (by simpa using hi)
  have e1' := e1
  rw [hx] at e1
  unfold maC
  rw [ev_V e1]
  simp only [Out.bind]
  have z2 := k2 s env h fp R
  cases hq : q s with
  | ok b s2 =>
    rw [hq] at z2
    obtain ⟨ds, h2, fp2, e2, M, R2, fr2, gr2⟩ := z2
    exact ⟨v :: ds, h2, fp2, by rw [e2], ⟨i, ids, v, ds, rfl, rfl, e1', M⟩, R2, fr2, gr2⟩
  | exc C xs s2 =>
    rw [hq] at z2
    obtain ⟨h2, fp2, e2, R2, fr2, gr2⟩ := z2
    exact ⟨h2, fp2, by rw [e2], R2, fr2, gr2⟩
  | bad => trivial
def IoOk (tb : Nat → Slot σ) : {I A : Type} → PSpec I A → List Nat → σ → I → Prop
  | _, _, .nil, _, _, _ => True
  | _, _, .fr _ r, ids, s, i => IoOk tb r ids s i
  | _, _, .io e r, ids, s, i => (tb (ids.headD 0)).rep s = e i.1 ∧ IoOk tb r ids.tail s i.2
theorem mat_rep {s : σ} {env : MEnv} {h : MH} {fp : Nat → List Nat} (R : RS tb N D s env h fp) : ∀ {I A : Type} (ps : PSpec I A) {ids : List Nat} {i : I} {a : A} {ds : List MV}, Mat tb ps ids env a ds → (∀ j ∈ ids, j ∈ D) → IoOk tb ps ids s i → ps.rep i a ds h (ids.map fp)
  | _, _, .nil, _, _, _, _, M, _, _ => by obtain ⟨e1, e2⟩ := M; subst e1; exact ⟨e2, rfl⟩
  | _, _, .fr _ r, _, _, _, _, M, hd, q => by obtain ⟨ds', e, M⟩ := M; exact ⟨ds', e, mat_rep R r M hd q⟩
  | _, _, .io _ r, _, _, _, _, M, hd, q => by
    obtain ⟨i, ids', v, ds', e1, e2, e3, M⟩ := M
    subst e1
    obtain ⟨w, w1, w2⟩ := R.ok i (hd i (List.mem_cons_self ..))
    rw [e3] at w1
    cases w1
    obtain ⟨q1, q2⟩ := q
    have q1 : (tb i).rep s = _ := q1
    rw [q1] at w2
    exact ⟨v, ds', fp i, _, e2, rfl, w2, mat_rep R r M (fun j hj => hd j (List.mem_cons_of_mem _ hj)) q2⟩
/-- the changed names with what they own now -/
def newFp : List Nat → List (List Nat) → (Nat → List Nat) → Nat → List Nat
  | i :: ids, f :: fps, fp => fun j => if j = i then f else newFp ids fps fp j
  | _, _, fp => fp
theorem newFp_no : ∀ {ids : List Nat} {fps : List (List Nat)} {fp : Nat → List Nat} {j : Nat}, j ∉ ids → newFp ids fps fp j = fp j
  | [], _, _, _, _ => by unfold newFp; rfl
  | _ :: _, [], _, _, _ => by unfold newFp; rfl
  | i :: ids, f :: fps, fp, j, h => by
    unfold newFp
    rw [if_neg (fun z => h (by rw [z]; exact List.mem_cons_self ..))]
    exact newFp_no fun z => h (List.mem_cons_of_mem _ z)
theorem newFp_mem : ∀ {ids : List Nat} {fps : List (List Nat)} {fp : Nat → List Nat} {j : Nat}, ids.length = fps.length → j ∈ ids → ∀ n ∈ newFp ids fps fp j, n ∈ fps.flatten
  | i :: ids, f :: fps, fp, j, hl, hj, n, hn => by
    unfold newFp at hn
    rw [List.flatten_cons]
    split at hn
    · exact List.mem_append_left _ hn
    · rename_i hne
      refine List.mem_append_right _ (newFp_mem (by simpa using hl) ?_ n hn)
      rcases List.mem_cons.mp hj with h | h
      · exact absurd h hne
      · exact h
  | [], _, _, _, _, hj, _, _ => nomatch hj
  | _ :: _, [], _, _, hl, _, _, _ => nomatch hl
theorem newFp_nd : ∀ {ids : List Nat} {fps : List (List Nat)} {fp : Nat → List Nat}, ids.length = fps.length → fps.flatten.Nodup → (∀ j ∈ ids, (newFp ids fps fp j).Nodup) ∧ ∀ j ∈ ids, ∀ l ∈ ids, j ≠ l → ∀ n ∈ newFp ids fps fp j, n ∉ newFp ids fps fp l
  | [], [], _, _, _ => ⟨fun _ h => (nomatch h), fun _ h => (nomatch h)⟩
  | i :: ids, f :: fps, fp, hl, nd => by
    rw [List.flatten_cons, List.nodup_append] at nd
    obtain ⟨i1, i2⟩ := newFp_nd (fp := fp) (by simpa using hl) nd.2.1
    have hl' : ids.length = fps.length := by simpa using hl
    refine ⟨fun j hj => ?_, fun j hj l hl2 hjl n hn hm => ?_⟩
    · unfold newFp; split
      · exact nd.1
      · rename_i hne
        exact i1 j ((List.mem_cons.mp hj).resolve_left hne)
    · unfold newFp at hn hm
      split at hn
      · rename_i ej
        have hli : l ≠ i := fun z => hjl (ej.trans z.symm)
        rw [if_neg hli] at hm
        exact nd.2.2 n hn n (newFp_mem hl' ((List.mem_cons.mp hl2).resolve_left hli) n hm) rfl
      · rename_i hne
        have hj' := (List.mem_cons.mp hj).resolve_left hne
        split at hm
        · exact nd.2.2 n hm n (newFp_mem hl' hj' n hn) rfl
        · rename_i hli
          exact i2 j hj' l ((List.mem_cons.mp hl2).resolve_left hli) hjl n hn hm
  | [], _ :: _, _, hl, _ => nomatch hl
  | _ :: _, [], _, hl, _ => nomatch hl
theorem rep_back {env : MEnv} {h : MH} {s : σ} : ∀ {I A : Type} (ps : PSpec I A) {ids : List Nat} {i : I} {a : A} {ds : List MV} {fps : List (List Nat)} {fp : Nat → List Nat}, Mat tb ps ids env a ds → ps.rep i a ds h fps → IoOk tb ps ids s i → ids.Nodup → ids.length = fps.length ∧ ∀ j ∈ ids, ∃ v, env[(tb j).ix]? = some (some v) ∧ ((tb j).rep s).r v h (newFp ids fps fp j)
  | _, _, .nil, _, _, _, _, _, _, M, q, _, _ => by obtain ⟨e1, _⟩ := M; subst e1; rw [q.2]; exact ⟨rfl, fun _ h => nomatch h⟩
  | _, _, .fr _ r, _, _, _, _, _, _, M, q, io, nd => by
    obtain ⟨ds', e, M⟩ := M
    obtain ⟨ds2, e2, q⟩ := q
    rw [e] at e2; cases e2
    exact rep_back r M q io nd
  | _, _, .io _ r, _, _, _, _, _, fp, M, q, io, nd => by
    obtain ⟨i, ids', v, ds', e1, e2, e3, M⟩ := M
    obtain ⟨v2, ds2, f, fps', e4, e5, q1, q2⟩ := q
    obtain ⟨io1, io2⟩ := io
    subst e1; subst e5
    rw [e2] at e4; cases e4
    obtain ⟨n1, n2⟩ := List.nodup_cons.mp nd
    obtain ⟨l, k⟩ := rep_back (fp := fp) r M q2 io2 n2
    refine ⟨by simp [l], fun j hj => ?_⟩
    unfold newFp
    by_cases hji : j = i
    · subst hji
      rw [if_pos rfl]
      have io1 : (tb j).rep s = _ := io1
      exact ⟨v, e3, by rw [io1]; exact q1⟩
    · rw [if_neg hji]
      exact k j ((List.mem_cons.mp hj).resolve_left hji)
/-- a call of a typed function -/
@[irreducible] def xCall {I A ρ : Type} (fn : I → A → X I ρ) (get : σ → I) (put : σ → I → σ) (p : σ → X σ A) : σ → X σ ρ := fun s => (p s).bind fun a s => match fn (get s) a with
  | .ok r i => .ok r (put s i)
  | .exc C xs i => .exc C xs (put s i)
  | .bad => .bad
theorem tx_callG {I A ρ : Type} {ps : PSpec I A} {m : MF} {fn : I → A → X I ρ} {er : Enc ρ} {ids : List Nat} {me : ME} {ms : MA} {p : σ → X σ A} {get : σ → I} {put : σ → I → σ} (hm : ∀ env h, (∀ ds h', ms env h = .ok ds h' → ds.length = ps.len → (∀ a, Mat tb ps ids env a ds → me env h = m ds h')) ∧ ∀ C xs h', ms env h = .exc C xs h' → me env h = .exc C xs h') (kf : TFun ps m fn er) (kp : TXP tb N D ms ps ids p)
    (hg : ∀ s, IoOk tb ps ids s (get s)) (hp : ∀ s i, IoOk tb ps ids (put s i) i) (ho : ∀ j ∈ D, j ∉ ids → ∀ s i, (tb j).rep (put s i) = (tb j).rep s) (hs : ∀ j ∈ ids, j ∈ D) (hn : ids.Nodup) : TX tb N D me (xCall fn get put p) er := fun s env h fp R => by
  have z := kp s env h fp R
  unfold xCall
  cases hps : p s with
  | ok a s' =>
    rw [hps] at z
    obtain ⟨ds, h', fp', e1, M, R1, fr, gr⟩ := z
    simp only [X.bind]
    have rp := mat_rep R1 ps M hs (hg s')
    have em := (hm env h).1 ds h' e1 (ps.rep_len rp) a M
    rw [em]
    have wid : ∀ n, n ∈ (ids.map fp').flatten → Wn D fp' n := fun n hn => Wn.sub hs (mem_map_fp.mp hn)
    have z2 := kf (get s') a ds h' (ids.map fp') rp (map_nd R1 ids hn hs)
    have mk : ∀ {i' : I} {h2 : MH} {fps' : List (List Nat)}, ps.rep i' a ds h2 fps' → fps'.flatten.Nodup → Fr (· ∈ (ids.map fp').flatten) h' h2 → Grow (· ∈ (ids.map fp').flatten) (· ∈ fps'.flatten) h' → RS tb N D (put s' i') env h2 (newFp ids fps' fp') ∧ (∀ n, Wn D (newFp ids fps' fp') n → (Wn D fp' n ∧ ∀ j ∈ ids, n ∉ fp' j) ∨ n ∈ fps'.flatten) := fun {i' h2 fps'} rp2 nd2 fr2 gr2 => by
      obtain ⟨ll, back⟩ := rep_back (fp := fp') ps M rp2 (hp s' i') hn
      obtain ⟨n1, n2⟩ := newFp_nd (fp := fp') ll nd2
      have old : ∀ j ∈ D, j ∉ ids → ∀ n ∈ fp' j, n ∉ (ids.map fp').flatten := fun j hj hji n hn hm => by
        obtain ⟨l, hl, hm⟩ := mem_map_fp.mp hm
        exact R1.dj j hj l (hs l hl) (fun z => hji (z ▸ hl)) n hn hm
      refine ⟨⟨R1.len, fun j hj => ?_, fun j hj => ?_, fun j hj l hl hjl n hn hm => ?_⟩, fun n ⟨j, hj, hn⟩ => ?_⟩
      · by_cases hji : j ∈ ids
        · exact back j hji
        · obtain ⟨v, e1, e2⟩ := R1.ok j hj
          refine ⟨v, e1, ?_⟩
          rw [newFp_no hji, ho j hj hji]
          exact ((tb j).rep s').frame e2 fun n hn => fr2.keep n (((tb j).rep s').dom e2 n hn) (old j hj hji n hn)
      · by_cases hji : j ∈ ids
        · exact n1 j hji
        · rw [newFp_no hji]; exact R1.nd j hj
      · by_cases hji : j ∈ ids
        · by_cases hli : l ∈ ids
          · exact n2 j hji l hli hjl n hn hm
          · rw [newFp_no hli] at hm
            rcases gr2 n (newFp_mem ll hji n hn) with q | q
            · exact old l hl hli n hm q
            · have := R1.dom n ⟨l, hl, hm⟩; omega
        · rw [newFp_no hji] at hn
          by_cases hli : l ∈ ids
          · rcases gr2 n (newFp_mem ll hli n hm) with q | q
            · exact old j hj hji n hn q
            · have := R1.dom n ⟨j, hj, hn⟩; omega
          · rw [newFp_no hli] at hm
            exact R1.dj j hj l hl hjl n hn hm
      · by_cases hji : j ∈ ids
        · exact .inr (newFp_mem ll hji n hn)
        · rw [newFp_no hji] at hn
          exact .inl ⟨⟨j, hj, hn⟩, fun l hl hm => R1.dj j hj l (hs l hl) (fun z => hji (z ▸ hl)) n hn hm⟩
    cases hf : fn (get s') a with
    | ok r i' =>
      rw [hf] at z2
      obtain ⟨v, h2, fps', f, e2, rp2, er2, nd2, fr2, gr2⟩ := z2
      rw [List.nodup_append] at nd2
      obtain ⟨R2, w2⟩ := mk rp2 nd2.2.1 fr2 (gr2.sub fun n q => .inl q)
      refine ⟨v, h2, f, _, e2, R2, er2, nd2.1, fun n hn hw => ?_, fr.trans gr (fr2.weak wid), fun n hn => ?_⟩
      · rcases w2 n hw with ⟨⟨j, hj, q⟩, q2⟩ | q
        · rcases gr2 n (.inr hn) with g | g
          · obtain ⟨l, hl, g⟩ := mem_map_fp.mp g
            exact q2 l hl g
          · have := R1.dom n ⟨j, hj, q⟩; omega
        · exact nd2.2.2 n hn n q rfl
      · have : Wn D fp' n ∨ h'.length ≤ n := by
          rcases hn with hn | hn
          · rcases w2 n hn with q | q
            · exact .inl q.1
            · rcases gr2 n (.inl q) with g | g
              · exact .inl (wid n g)
              · exact .inr g
          · rcases gr2 n (.inr hn) with g | g
            · exact .inl (wid n g)
            · exact .inr g
        rcases this with q | q
        · exact gr n q
        · exact .inr (Nat.le_trans fr.len q)
    | exc C xs i' =>
      rw [hf] at z2
      obtain ⟨h2, fps', e2, rp2, nd2, fr2, gr2⟩ := z2
      obtain ⟨R2, w2⟩ := mk rp2 nd2 fr2 gr2
      refine ⟨h2, _, e2, R2, fr.trans gr (fr2.weak wid), fun n hn => ?_⟩
      have : Wn D fp' n ∨ h'.length ≤ n := by
        rcases w2 n hn with q | q
        · exact .inl q.1
        · rcases gr2 n q with g | g
          · exact .inl (wid n g)
          · exact .inr g
      rcases this with q | q
      · exact gr n q
      · exact .inr (Nat.le_trans fr.len q)
    | bad => trivial
  | exc C xs s' =>
    rw [hps] at z
    obtain ⟨h', fp', e1, R1, fr, gr⟩ := z
    exact ⟨h', fp', (hm env h).2 C xs h' e1, R1, fr, gr⟩
  | bad => trivial
theorem mCall_hm {I A : Type} {ps : PSpec I A} {ids : List Nat} {m : MF} {ms : MA} {n : Nat} (hn : ps.len = n) : ∀ env h, (∀ ds h', ms env h = .ok ds h' → ds.length = ps.len → (∀ a, Mat tb ps ids env a ds → mCall n m ms env h = m ds h')) ∧ ∀ C xs h', ms env h = .exc C xs h' → mCall n m ms env h = .exc C xs h' := fun env h =>
  ⟨fun ds h' e l a _ => by unfold mCall; rw [e]; show (if ds.length = n then _ else _) = _; rw [if_pos (by omega)], fun C xs h' e => by unfold mCall; rw [e]⟩
/-- a call that changes none of its arguments -/
theorem tx_call {A ρ : Type} {ps : PSpec Unit A} {m : MF} {fn : Unit → A → X Unit ρ} {er : Enc ρ} {ms : MA} {p : σ → X σ A} {n : Nat} (kf : TFun ps m fn er) (kp : TXP tb N D ms ps [] p) (hg : ∀ s : σ, IoOk tb ps [] s () := by intro _; trivial) (hn : ps.len = n := by rfl) : TX tb N D (mCall n m ms) (xCall fn (fun _ => ()) (fun s _ => s) p) er :=
  tx_callG (mCall_hm hn) kf kp hg (fun s _ => hg s) (fun _ _ _ _ _ => rfl) (fun _ h => nomatch h) List.nodup_nil
/-- a call that changes one name -/
theorem tx_call1 {A α ρ : Type} {ps : PSpec (α × Unit) A} {m : MF} {fn : α × Unit → A → X (α × Unit) ρ} {er : Enc ρ} {ms : MA} {p : σ → X σ A} {i n : Nat} {get : σ → α} {put : σ → α → σ} (kf : TFun ps m fn er) (kp : TXP tb N D ms ps [i] p)
    (hg : ∀ s : σ, IoOk tb ps [i] s (get s, ())) (hp : ∀ (s : σ) a, IoOk tb ps [i] (put s a.1) a) (ho : ∀ j ∈ D, j ∉ [i] → ∀ s (a : α × Unit), (tb j).rep (put s a.1) = (tb j).rep s) (hi : D.contains i = true := by rfl) (hn : ps.len = n := by rfl) : TX tb N D (mCall n m ms) (xCall fn (fun s => (get s, ())) (fun s a => put s a.1) p) er :=
  tx_callG (mCall_hm hn) kf kp hg hp ho (fun j hj => by
    rw [List.mem_singleton.mp hj]; simpa using hi) (by simp)
theorem tx_callN {I A ρ : Type} {ps : PSpec I A} {m : MF} {fn : I → A → X I ρ} {er : Enc ρ} {ids : List Nat} {ms : MA} {p : σ → X σ A} {get : σ → I} {put : σ → I → σ} {n : Nat} (kf : TFun ps m fn er) (kp : TXP tb N D ms ps ids p)
    (hg : ∀ s, IoOk tb ps ids s (get s)) (hp : ∀ s i, IoOk tb ps ids (put s i) i) (ho : ∀ j ∈ D, j ∉ ids → ∀ s i, (tb j).rep (put s i) = (tb j).rep s) (hs : subB ids D = true := by rfl) (hn : ids.Nodup := by decide) (hl : ps.len = n := by rfl) : TX tb N D (mCall n m ms) (xCall fn get put p) er :=
  tx_callG (mCall_hm hl) kf kp hg hp ho (subB_ok hs) hn
end
end Ty
/-! ## TyF -/
set_option Elab.async false
set_option linter.all false
set_option maxRecDepth 100000
/-! Ty, part F: methods of lists, items, freezing, comprehensions, try. -/
namespace Ty
open PySem PySem.Spec PyProof.Rows L2 Mn

section
variable {σ ρ : Type} {tb : Nat → Slot σ} {N : Nat} {c : Cx σ ρ} {D D' D0 D1 D2 : List Nat} {α β γ : Type} {e e1 e2 : ME} {m : MS} {pa : σ → F σ ρ} {p : σ → X σ α} {q : σ → X σ β} {va : α → MV} {vb : β → MV} {vc : γ → MV} {ea : Enc α} {st : σ → α → σ} {i ix : Nat} {ms : MA}
theorem Keep.sub {st : σ → α → σ} (k : Keep tb st ix D) (h : subB D' D = true := by rfl) : Keep tb st ix D' := by
  have := subB_ok h
  clear h
  induction D' with
  | nil => trivial
  | cons j r ih => exact ⟨k.at j (this j (List.mem_cons_self ..)), ih fun i hi => this i (List.mem_cons_of_mem _ hi)⟩
def butB (i : Nat) (D D0 : List Nat) : Bool := D.all fun j => j == i || D0.contains j
theorem butB_ok {i : Nat} {D D0 : List Nat} (k : butB i D D0 = true) : ∀ j ∈ D, j ≠ i → j ∈ D0 := fun j hj hn => by
  have := (List.all_eq_true.mp k) j hj
  simp only [Bool.or_eq_true, beq_iff_eq] at this
  rcases this with h | h
  · exact absurd h hn
  · simpa using h
theorem ts_pre (k : TS c D0 m pa D1) (h : subB D0 D = true := by rfl) : TS c D m pa D1 := fun s env h0 fp R =>
  TS.after (m := m) Fr.refl (fun n q => .inl (Wn.sub (subB_ok h) q)) Pin.refl rfl (R.sub (subB_ok h)) k
/-- what a name owns, written -/
theorem RS.write {s : σ} {env : MEnv} {h : MH} {fp : Nat → List Nat} {put : σ → List α → σ} {ys : List α} {n : Nat} (R : RS tb N D s env h fp) (hi : i ∈ D) (hn : env[(tb i).ix]? = some (some (.ref n))) (hf : fp i = [n]) (hl : n < h.length) (hp : (tb i).rep (put s ys) = own1 va ys) (k : Keep tb put ix D0) (hb : butB i D D0 = true) : RS tb N D (put s ys) env (h.set n (.lst (ys.map va))) fp :=
  ⟨R.len, fun j hj => by
    by_cases hji : j = i
    · subst hji
      exact ⟨.ref n, hn, by rw [hp]; exact ⟨n, rfl, List.getElem?_set_self hl, hf⟩⟩
    · obtain ⟨v, e1, e2⟩ := R.ok j hj
      refine ⟨v, e1, ?_⟩
      rw [(k.at j (butB_ok hb j hj hji)).2]
      refine ((tb j).rep s).frame e2 fun m hm => ?_
      have : n ≠ m := fun z => by
        subst z
        exact R.dj j hj i hi hji n hm (by rw [hf]; exact List.mem_singleton.mpr rfl)
      rw [List.getElem?_set_ne this], R.nd, R.dj⟩
/-- a method of a list -/
def MOp (f : MV → List MV → MH → Out MV) (g : List α → β → Option (γ × List α)) (va : α → MV) (vs : β → List MV) (vc : γ → MV) : Prop := ∀ xs b n h ys c, h[n]? = some (.lst (xs.map va)) → g xs b = some (c, ys) → f (.ref n) (vs b) h = .ok (vc c) (h.set n (.lst (ys.map va)))
@[irreducible] def xMeth (get : σ → List α) (put : σ → List α → σ) (g : List α → β → Option (γ × List α)) (q : σ → X σ β) : σ → X σ γ := fun s => (q s).bind fun b s => match g (get s) b with
  | some (c, ys) => .ok c (put s ys)
  | none => .bad
theorem tx_meth {f : MV → List MV → MH → Out MV} {g : List α → β → Option (γ × List α)} {get : σ → List α} {put : σ → List α → σ} {vs : β → List MV} (i : Nat) (o : MOp f g va vs vc) (kq : TXA tb N D ms q vs) (hg : ∀ s, (tb i).rep s = own1 va (get s)) (hp : ∀ s ys, (tb i).rep (put s ys) = own1 va ys) (k : Keep tb put ix D0) (hb : butB i D D0 = true := by rfl) (hi : D.contains i = true := by rfl) (hx : (tb i).ix = ix := by rfl) :
    TX tb N D (mM "list" f (mV ix) ms) (xMeth get put g q) (fz vc) := fun s env h fp R => by
  have hi : i ∈ D := by simpa using hi
  obtain ⟨v, w1, w2⟩ := R.ok i hi
  rw [hg] at w2
  obtain ⟨n, rfl, w3, w4⟩ := rd_own w2
  have w1' := w1
  rw [hx] at w1
  unfold xMeth mM
  rw [ev_V w1]
  simp only [Out.bind]
  rw [if_pos (tyc_R w3)]
  have z := kq s env h fp R
  cases hq : q s with
  | ok b s' =>
    rw [hq] at z
    obtain ⟨h', fp', e1, R1, fr, gr⟩ := z
    simp only [X.bind]
    cases hgg : g (get s') b with
    | none => trivial
    | some r =>
      obtain ⟨y, ys⟩ := r
      obtain ⟨v2, y1, y2⟩ := R1.ok i hi
      rw [w1'] at y1
      cases y1
      rw [hg] at y2
      obtain ⟨n2, e3, y3, y4⟩ := rd_own y2
      cases e3
      have hl := (List.getElem?_eq_some_iff.mp y3).1
      refine ⟨vc y, h'.set n (.lst (ys.map va)), [], fp', by rw [e1]; exact o _ _ _ _ _ _ y3 hgg, R1.write hi w1' y4 hl (hp _ _) k hb, ⟨rfl, rfl⟩, List.nodup_nil, (fun n hn => nomatch hn), ⟨by rw [List.length_set]; exact fr.len, fun m hm hA => ?_⟩, gr.sub fun n q => q.elim id fun z => nomatch z⟩
      have : n ≠ m := fun z => by
        subst z
        exact hA ⟨i, hi, by rw [w4]; exact List.mem_singleton.mpr rfl⟩
      rw [List.getElem?_set_ne this]
      exact fr.keep m hm hA
  | exc C xs s' =>
    rw [hq] at z
    obtain ⟨h', fp', e1, R1, fr, gr⟩ := z
    exact ⟨h', fp', by rw [e1], R1, fr, gr⟩
  | bad => trivial
@[reducible] def gApp (xs : List α) (b : α × Unit) : Option (Unit × List α) := if xs.length < sizeLine then some ((), xs ++ [b.1]) else none
@[reducible] def gPop (xs : List α) (_ : Unit) : Option (α × List α) := match xs.getLast? with
  | some y => some (y, xs.dropLast)
  | none => none
@[reducible] def gRev (xs : List α) (_ : Unit) : Option (Unit × List α) := some ((), xs.reverse)
@[reducible] def gExt (xs : List α) (b : List α × Unit) : Option (Unit × List α) := if xs.length + b.1.length ≤ sizeLine then some ((), xs ++ b.1) else none
theorem mo_app : MOp (γ := Unit) fAppend gApp va (fun b : α × Unit => va b.1 :: []) nV := fun xs b n h ys c e g => by
  unfold gApp at g
  by_cases q : xs.length < sizeLine
  · rw [if_pos q] at g
    cases g
    rw [f_app e (by simpa using q)]
    simp
  · rw [if_neg q] at g; cases g
theorem mo_pop : MOp fPop gPop va (fun _ : Unit => []) va := fun xs b n h ys c e g => by
  unfold gPop at g
  cases hx : xs.getLast? with
  | none => rw [hx] at g; cases g
  | some y =>
    rw [hx] at g
    cases g
    obtain ⟨zs, rfl⟩ := List.getLast?_eq_some_iff.mp hx
    rw [List.map_append] at e
    rw [f_pop e, List.dropLast_concat]
theorem mo_rev : MOp (γ := Unit) fReverse gRev va (fun _ : Unit => []) nV := fun xs b n h ys c e g => by
  cases g
  rw [f_rev e, List.map_reverse]
theorem mo_ext : MOp (γ := Unit) fExtend gExt va (fun b : List α × Unit => lV va b.1 :: []) nV := fun xs b n h ys c e g => by
  unfold gExt at g
  by_cases q : xs.length + b.1.length ≤ sizeLine
  · rw [if_pos q] at g
    cases g
    unfold fExtend
    simp only
    rw [e]
    simp only [wlst]
    rw [if_pos (by simpa using q), List.map_append]
  · rw [if_neg q] at g; cases g
theorem mM0_eq {f : MV → List MV → MH → Out MV} {T : String} : mM0 T f e = mM T f e maN := by
  funext env h
  unfold mM0 mM maN
  cases e env h <;> rfl
/-! ### items -/
@[reducible] def gSetI (xs : List α) (k : Int) (b : α) : Option (List α) := match ixN xs.length k with
  | some j => some (xs.set j b)
  | none => none
@[irreducible] def ySetI (get : σ → List α) (put : σ → List α → σ) (p : σ → X σ α) (q : σ → X σ Int) : σ → F σ ρ := fun s => (p s).toF fun b s => (q s).toF fun k s => match gSetI (get s) k b with
  | some ys => .nx (put s ys)
  | none => .bad
theorem ts_setI {get : σ → List α} {put : σ → List α → σ} {q : σ → X σ Int} (i : Nat) (kp : TX c.tb c.N D e p (fz va)) (kq : TP c.tb c.N D e2 q (fz .int)) (hg : ∀ s, (c.tb i).rep s = own1 va (get s)) (hp : ∀ s ys, (c.tb i).rep (put s ys) = own1 va ys) (k : Keep c.tb put ix D0) (hb : butB i D D0 = true := by rfl) (hi : D.contains i = true := by rfl) (hx : (c.tb i).ix = ix := by rfl) (hxx : subB c.Dx D = true := by rfl) :
    TS c D (sAsg e (gSb (mV ix) e2 fSetL)) (ySetI get put p q) D := by with_unfolding_all exact (ts_ex (f := fun v h env => (gSb (mV ix) e2 fSetL v env h).andS env fun env' h => .ok .nx env' h) (fun env h => rfl) kp hxx fun a s v env h0 h fp0 fp fv R r nd dj fr gr => by
  have hi : i ∈ D := by simpa using hi
  have z := kq s env h fp R
  obtain ⟨w, w1, w2⟩ := R.ok i hi
  rw [hg] at w2
  obtain ⟨n, rfl, w3, w4⟩ := rd_own w2
  have w1' := w1
  rw [hx] at w1
  unfold gSb
  rw [ev_V w1]
  simp only [Out.bind]
  cases hq : q s with
  | ok b s' =>
    rw [hq] at z
    obtain ⟨rfl, u, h', f', e1, mo, r2⟩ := z
    rw [e1, r2.1, r.1]
    simp only [X.toF]
    have R1 := R.mono mo
    have y3 : h'[n]? = some (.lst ((get s').map va)) := by rw [mo.keep n (List.getElem?_eq_some_iff.mp w3).1]; exact w3
    cases hs : gSetI (get s') b a with
    | none => trivial
    | some ys =>
      have ef : fSetL (.ref n) (.int b) (va a) h' = .ok .non (h'.set n (.lst (ys.map va))) := by
        unfold fSetL; simp only
        rw [y3]; simp only
        rw [List.length_map]
        unfold gSetI at hs
        cases hj : ixN (get s').length b with
        | none => rw [hj] at hs; cases hs
        | some j =>
          rw [hj] at hs
          cases hs
          simp [List.map_set]
      rw [ef]
      have hl := (List.getElem?_eq_some_iff.mp y3).1
      refine ⟨env, _, fp, rfl, R1.write hi w1' w4 hl (hp _ _) k hb, ⟨by rw [List.length_set]; exact Nat.le_trans fr.len mo.len, fun m hm hA => ?_⟩, gr.sub fun n q => .inl q, Pin.refl⟩
      have : n ≠ m := fun z => by
        subst z
        rcases gr n (.inl ⟨i, hi, by rw [w4]; exact List.mem_singleton.mpr rfl⟩) with g | g
        · exact hA g
        · omega
      rw [List.getElem?_set_ne this, mo.keep m (Nat.lt_of_lt_of_le hm fr.len)]
      exact fr.keep m hm hA
  | exc C xs s' =>
    rw [hq] at z
    obtain ⟨rfl, h', e1, mo⟩ := z
    rw [e1]
    exact ⟨env, h', fp, rfl, (R.mono mo).sub (subB_ok hxx), ⟨Nat.le_trans fr.len mo.len, fun m hm hA => by rw [mo.keep m (Nat.lt_of_lt_of_le hm fr.len)]; exact fr.keep m hm hA⟩, gr.sub fun n q => .inl (Wn.sub (subB_ok hxx) q), Pin.refl⟩
  | bad => trivial)
@[irreducible] def yAugI {β : Type} (get : σ → List α) (put : σ → List α → σ) (g : α → β → Option α) (q : σ → X σ Int) (p : σ → X σ β) : σ → F σ ρ := fun s => (q s).toF fun k s => match gIx (get s) k with
  | some x => (p s).toF fun b s => match g x b with
    | some y => match gSetI (get s) k y with
      | some ys => .nx (put s ys)
      | none => .bad
    | none => .bad
  | none => .bad
theorem ts_augI {get : σ → List α} {put : σ → List α → σ} {q : σ → X σ Int} {p : σ → X σ β} {g : α → β → Option α} {f : MV → MV → MH → Out MV} (i : Nat) (kq : TP c.tb c.N D e2 q (fz .int)) (o : Op2 f g va vb va) (kp : TX c.tb c.N D e p (fz vb)) (hg : ∀ s, (c.tb i).rep s = own1 va (get s)) (hp : ∀ s ys, (c.tb i).rep (put s ys) = own1 va ys) (k : Keep c.tb put ix D0) (hb : butB i D D0 = true := by rfl) (hi : D.contains i = true := by rfl) (hx : (c.tb i).ix = ix := by rfl) (hxx : subB c.Dx D = true := by rfl) :
    TS c D (sAugS (mV ix) e2 f e) (yAugI get put g q p) D := fun s env h fp R => by
  have hi : i ∈ D := by simpa using hi
  have z := kq s env h fp R
  obtain ⟨w, w1, w2⟩ := R.ok i hi
  rw [hg] at w2
  obtain ⟨n, rfl, w3, w4⟩ := rd_own w2
  have w1' := w1
  rw [hx] at w1
  unfold sAugS yAugI
  rw [ev_V w1]
  simp only [Out.andS]
  cases hq : q s with
  | ok b s' =>
    rw [hq] at z
    obtain ⟨rfl, u, h', f', e1, mo, r2⟩ := z
    rw [e1, r2.1]
    simp only [X.toF]
    have R1 := R.mono mo
    have y3 : h'[n]? = some (.lst ((get s').map va)) := by rw [mo.keep n (List.getElem?_eq_some_iff.mp w3).1]; exact w3
    cases hgx : gIx (get s') b with
    | none => trivial
    | some x =>
      have eg : fGetL (.ref n) (.int b) h' = .ok (va x) h' := by
        unfold fGetL; simp only
        rw [y3]; simp only
        rw [atI_map]
        unfold gIx at hgx
        rw [hgx]; rfl
      rw [eg]
      simp only
      have z2 := kp s' env h' fp R1
      cases hps : p s' with
      | ok y s2 =>
        rw [hps] at z2
        obtain ⟨v2, h2, f2, fp2, e2, R2, r3, _, _, fr2, gr2⟩ := z2
        rw [e2, r3.1]
        simp only
        cases ho : g x y with
        | none => trivial
        | some t =>
          rw [o x y t h2 ho]
          simp only
          obtain ⟨v3, t1, t2⟩ := R2.ok i hi
          rw [w1'] at t1
          cases t1
          rw [hg] at t2
          obtain ⟨n2, e3, t3, t4⟩ := rd_own t2
          cases e3
          cases hs : gSetI (get s2) b t with
          | none => trivial
          | some ys =>
            have ef : fSetL (.ref n) (.int b) (va t) h2 = .ok .non (h2.set n (.lst (ys.map va))) := by
              unfold fSetL; simp only
              rw [t3]; simp only
              rw [List.length_map]
              unfold gSetI at hs
              cases hj : ixN (get s2).length b with
              | none => rw [hj] at hs; cases hs
              | some j =>
                rw [hj] at hs
                cases hs
                simp [List.map_set]
            rw [ef]
            have hl := (List.getElem?_eq_some_iff.mp t3).1
            refine ⟨env, _, fp2, rfl, R2.write hi w1' t4 hl (hp _ _) k hb, ⟨by rw [List.length_set]; exact Nat.le_trans mo.len fr2.len, fun m hm hA => ?_⟩, fun m hm => (gr2 m (.inl hm)).imp id (Nat.le_trans mo.len), Pin.refl⟩
            have : n ≠ m := fun z => by
              subst z
              exact hA ⟨i, hi, by rw [w4]; exact List.mem_singleton.mpr rfl⟩
            rw [List.getElem?_set_ne this, fr2.keep m (Nat.lt_of_lt_of_le hm mo.len) hA]
            exact mo.keep m hm
      | exc C xs s2 =>
        rw [hps] at z2
        obtain ⟨h2, fp2, e2, R2, fr2, gr2⟩ := z2
        rw [e2]
        exact ⟨env, h2, fp2, rfl, R2.sub (subB_ok hxx), ⟨Nat.le_trans mo.len fr2.len, fun m hm hA => by rw [fr2.keep m (Nat.lt_of_lt_of_le hm mo.len) hA]; exact mo.keep m hm⟩, fun m hm => (gr2 m (Wn.sub (subB_ok hxx) hm)).imp id (Nat.le_trans mo.len), Pin.refl⟩
      | bad => trivial
  | exc C xs s' =>
    rw [hq] at z
    obtain ⟨rfl, h', e1, mo⟩ := z
    rw [e1]
    exact ⟨env, h', fp, rfl, (R.mono mo).sub (subB_ok hxx), mo.fr, fun n q => .inl (Wn.sub (subB_ok hxx) q), Pin.refl⟩
  | bad => trivial
theorem sAug_eq {f : MV → MV → MH → Out MV} {k : Nat} : sAug k f e = sSet k (m2 f (mV k) e) := by
  funext env h
  unfold sAug sSet m2 mV
  cases env[k]? with
  | none => rfl
  | some o =>
    cases o with
    | none => rfl
    | some x => simp only [Out.bind]; cases e env h <;> rfl
/-! ### freezing -/
def Fix (k : Nat) (va : α → MV) : Prop := ∀ a h, frzV k (va a) h = some (va a, h)
theorem fix_int {k : Nat} : Fix (k + 1) MV.int := fun _ _ => rfl
theorem fix_bl {k : Nat} : Fix (k + 1) MV.bl := fun _ _ => rfl
theorem fix_str {k : Nat} : Fix (k + 1) MV.str := fun _ _ => rfl
theorem fix_n {k : Nat} : Fix (k + 1) nV := fun _ _ => rfl
theorem fix_l {k : Nat} : Fix (k + 1) (lV va) := fun _ _ => rfl
theorem fix_s {k : Nat} : Fix (k + 1) (sV va) := fun _ _ => rfl
theorem fix_l2 {k : Nat} : Fix (k + 1) (l2 va vb) := fun _ _ => rfl
theorem fix_L {k : Nat} (f : Fix k va) : ∀ (xs : List α) h, frzL (frzV k) (xs.map va) h = some (xs.map va, h)
  | [], _ => rfl
  | x :: xs, h => by
    rw [List.map_cons]
    unfold frzL
    rw [f x h]
    simp only
    rw [fix_L f xs h]
theorem fix_t {k : Nat} (f : Fix k va) : Fix (k + 1) (tV va) := fun xs h => by
  show frzV (k + 1) (.tup (xs.map va)) h = _
  unfold frzV
  rw [fix_L f]
theorem fix_p2 {k : Nat} (f : Fix k va) (g : Fix k vb) : Fix (k + 1) (p2 va vb) := fun x h => by
  show frzV (k + 1) (.tup [va x.1, vb x.2]) h = _
  unfold frzV frzL frzL frzL
  have e1 := f x.1 h
  have e2 := g x.2 h
  simp only [e1, e2]
theorem fix_p3 {k : Nat} (f : Fix k va) (g : Fix k vb) (i : Fix k vc) : Fix (k + 1) (p3 va vb vc) := fun x h => by
  show frzV (k + 1) (.tup [va x.1, vb x.2.1, vc x.2.2]) h = _
  unfold frzV frzL frzL frzL frzL
  have e1 := f x.1 h
  have e2 := g x.2.1 h
  have e3 := i x.2.2 h
  simp only [e1, e2, e3]
theorem fix_o {k : Nat} (f : Fix (k + 1) va) : Fix (k + 1) (oV va) := fun x h => by
  cases x with
  | none => rfl
  | some a => exact f a h
theorem fix_ob {C : Str} {ks : List Str} {k : Nat} {xs : α → List MV} : Fix (k + 1) (fun a => .ob C ks (xs a)) := fun _ _ => rfl
/-- what was owned as a value -/
def FrzP (P Q : Pr) : Prop := ∀ v h f, P.r v h f → f.Nodup → ∃ v' h', frzV 8 v h = some (v', h') ∧ Q.r v' h' [] ∧ h'.length = h.length ∧ ∀ n, n ∉ f → h'[n]? = h[n]?
theorem frz_1 (k : Fix 7 va) {xs : List α} : FrzP (own1 va xs) (fz (lV va) xs) := fun v h f r nd => by
  obtain ⟨n, rfl, e, rfl⟩ := rd_own r
  refine ⟨.fl (xs.map va), h.set n .dead, ?_, ⟨rfl, rfl⟩, List.length_set .., fun m hm => ?_⟩
  · unfold frzV
    rw [e]
    simp only
    rw [fix_L k]
    simp only
    rw [e]
  · have : n ≠ m := fun z => hm (by rw [z]; exact List.mem_singleton.mpr rfl)
    rw [List.getElem?_set_ne this]
theorem frz_2L (k : Fix 6 va) {h0 : MH} : ∀ (xss : List (List α)) (ns : List Nat) (h : MH), All2 va h0 xss ns → ns.Nodup → (∀ n ∈ ns, h[n]? = h0[n]?) → ∃ h', frzL (frzV 7) (ns.map .ref) h = some (xss.map (lV va), h') ∧ h'.length = h.length ∧ ∀ n, n ∉ ns → h'[n]? = h[n]?
  | [], [], h, _, _, _ => ⟨h, rfl, rfl, fun _ _ => rfl⟩
  | xs :: xss, n :: ns, h, a, nd, hh => by
    obtain ⟨nd1, nd2⟩ := List.nodup_cons.mp nd
    have e : h[n]? = some (.lst (xs.map va)) := by rw [hh n (List.mem_cons_self ..)]; exact a.1
    obtain ⟨h', e1, l1, o1⟩ := frz_2L k xss ns (h.set n .dead) a.2 nd2 (fun m hm => by
      have : n ≠ m := fun z => nd1 (by rw [z]; exact hm)
      rw [List.getElem?_set_ne this]
      exact hh m (List.mem_cons_of_mem _ hm))
    refine ⟨h', ?_, by rw [l1, List.length_set], fun m hm => ?_⟩
    · rw [List.map_cons]
      unfold frzL frzV
      rw [e]
      simp only
      rw [fix_L k]
      simp only
      rw [e]
      simp only
      rw [e1]
      rfl
    · have : n ≠ m := fun z => hm (by rw [z]; exact List.mem_cons_self ..)
      rw [o1 m fun z => hm (List.mem_cons_of_mem _ z), List.getElem?_set_ne this]
  | [], _ :: _, _, a, _, _ => a.elim
  | _ :: _, [], _, a, _, _ => a.elim
theorem frz_2 (k : Fix 6 va) {xss : List (List α)} : FrzP (own2 va xss) (fz (lV (lV va)) xss) := fun v h f r nd => by
  obtain ⟨n, ns, rfl, e, a, rfl⟩ := r
  obtain ⟨nd1, nd2⟩ := List.nodup_cons.mp nd
  obtain ⟨h', e1, l1, o1⟩ := frz_2L k xss ns h a nd2 (fun _ _ => rfl)
  have e2 : h'[n]? = some (.lst (ns.map .ref)) := by rw [o1 n nd1]; exact e
  refine ⟨.fl (xss.map (lV va)), h'.set n .dead, ?_, ⟨rfl, rfl⟩, by rw [List.length_set, l1], fun m hm => ?_⟩
  · unfold frzV
    rw [e]
    simp only
    rw [e1]
    simp only
    rw [e2]
  · have : n ≠ m := fun z => hm (by rw [z]; exact List.mem_cons_self ..)
    rw [List.getElem?_set_ne this, o1 m fun z => hm (List.mem_cons_of_mem _ z)]
def sameB (tb : Nat → Slot σ) (ix : Nat) : List Nat → Prop
  | [] => True
  | j :: r => (tb j).ix ≠ ix ∧ sameB tb ix r
theorem sameB_at {ix : Nat} : ∀ {D : List Nat}, sameB tb ix D → ∀ j ∈ D, (tb j).ix ≠ ix
  | _ :: _, k, j, hj => by
    rcases List.mem_cons.mp hj with rfl | hj
    · exact k.1
    · exact sameB_at k.2 j hj
theorem Keep.same {st : σ → α → σ} : ∀ {D : List Nat}, Keep tb st ix D → sameB tb ix D
  | [], _ => trivial
  | _ :: _, k => ⟨k.1.1, Keep.same k.2⟩
theorem ts_frz (i i' : Nat) (kb : TS c (i' :: D0) m pa D1) (hf : ∀ s, FrzP ((c.tb i).rep s) ((c.tb i').rep s)) (hx : (c.tb i).ix = ix) (hx' : (c.tb i').ix = ix) (hs : sameB c.tb ix D0) (h0 : subB D0 D = true := by rfl) (hi : D.contains i = true := by rfl) (hN : ix < c.N := by decide) (hp : c.pin.contains ix = false := by rfl) :
    TS c D (sFrz ix m) pa D1 := fun s env h fp R => by
  have hi : i ∈ D := by simpa using hi
  obtain ⟨v, w1, w2⟩ := R.ok i hi
  rw [hx] at w1
  obtain ⟨v', h', e1, q1, l1, o1⟩ := hf s v h (fp i) w2 (R.nd i hi)
  have hsub := subB_ok h0
  have ni : ∀ j ∈ D0, j ≠ i := fun j hj z => sameB_at hs j hj (by rw [z]; exact hx)
  have ni' : ∀ j ∈ D0, j ≠ i' := fun j hj z => sameB_at hs j hj (by rw [z]; exact hx')
  have R1 : RS c.tb c.N (i' :: D0) s (env.set ix (some v')) h' (fun j => if j = i' then [] else fp j) := by
    refine ⟨by rw [List.length_set]; exact R.len, fun j hj => ?_, fun j hj => ?_, fun j hj l hl hjl n hn hm => ?_⟩
    · rcases List.mem_cons.mp hj with rfl | hj
      · exact ⟨v', by rw [hx', List.getElem?_set_self (by rw [R.len]; exact hN)], by rw [if_pos rfl]; exact q1⟩
      · obtain ⟨w, a1, a2⟩ := R.ok j (hsub j hj)
        refine ⟨w, by rw [List.getElem?_set_ne (Ne.symm (sameB_at hs j hj))]; exact a1, ?_⟩
        rw [if_neg (ni' j hj)]
        exact ((c.tb j).rep s).frame a2 fun n hn => o1 n (R.dj j (hsub j hj) i hi (ni j hj) n hn)
    · show (if _ = _ then [] else _).Nodup
      split
      · exact List.nodup_nil
      · rename_i hne
        exact R.nd j (hsub j ((List.mem_cons.mp hj).resolve_left hne))
    · have hn : n ∈ if j = i' then [] else fp j := hn
      have hm : n ∈ if l = i' then [] else fp l := hm
      split at hn
      · cases hn
      · rename_i h1
        split at hm
        · cases hm
        · rename_i h2
          exact R.dj j (hsub j ((List.mem_cons.mp hj).resolve_left h1)) l (hsub l ((List.mem_cons.mp hl).resolve_left h2)) hjl n hn hm
  have hgr : Grow (Wn D fp) (Wn (i' :: D0) (fun j => if j = i' then [] else fp j)) h := fun n ⟨j, hj, hn⟩ => by
    have hn : n ∈ if j = i' then [] else fp j := hn
    split at hn
    · cases hn
    · rename_i h1
      exact .inl ⟨j, hsub j ((List.mem_cons.mp hj).resolve_left h1), hn⟩
  have hxx : sFrz ix m env h = m (env.set ix (some v')) h' := by
    unfold sFrz
    rw [w1]
    simp only
    rw [e1]
  exact TS.after (m := m) (x := sFrz ix m env h) ⟨by rw [l1]; exact Nat.le_refl _, fun n hn hA => o1 n fun z => hA ⟨i, hi, z⟩⟩ hgr (pin_set hp) hxx R1 kb
/-- what a name owns, handed out -/
theorem ts_retO (i : Nat) {get : σ → ρ} (hr : ∀ s, (c.tb i).rep s = c.er (get s)) (hi : D.contains i = true := by rfl) (hx : (c.tb i).ix = ix := by rfl) (hn : c.Dr.contains i = false := by rfl) (hd : subB c.Dr D = true := by rfl) : TS c D (sRet (mV ix)) (yRet (xV get)) D' := by with_unfolding_all exact (fun s env h fp R => by
  have hi : i ∈ D := by simpa using hi
  have hn : i ∉ c.Dr := by simpa using hn
  obtain ⟨v, w1, w2⟩ := R.ok i hi
  rw [hx] at w1
  rw [hr] at w2
  refine ⟨v, env, h, fp i, fp, ?_, R.sub (subB_ok hd), w2, R.nd i hi, fun n hn1 ⟨j, hj, hm⟩ => ?_, Fr.refl, fun n q => ?_, Pin.refl⟩
  · unfold sRet; rw [ev_V w1]
  · exact R.dj i hi j (subB_ok hd j hj) (fun z => hn (z ▸ hj)) n hn1 hm
  · rcases q with q | q
    · exact .inl (Wn.sub (subB_ok hd) q)
    · exact .inl ⟨i, hi, q⟩)
end
end Ty
/-! ## TyG -/
set_option Elab.async false
set_option linter.all false
set_option maxRecDepth 100000
/-! Ty, part G: options, comprehensions, lists of lists, try, objects. -/
namespace Ty
open PySem PySem.Spec PyProof.Rows L2 Mn

section
variable {σ ρ : Type} {tb : Nat → Slot σ} {N : Nat} {c : Cx σ ρ} {D D' D0 D1 D2 : List Nat} {α β γ : Type} {e e1 e2 : ME} {m : MS} {pa : σ → F σ ρ} {p : σ → X σ α} {q : σ → X σ β} {va : α → MV} {vb : β → MV} {vc : γ → MV} {ea : Enc α} {st : σ → α → σ} {i ix : Nat} {ms : MA}
/-! ### options -/
@[irreducible] def xUn (p : σ → X σ (Option α)) : σ → X σ α := fun s => (p s).bind fun a s => match a with
  | some a => .ok a s
  | none => .bad
theorem tp_un {p : σ → X σ (Option α)} (k : TP tb N D e p (fz (oV va))) : TP tb N D e (xUn p) (fz va) := fun s env h fp R => by
  have z := k s env h fp R
  unfold xUn
  cases hp : p s with
  | ok a s' =>
    rw [hp] at z
    obtain ⟨rfl, v, h', f', e1, m, r⟩ := z
    cases a with
    | none => trivial
    | some a => exact ⟨rfl, v, h', f', e1, m, r⟩
  | exc C xs s' => rw [hp] at z; exact z
  | bad => trivial
theorem tx_un {p : σ → X σ (Option α)} (k : TX tb N D e p (fz (oV va))) : TX tb N D e (xUn p) (fz va) := fun s env h fp R => by
  have z := k s env h fp R
  unfold xUn
  cases hp : p s with
  | ok a s' =>
    rw [hp] at z
    cases a with
    | none => trivial
    | some a => exact z
  | exc C xs s' => rw [hp] at z; exact z
  | bad => trivial
theorem tx_some (k : TX tb N D e p (fz va)) : TX tb N D e (x1 some p) (fz (oV va)) := fun s env h fp R => by
  have z := k s env h fp R
  unfold x1
  cases hp : p s with
  | ok a s' => rw [hp] at z; exact z
  | exc C xs s' => rw [hp] at z; exact z
  | bad => trivial
/-- another form of the same value -/
theorem tx_as {g : α → β} (hv : ∀ a, va a = vb (g a)) (k : TX tb N D e p (fz va)) : TX tb N D e (x1 g p) (fz vb) := fun s env h fp R => by
  have z := k s env h fp R
  unfold x1
  cases hp : p s with
  | ok a s' =>
    rw [hp] at z
    obtain ⟨v, h', f, fp', e1, R1, r, q⟩ := z
    exact ⟨v, h', f, fp', e1, R1, ⟨r.1.trans (hv a), r.2⟩, q⟩
  | exc C xs s' => rw [hp] at z; exact z
  | bad => trivial
theorem tp_as {g : α → β} (hv : ∀ a, va a = vb (g a)) (k : TP tb N D e p (fz va)) : TP tb N D e (x1 g p) (fz vb) := fun s env h fp R => by
  have z := k s env h fp R
  unfold x1
  cases hp : p s with
  | ok a s' =>
    rw [hp] at z
    obtain ⟨es, v, h', f, e1, m, r⟩ := z
    exact ⟨es, v, h', f, e1, m, ⟨r.1.trans (hv a), r.2⟩⟩
  | exc C xs s' => rw [hp] at z; exact z
  | bad => trivial
theorem tx_isN (hn : NoN va) {neg : Bool} {p : σ → X σ (Option α)} (k : TX tb N D e p (fz (oV va))) : TX tb N D (m2 (fIsN neg) e (mC .non)) (x1 (fun o => if neg then o.isSome else o.isNone) p) (fz .bl) := tx_1 (f := fun x h => fIsN neg x .non h) (o_isN hn) k
/-! ### comprehensions -/
def xCompL (st : σ → α → σ) (pt : σ → X σ Bool) (pe : σ → X σ β) : List α → List β → σ → Option (List β × σ)
  | [], acc, s => some (acc, s)
  | x :: xs, acc, s => match pt (st s x) with
    | .ok c s1 => if c = true then (match pe s1 with
      | .ok y s2 => if acc.length < sizeLine then xCompL st pt pe xs (acc ++ [y]) s2 else none
      | _ => none) else xCompL st pt pe xs acc s1
    | _ => none
@[irreducible] def xComp (pi : σ → X σ (List α)) (st : σ → α → σ) (pt : σ → X σ Bool) (pe : σ → X σ β) : σ → X σ (List β) := fun s => (pi s).bind fun xs s => match xCompL st pt pe xs [] s with
  | some (ys, s) => .ok ys s
  | none => .bad
@[irreducible] def xYes : σ → X σ Bool := fun s => .ok true s
theorem txt_yes : TXT tb N D tYesM xYes := by with_unfolding_all exact (fun s env h fp R => ⟨h, fp, rfl, R, Fr.refl, Grow.refl⟩)
theorem wipe_len : ∀ (vs : List Nat) (env : MEnv), (wipeM env vs).length = env.length
  | [], _ => rfl
  | v :: vs, env => by unfold wipeM; rw [List.length_set]; exact wipe_len vs env
theorem wipe_get {k : Nat} : ∀ (vs : List Nat) (env : MEnv), k ∉ vs → (wipeM env vs)[k]? = env[k]?
  | [], _, _ => rfl
  | v :: vs, env, h => by
    unfold wipeM
    have : v ≠ k := fun z => h (by rw [z]; exact List.mem_cons_self ..)
    rw [List.getElem?_set_ne this]
    exact wipe_get vs env fun z => h (List.mem_cons_of_mem _ z)
def farB (tb : Nat → Slot σ) (D vs : List Nat) : Bool := D.all fun j => !vs.contains (tb j).ix
theorem farB_ok {vs : List Nat} (k : farB tb D vs = true) : ∀ j ∈ D, (tb j).ix ∉ vs := fun j hj => by
  have := (List.all_eq_true.mp k) j hj
  simpa using this
theorem RS.env {s : σ} {env env' : MEnv} {h : MH} {fp : Nat → List Nat} (R : RS tb N D s env h fp) (hl : env'.length = env.length) (k : ∀ j ∈ D, env'[(tb j).ix]? = env[(tb j).ix]?) : RS tb N D s env' h fp :=
  ⟨by rw [hl]; exact R.len, fun j hj => let ⟨v, e1, e2⟩ := R.ok j hj; ⟨v, by rw [k j hj]; exact e1, e2⟩, R.nd, R.dj⟩
abbrev cxC (tb : Nat → Slot σ) (N : Nat) (D : List Nat) : Cx σ Unit := ⟨tb, N, [], [], [], D.map fun j => (tb j).ix, fz nV⟩
/-- one turn: the item bound, the environment set back -/
theorem comp_in {g : MG} {vs : List Nat} (kg : TG (cxC tb N D) D g st va D1) (hv : farB tb D vs = true) {s : σ} {env : MEnv} {h : MH} {fp : Nat → List Nat} (R : RS tb N D s env h fp) (x : α) :
    ∃ env1 fp1, g (va x) (wipeM env vs) h = .ok env1 h ∧ RS tb N D1 (st s x) env1 h fp1 ∧ (∀ n, Wn D1 fp1 n → Wn D fp n) ∧ ∀ (s2 : σ) (h2 : MH) (fp2 : Nat → List Nat), (∀ j ∈ D, j ∈ D1) → RS tb N D1 s2 env1 h2 fp2 → RS tb N D s2 env h2 fp2 := by
  have R0 : RS tb N D s (wipeM env vs) h fp := R.env (wipe_len vs env) fun j hj => wipe_get vs env (farB_ok hv j hj)
  obtain ⟨env1, fp1, e1, R1, w1, p1⟩ := kg s _ h fp x R0
  refine ⟨env1, fp1, e1, R1, w1, fun s2 h2 fp2 hD R2 => ?_⟩
  refine (R2.sub hD).env (by rw [R.len]; exact R2.len.symm) fun j hj => ?_
  rw [← wipe_get vs env (farB_ok hv j hj)]
  exact (p1 _ (List.mem_map.mpr ⟨j, hj, rfl⟩)).symm
theorem comp_l {g : MG} {vs : List Nat} {t : MT} {pt : σ → X σ Bool} {pe : σ → X σ β} (kg : TG (cxC tb N D) D g st va D1) (hv : farB tb D vs = true) (hD : subB D D1 = true) (kt : TXT tb N D1 t pt) (ke : TX tb N D1 e pe (fz vb)) : ∀ (xs : List α) (acc : List β) s env h fp, RS tb N D s env h fp → match xCompL st pt pe xs acc s with
    | some (ys, s') => ∃ h' fp', compL g t e (wipeM env vs) (xs.map va) (acc.map vb) h = .ok (ys.map vb) h' ∧ RS tb N D s' env h' fp' ∧ Fr (Wn D fp) h h' ∧ Grow (Wn D fp) (Wn D fp') h
    | none => True
  | [], acc, s, env, h, fp, R => ⟨h, fp, rfl, R, Fr.refl, Grow.refl⟩
  | x :: xs, acc, s, env, h, fp, R => by
    have hD := subB_ok hD
    obtain ⟨env1, fp1, e1, R1, w1, back⟩ := comp_in kg hv R x
    unfold xCompL
    rw [List.map_cons]
    unfold compL compT
    rw [e1]
    simp only [Out.nox, Out.bind]
    have z := kt (st s x) env1 h fp1 R1
    cases hp : pt (st s x) with
    | ok cc s1 =>
      rw [hp] at z
      obtain ⟨h1, fp2, e2, R2, fr2, gr2⟩ := z
      rw [e2]
      simp only
      have fr2' : Fr (Wn D fp) h h1 := fr2.weak w1
      have gr2' : Grow (Wn D fp) (Wn D1 fp2) h := fun n q => (gr2 n q).imp (w1 n) id
      cases cc with
      | false =>
        simp only [Bool.false_eq_true, if_false]
        have ih := comp_l kg hv (by assumption) kt ke xs acc s1 env h1 fp2 (back s1 h1 fp2 hD R2)
        cases hc : xCompL st pt pe xs acc s1 with
        | none => trivial
        | some r =>
          obtain ⟨ys, s'⟩ := r
          rw [hc] at ih
          obtain ⟨h', fp', e3, R3, fr3, gr3⟩ := ih
          have g4 : Grow (Wn D fp) (Wn D fp2) h := gr2'.sub fun n q => Wn.sub hD q
          exact ⟨h', fp', e3, R3, fr2'.trans g4 fr3, g4.trans fr2'.len gr3⟩
      | true =>
        simp only [if_true]
        have z2 := ke s1 env1 h1 fp2 R2
        cases hpe : pe s1 with
        | ok y s2 =>
          rw [hpe] at z2
          obtain ⟨v, h2, f, fp3, e3, R3, r3, _, _, fr3, gr3⟩ := z2
          simp only
          by_cases hz : acc.length < sizeLine
          · rw [if_pos hz]
            have g4 : Grow (Wn D fp) (Wn D1 fp3) h := gr2'.trans fr2'.len (gr3.sub fun n q => .inl q)
            have f4 : Fr (Wn D fp) h h2 := fr2'.trans gr2' fr3
            have ih := comp_l kg hv (by assumption) kt ke xs (acc ++ [y]) s2 env h2 fp3 (back s2 h2 fp3 hD R3)
            cases hc : xCompL st pt pe xs (acc ++ [y]) s2 with
            | none => trivial
            | some r =>
              obtain ⟨ys, s'⟩ := r
              rw [hc] at ih
              obtain ⟨h', fp', e4, R4, fr4, gr4⟩ := ih
              have g5 : Grow (Wn D fp) (Wn D fp3) h := g4.sub fun n q => Wn.sub hD q
              refine ⟨h', fp', ?_, R4, f4.trans g5 fr4, g5.trans f4.len gr4⟩
              rw [e3, r3.1]
              simp only
              rw [if_pos (by simpa using hz)]
              rw [List.map_append] at e4
              exact e4
          · rw [if_neg hz]; trivial
        | exc C xs s2 => trivial
        | bad => trivial
    | exc C xs s1 => trivial
    | bad => trivial
theorem tx_comp {it : MIt} {pi : σ → X σ (List α)} {g : MG} {vs : List Nat} {t : MT} {pt : σ → X σ Bool} {pe : σ → X σ β} (ki : TXI tb N D it pi va) (kg : TG (cxC tb N D) D g st va D1) (kt : TXT tb N D1 t pt) (ke : TX tb N D1 e pe (fz vb)) (hv : farB tb D vs = true := by rfl) (hD : subB D D1 = true := by rfl) : TX tb N D (mComp false it g t e vs) (xComp pi st pt pe) (fz (lV vb)) := fun s env h fp R => by
  have z := ki s env h fp R
  unfold xComp mComp
  cases hp : pi s with
  | ok xs s' =>
    rw [hp] at z
    obtain ⟨h', fp', e1, R1, fr, gr⟩ := z
    simp only [X.bind]
    rw [e1]
    simp only [Out.bind]
    have w := comp_l kg hv hD kt ke xs [] s' env h' fp' R1
    cases hc : xCompL st pt pe xs [] s' with
    | none => trivial
    | some r =>
      obtain ⟨ys, s2⟩ := r
      rw [hc] at w
      obtain ⟨h2, fp2, e2, R2, fr2, gr2⟩ := w
      have e2' : compL g t e (wipeM env vs) (xs.map va) [] h' = .ok (ys.map vb) h2 := e2
      refine ⟨_, h2, [], fp2, by rw [e2']; rfl, R2, ⟨rfl, rfl⟩, List.nodup_nil, (fun n hn => nomatch hn), fr.trans gr fr2, (gr.trans fr.len gr2).sub fun n q => q.elim id fun z => nomatch z⟩
  | exc C xs s' =>
    rw [hp] at z
    obtain ⟨h', fp', e1, R1, fr, gr⟩ := z
    exact ⟨h', fp', by rw [e1], R1, fr, gr⟩
  | bad => trivial
theorem tx_compO {it : MIt} {pi : σ → X σ (List α)} {g : MG} {vs : List Nat} {t : MT} {pt : σ → X σ Bool} {pe : σ → X σ β} (ki : TXI tb N D it pi va) (kg : TG (cxC tb N D) D g st va D1) (kt : TXT tb N D1 t pt) (ke : TX tb N D1 e pe (fz vb)) (hv : farB tb D vs = true := by rfl) (hD : subB D D1 = true := by rfl) : TX tb N D (mComp true it g t e vs) (x1 id (xComp pi st pt pe)) (own1 vb) := tx_new fun s env h fp R => by
  have z := ki s env h fp R
  unfold xComp mComp
  cases hp : pi s with
  | ok xs s' =>
    rw [hp] at z
    obtain ⟨h', fp', e1, R1, fr, gr⟩ := z
    simp only [X.bind]
    rw [e1]
    simp only [Out.bind]
    have w := comp_l kg hv hD kt ke xs [] s' env h' fp' R1
    cases hc : xCompL st pt pe xs [] s' with
    | none => trivial
    | some r =>
      obtain ⟨ys, s2⟩ := r
      rw [hc] at w
      obtain ⟨h2, fp2, e2, R2, fr2, gr2⟩ := w
      have e2' : compL g t e (wipeM env vs) (xs.map va) [] h' = .ok (ys.map vb) h2 := e2
      exact ⟨h2, fp2, by rw [e2']; rfl, R2, fr.trans gr fr2, gr.trans fr.len gr2⟩
  | exc C xs s' =>
    rw [hp] at z
    obtain ⟨h', fp', e1, R1, fr, gr⟩ := z
    exact ⟨h', fp', by rw [e1], R1, fr, gr⟩
  | bad => trivial
/-! ### try -/
def yHds : List (List (Str × Bool) × (σ → F σ ρ)) → Str → List MV → σ → F σ ρ
  | [], C, xs, s => .exc C xs s
  | (tab, su) :: r, C, xs, s => match tab.lookup C with
    | some true => (match su s with
      | .exc _ _ _ => .bad
      | o => o)
    | some false => yHds r C xs s
    | none => .bad
@[irreducible] def yTry (b : σ → F σ ρ) (hds : List (List (Str × Bool) × (σ → F σ ρ))) : σ → F σ ρ := fun s => match b s with
  | .exc C xs s' => yHds hds C xs s'
  | o => o
inductive THd (c : Cx σ ρ) (De D1 : List Nat) : List Hd → List (List (Str × Bool) × (σ → F σ ρ)) → Prop
  | nil : THd c De D1 [] []
  | cons {tab : List (Str × Bool)} {su : MV → MS} {ps : σ → F σ ρ} {l : List Hd} {r : List (List (Str × Bool) × (σ → F σ ρ))} (k : TS c De (su .non) ps D1) (t : THd c De D1 l r) : THd c De D1 (⟨tab, none, su⟩ :: l) ((tab, ps) :: r)
theorem ts_hds {De D1 : List Nat} (hx : subB c.Dx De = true) (C : Str) (xs : List MV) : ∀ {l : List Hd} {r : List (List (Str × Bool) × (σ → F σ ρ))}, THd c De D1 l r → TS c De (runHds C xs l) (yHds r C xs) D1
  | _, _, .nil => fun s env h fp R => ⟨env, h, fp, rfl, R.sub (subB_ok hx), Fr.refl, fun n q => .inl (Wn.sub (subB_ok hx) q), Pin.refl⟩
  | _, _, .cons (tab := tab) (su := su) (ps := ps) (l := l) (r := r) k t => fun s env h fp R => by
    have ih := ts_hds hx C xs t s env h fp R
    unfold yHds runHds
    simp only
    cases hl : tab.lookup C with
    | none => trivial
    | some b =>
      cases b with
      | false => exact ih
      | true =>
        simp only
        have z := k s env h fp R
        cases hp : ps s with
        | nx s' => rw [hp] at z; obtain ⟨env', h', fp', e, q⟩ := z; exact ⟨env', h', fp', by rw [e], q⟩
        | bk s' => rw [hp] at z; obtain ⟨env', h', fp', e, q⟩ := z; exact ⟨env', h', fp', by rw [e], q⟩
        | ct s' => rw [hp] at z; obtain ⟨env', h', fp', e, q⟩ := z; exact ⟨env', h', fp', by rw [e], q⟩
        | rt r s' => rw [hp] at z; obtain ⟨v, env', h', f, fp', e, q⟩ := z; exact ⟨v, env', h', f, fp', by rw [e], q⟩
        | exc C xs s' => trivial
        | bad => trivial
theorem ts_try {De : List Nat} {b : MS} {pb : σ → F σ ρ} {hds : List Hd} {r : List (List (Str × Bool) × (σ → F σ ρ))} (kb : TS { c with Dx := De } D b pb D1) (kh : THd c De D1 hds r) (hx : subB c.Dx De = true := by rfl) : TS c D (sTry b hds) (yTry pb r) D1 := fun s env h fp R => by
  have z := kb s env h fp R
  unfold sTry yTry
  cases hp : pb s with
  | nx s' => rw [hp] at z; obtain ⟨env', h', fp', e, q⟩ := z; exact ⟨env', h', fp', by rw [e], q⟩
  | bk s' => rw [hp] at z; obtain ⟨env', h', fp', e, q⟩ := z; exact ⟨env', h', fp', by rw [e], q⟩
  | ct s' => rw [hp] at z; obtain ⟨env', h', fp', e, q⟩ := z; exact ⟨env', h', fp', by rw [e], q⟩
  | rt r s' => rw [hp] at z; obtain ⟨v, env', h', f, fp', e, q⟩ := z; exact ⟨v, env', h', f, fp', by rw [e], q⟩
  | exc C xs s' =>
    rw [hp] at z
    obtain ⟨env', h', fp', e, R', fr, gr, pn⟩ := z
    exact TS.after (c := c) (m := runHds C xs hds) fr gr pn (by rw [e]) R' (ts_hds hx C xs kh)
  | bad => trivial
/-! ### objects -/
/-- an object that is being made -/
def insP (C : Str) (ks : List Str) (xs : List MV) : Pr := ⟨fun v h fp => ∃ n, v = .ref n ∧ h[n]? = some (.ins C ks xs) ∧ fp = [n],
  fun {v h h' fp} q k => by
    obtain ⟨n, e1, e2, e3⟩ := q
    exact ⟨n, e1, by rw [k n (by rw [e3]; exact List.mem_singleton.mpr rfl)]; exact e2, e3⟩,
  fun {v h fp} q n hn => by
    obtain ⟨m, e1, e2, e3⟩ := q
    rw [e3] at hn
    rw [List.mem_singleton.mp hn]
    exact (List.getElem?_eq_some_iff.mp e2).1⟩
/-- an attribute set, the object's name now standing for one attribute more -/
theorem ts_fld {tab : CTab} {x : Str} {C : Str} {ks ks' : List Str} {xs : σ → List MV} (i i' : Nat) (kp : TX c.tb c.N D e p (fz va)) (hg : ∀ s, (c.tb i).rep s = insP C ks (xs s)) (hp : ∀ s a, (c.tb i').rep (st s a) = insP C ks' (putXs x (va a) ks (xs s))) (hks : putKs x ks = ks') (hok : okF tab C x = true) (hlen : ks.length < 1000) (k : Keep c.tb st jx D0) (hs : sameB c.tb ix D0) (hx : (c.tb i).ix = ix := by rfl) (hx' : (c.tb i').ix = ix := by rfl) (h0 : subB D0 D = true := by rfl) (hi : D.contains i = true := by rfl) (hxx : subB c.Dx D = true := by rfl) :
    TS c D (sFldM tab x (mV ix) e) (ySet st p) (i' :: D0) := by with_unfolding_all exact (ts_ex (f := fun v h env => (mV ix env h).andS env fun o h => match o with
      | .ref n => match h[n]? with
        | some (.ins C ks xs) => if okF tab C x = true ∧ ks.length < 1000 then .ok .nx env (h.set n (.ins C (putKs x ks) (putXs x v ks xs))) else .stuck
        | _ => .stuck
      | _ => .stuck) (fun env h => rfl) kp hxx fun a s v env h0' h fp0 fp fv R r nd dj fr gr => by
  have hi : i ∈ D := by simpa using hi
  obtain ⟨w, w1, w2⟩ := R.ok i hi
  rw [hg] at w2
  obtain ⟨n, rfl, w3, w4⟩ := w2
  have w1' := w1
  rw [hx] at w1
  rw [ev_V w1]
  simp only [Out.andS]
  rw [w3]
  simp only
  rw [if_pos ⟨hok, hlen⟩, hks, r.1]
  have hl := (List.getElem?_eq_some_iff.mp w3).1
  have hsub := subB_ok h0
  have ni : ∀ j ∈ D0, j ≠ i := fun j hj z => sameB_at hs j hj (by rw [z]; exact hx)
  have ni' : ∀ j ∈ D0, j ≠ i' := fun j hj z => sameB_at hs j hj (by rw [z]; exact hx')
  refine ⟨env, _, fun j => if j = i' then [n] else fp j, rfl, ⟨R.len, fun j hj => ?_, fun j hj => ?_, fun j hj l hl2 hjl m hm hm2 => ?_⟩, ⟨by rw [List.length_set]; exact fr.len, fun m hm hA => ?_⟩, fun m ⟨j, hj, hm⟩ => ?_, Pin.refl⟩
  · rcases List.mem_cons.mp hj with rfl | hj
    · exact ⟨.ref n, by rw [hx']; exact w1, by rw [if_pos rfl, hp]; exact ⟨n, rfl, List.getElem?_set_self hl, rfl⟩⟩
    · obtain ⟨u, u1, u2⟩ := R.ok j (hsub j hj)
      refine ⟨u, u1, ?_⟩
      rw [if_neg (ni' j hj), (k.at j hj).2]
      refine ((c.tb j).rep s).frame u2 fun m hm => ?_
      have : n ≠ m := fun z => by
        subst z
        exact R.dj j (hsub j hj) i hi (ni j hj) n hm (by rw [w4]; exact List.mem_singleton.mpr rfl)
      rw [List.getElem?_set_ne this]
  · show (if _ = _ then _ else _ : List Nat).Nodup
    split
    · simp
    · rename_i hne
      exact R.nd j (hsub j ((List.mem_cons.mp hj).resolve_left hne))
  · have hm : m ∈ if j = i' then [n] else fp j := hm
    have hm2 : m ∈ if l = i' then [n] else fp l := hm2
    split at hm
    · rename_i h1
      rw [if_neg (fun z => hjl (h1.trans z.symm))] at hm2
      have hl3 := (List.mem_cons.mp hl2).resolve_left (fun z => hjl (h1.trans z.symm))
      rw [List.mem_singleton.mp hm] at hm2
      exact R.dj l (hsub l hl3) i hi (ni l hl3) n hm2 (by rw [w4]; exact List.mem_singleton.mpr rfl)
    · rename_i h1
      have hj3 := (List.mem_cons.mp hj).resolve_left h1
      split at hm2
      · rw [List.mem_singleton.mp hm2] at hm
        exact R.dj j (hsub j hj3) i hi (ni j hj3) n hm (by rw [w4]; exact List.mem_singleton.mpr rfl)
      · rename_i h2
        exact R.dj j (hsub j hj3) l (hsub l ((List.mem_cons.mp hl2).resolve_left h2)) hjl m hm hm2
  · have : n ≠ m := fun z => by
      subst z
      rcases gr n (.inl ⟨i, hi, by rw [w4]; exact List.mem_singleton.mpr rfl⟩) with g | g
      · exact hA g
      · omega
    rw [List.getElem?_set_ne this]
    exact fr.keep m hm hA
  · have hm : m ∈ if j = i' then [n] else fp j := hm
    split at hm
    · exact gr m (.inl ⟨i, hi, by rw [w4]; exact hm⟩)
    · rename_i h1
      exact gr m (.inl ⟨j, hsub j ((List.mem_cons.mp hj).resolve_left h1), hm⟩))
end
/-- what makes a frozen object -/
def TMk {A α : Type} (C : Str) (m : MF) (vs : A → List MV) (fn : A → X Unit α) (vo : α → MV) : Prop := ∀ a h, match fn a with
  | .ok r _ => ∃ h' ks xs, m (.ref h.length :: vs a) (h ++ [.ins C [] []]) = .ok .non h' ∧ h'[h.length]? = some (.ins C ks xs) ∧ vo r = .ob C ks xs ∧ Mono h h'
  | .exc D xs _ => ∃ h', m (.ref h.length :: vs a) (h ++ [.ins C [] []]) = .exc D xs h' ∧ Mono h h'
  | .bad => True
@[irreducible] def yInit {σ A α : Type} (init : A → σ) (out : σ → α) (b : σ → F σ Unit) : A → X Unit α := fun a => match b (init a) with
  | .nx s => .ok (out s) ()
  | .exc C xs _ => .exc C xs ()
  | _ => .bad
theorem tmk_mk {σ A α : Type} {c : Cx σ Unit} {C : Str} {ps : PSpec Unit A} {D0 D1 : List Nat} {m : MS} {b : σ → F σ Unit} {init : A → σ} {out : σ → α} {vs : A → List MV} {vo : α → MV} {ks : List Str} {xs : σ → List MV} (il : Nat) (kb : TS c D0 m b D1)
    (hin : ∀ a, PIn c.tb (.io (fun _ : Unit => insP C [] []) ps) 0 (init a) ((), ()) a) (hvs : ∀ a h, ps.rep () a (vs a) h []) (hout : ∀ s, (c.tb il).rep s = insP C ks (xs s)) (hvo : ∀ s, vo (out s) = .ob C ks (xs s)) (h0 : D0 = List.range (ps.len + 1) := by rfl) (hN : ps.len + 1 ≤ c.N := by decide) (hp : c.pin = [0] := by rfl) (hi : D1.contains il = true := by rfl) (hx : (c.tb il).ix = 0 := by rfl) :
    TMk C (runF c.N m) vs (yInit init out b) vo := fun a h => by
  let ps1 : PSpec (Unit × Unit) A := .io (fun _ : Unit => insP C [] []) ps
  have q : ps1.rep ((), ()) a (.ref h.length :: vs a) (h ++ [.ins C [] []]) [[h.length]] := ⟨_, _, _, _, rfl, rfl, ⟨_, rfl, app_same, rfl⟩, hvs a _⟩
  have nd : [[h.length]].flatten.Nodup := by simp
  have hl := ps1.rep_len q
  have hl1 : ps1.len = ps.len + 1 := rfl
  have R0 : RS c.tb c.N D0 (init a) ((MV.ref h.length :: vs a).map some ++ List.replicate (c.N - (MV.ref h.length :: vs a).length) none) (h ++ [.ins C [] []]) (ps1.fpp 0 [[h.length]]) := by
    obtain ⟨n1, n2⟩ := fpp_nd ps1 0 q nd
    refine ⟨?_, fun j hj => ?_, fun j _ => n1 j, fun j _ l _ hjl => n2 j l hjl⟩
    · rw [List.length_append, List.length_map, List.length_replicate]; omega
    · rw [h0] at hj
      have := pin_ok (N := c.N - (MV.ref h.length :: vs a).length) ps1 0 (pre := []) (hin a) q rfl j (Nat.zero_le _) (by rw [hl1]; have := List.mem_range.mp hj; omega)
      simpa using this
  have w0 : ∀ n, Wn D0 (ps1.fpp 0 [[h.length]]) n → n = h.length := fun n ⟨j, _, hn⟩ => by simpa using fpp_mem ps1 0 q j n hn
  have mo : ∀ {h' : MH}, Fr (Wn D0 (ps1.fpp 0 [[h.length]])) (h ++ [.ins C [] []]) h' → Mono h h' := fun {h'} fr => ⟨by have := fr.len; rw [List.length_append] at this; omega, fun n hn => by
    rw [fr.keep n (by rw [List.length_append]; omega) (fun z => by have := w0 n z; omega), List.getElem?_append_left hn]⟩
  have z := kb _ _ _ _ R0
  unfold yInit runF
  cases hb : b (init a) with
  | nx s' =>
    rw [hb] at z
    obtain ⟨env', h', fp', e, R', fr, gr, pn⟩ := z
    obtain ⟨v, v1, v2⟩ := R'.ok il (by simpa using hi)
    rw [hx, pn 0 (by rw [hp]; exact List.mem_singleton.mpr rfl)] at v1
    have v1 : some (some (MV.ref h.length)) = some (some v) := v1
    have v1 := Option.some.inj (Option.some.inj v1)
    subst v1
    rw [hout] at v2
    obtain ⟨n, e1, e2, e3⟩ := v2
    cases e1
    exact ⟨h', ks, xs s', by rw [e], e2, hvo s', mo fr⟩
  | exc D xs s' =>
    rw [hb] at z
    obtain ⟨env', h', fp', e, R', fr, gr, pn⟩ := z
    exact ⟨h', by rw [e], mo fr⟩
  | rt r s' => trivial
  | bk s' => trivial
  | ct s' => trivial
  | bad => trivial
section
variable {σ : Type} {tb : Nat → Slot σ} {N : Nat} {D : List Nat} {A α ρ : Type} {ms : MA} {p : σ → X σ A} {vs : A → List MV} {vo : α → MV}
@[irreducible] def xMake (fn : A → X Unit α) (p : σ → X σ A) : σ → X σ α := fun s => (p s).bind fun a s => match fn a with
  | .ok r _ => .ok r s
  | .exc C xs _ => .exc C xs s
  | .bad => .bad
theorem tx_make {C : Str} {m : MF} {fn : A → X Unit α} {n : Nat} (km : TMk C m vs fn vo) (kp : TXA tb N D ms p vs) (hn : ∀ a, (vs a).length + 1 = n) : TX tb N D (mMake C true n m ms) (xMake fn p) (fz vo) := fun s env h fp R => by
  have z := kp s env h fp R
  unfold xMake mMake
  cases hp : p s with
  | ok a s' =>
    rw [hp] at z
    obtain ⟨h', fp', e1, R1, fr, gr⟩ := z
    simp only [X.bind]
    rw [e1]
    simp only [Out.bind]
    rw [if_pos (hn a)]
    have z2 := km a h'
    cases hf : fn a with
    | ok r u =>
      rw [hf] at z2
      obtain ⟨h2, ks, xs, e2, e3, e4, mo⟩ := z2
      rw [e2]
      simp only [if_true]
      rw [e3]
      simp only
      have mo2 : Mono h' (h2.set h'.length .dead) := ⟨by rw [List.length_set]; exact mo.len, fun k hk => by rw [List.getElem?_set_ne (by omega)]; exact mo.keep k hk⟩
      exact ⟨_, _, [], fp', rfl, R1.mono mo2, ⟨e4.symm, rfl⟩, List.nodup_nil, (fun n hn => nomatch hn), fr.trans gr mo2.fr, gr.sub fun n q => q.elim id fun z => nomatch z⟩
    | exc C xs u =>
      rw [hf] at z2
      obtain ⟨h2, e2, mo⟩ := z2
      rw [e2]
      exact ⟨h2, fp', rfl, R1.mono mo, fr.trans gr mo.fr, gr⟩
    | bad => trivial
  | exc C xs s' =>
    rw [hp] at z
    obtain ⟨h', fp', e1, R1, fr, gr⟩ := z
    exact ⟨h', fp', by rw [e1], R1, fr, gr⟩
  | bad => trivial
/-- an object called -/
theorem tx_callO {I B : Type} {ps : PSpec I B} {m : MF} {fn : I → (α × B) → X I ρ} {er : Enc ρ} {ids : List Nat} {mo : ME} {po : σ → X σ α} {pb : σ → X σ B} {get : σ → I} {put : σ → I → σ} {n : Nat} {C : Str} {ks : List Str} {xs : α → List MV} (hv : ∀ a, vo a = .ob C ks (xs a)) (kf : TFun (.fr vo ps) m fn er) (ko : TX tb N D mo po (fz vo)) (kp : TXP tb N D ms ps ids pb)
    (hg : ∀ s, IoOk tb ps ids s (get s)) (hp : ∀ s i, IoOk tb ps ids (put s i) i) (ho : ∀ j ∈ D, j ∉ ids → ∀ s i, (tb j).rep (put s i) = (tb j).rep s) (hs : subB ids D = true := by rfl) (hn : ids.Nodup := by decide) (hl : ps.len + 1 = n := by rfl) : TX tb N D (mCallO C n m mo ms) (xCall fn get put (xCs po pb)) er :=
  fun s env h fp R => by
  have base := tx_callG (ps := .fr vo ps) (ms := maC mo ms) (mCall_hm (n := n) hl) kf (txp_f ko kp) hg hp ho (subB_ok hs) hn s env h fp R
  have z := ko s env h fp R
  unfold xCall xCs at base ⊢
  cases hpo : po s with
  | bad => trivial
  | ok a s' =>
    rw [hpo] at z base
    obtain ⟨v, h', f', fp', e1, R1, r, _⟩ := z
    have e : mCallO C n m mo ms env h = mCall n m (maC mo ms) env h := by
      unfold mCallO mCall maC
      rw [e1, r.1, hv]
      simp only [Out.bind, isIns, if_true, insAt]
      cases ms env h' with
      | ok xs' h2 => simp
      | exc _ _ _ => rfl
      | stuck => rfl
    rw [e]
    exact base
  | exc D xs' s' =>
    rw [hpo] at z base
    obtain ⟨h', fp', e1, _⟩ := z
    have e : mCallO C n m mo ms env h = mCall n m (maC mo ms) env h := by
      unfold mCallO mCall maC
      rw [e1]
    rw [e]
    exact base
end
end Ty
/-! ## TyH -/
set_option Elab.async false
set_option linter.all false
set_option maxRecDepth 100000
/-! Ty, part H: more of expressions; calls with changed names. -/
namespace Ty
open PySem PySem.Spec PyProof.Rows L2 Mn

section
variable {σ ρ : Type} {tb : Nat → Slot σ} {N : Nat} {c : Cx σ ρ} {D D' D0 D1 D2 : List Nat} {α β γ : Type} {e e1 e2 : ME} {m : MS} {pa : σ → F σ ρ} {p : σ → X σ α} {q : σ → X σ β} {va : α → MV} {vb : β → MV} {vc : γ → MV} {ea : Enc α} {eb : Enc β} {st : σ → α → σ} {i ix : Nat} {ms : MA}
theorem f_fldT {y : MV} {h : MH} {C : Str} {ks : List Str} {xs : List MV} {tab : CTab} {f : Str} {d : MV} (hi : insAt h y = some (C, ks, xs)) (ok : okF tab C f = true) (hd : fldOf ks xs f = some d) : fFld tab f y h = .ok d h := by
  unfold fFld
  rw [hi]
  simp only
  rw [if_pos ok, hd]
theorem tp_pr {d : MV} {f : MV → MV → MH → Out MV} {pr : α → γ} (hv : ∀ a h, f (va a) d h = .ok (vc (pr a)) h) (k : TP tb N D e p (fz va)) : TP tb N D (m2 f e (mC d)) (x1 pr p) (fz vc) :=
  tp_1 (f := fun x h => f x d h) (Op1.rd fun a c h e => by cases e; exact hv a h) k
theorem tx_pr {d : MV} {f : MV → MV → MH → Out MV} {pr : α → γ} (hv : ∀ a h, f (va a) d h = .ok (vc (pr a)) h) (k : TX tb N D e p (fz va)) : TX tb N D (m2 f e (mC d)) (x1 pr p) (fz vc) :=
  tx_1 (f := fun x h => f x d h) (fun a c h e => by cases e; exact hv a h) k
theorem o_isNT (hn : NoN va) {neg : Bool} : ∀ a h, fIsN neg (va a) .non h = .ok (.bl neg) h := fun a h => by
  cases neg with
  | true => exact f_notN0 (hn a)
  | false => exact f_isN0 (hn a)
theorem tx_sl {f : MV → Option Int → Option Int → MH → Out MV} {va : List α → MV} {vc : List α → MV} {p : σ → X σ (List α)} {l r : MI} {pl pr : σ → X σ (Option Int)} (o : OpSl f (fz va) vc) (k1 : TX tb N D e p (fz va)) (k2 : TPI tb N D l pl) (k3 : TPI tb N D r pr) : TX tb N D (mSl f e l r) (xSl p pl pr) (fz vc) := fun s env h fp R => by
  have z := k1 s env h fp R
  unfold xSl mSl
  cases hp : p s with
  | ok a s' =>
    rw [hp] at z
    obtain ⟨v, h', f', fp', e1, R1, rr, _, _, fr, gr⟩ := z
    have gr' : Grow (Wn D fp) (Wn D fp') h := gr.sub fun n q => .inl q
    simp only [X.bind]
    rw [e1]
    simp only [Out.bind]
    have z2 := k2 s' env h' fp' R1
    cases hq : pl s' with
    | ok lo s2 =>
      rw [hq] at z2
      obtain ⟨rfl, h2, e2, m2⟩ := z2
      simp only
      rw [e2]; simp only
      have z3 := k3 s2 env h2 fp' (R1.mono m2)
      cases hr : pr s2 with
      | ok hi s3 =>
        rw [hr] at z3
        obtain ⟨rfl, h3, e3, m3⟩ := z3
        refine ⟨_, h3, [], fp', ?_, R1.mono (m2.trans m3), ⟨rfl, rfl⟩, List.nodup_nil, (fun n hn => nomatch hn), fr.trans gr' (m2.trans m3).fr, gr'.sub fun n q => q.elim id fun z => nomatch z⟩
        rw [e3]
        exact o a v [] h3 lo hi ⟨rr.1, rfl⟩
      | exc C xs s3 =>
        rw [hr] at z3
        obtain ⟨rfl, h3, e3, m3⟩ := z3
        exact ⟨h3, fp', by rw [e3], R1.mono (m2.trans m3), fr.trans gr' (m2.trans m3).fr, gr'⟩
      | bad => trivial
    | exc C xs s2 =>
      rw [hq] at z2
      obtain ⟨rfl, h2, e2, m2⟩ := z2
      exact ⟨h2, fp', by rw [e2], R1.mono m2, fr.trans gr' m2.fr, gr'⟩
    | bad => trivial
  | exc C xs s' =>
    rw [hp] at z
    obtain ⟨h', fp', e1, R1, fr, gr⟩ := z
    exact ⟨h', fp', by rw [e1], R1, fr, gr⟩
  | bad => trivial
/-! lists that are added, repeated -/
def LsW (ea : Enc (List α)) (va : α → MV) : Prop := ∀ xs v h f, (ea xs).r v h f → (∃ ys, v = .fl ys ∧ ys = xs.map va) ∨ ∃ n, v = .ref n ∧ h[n]? = some (.lst (xs.map va))
theorem lw_l : LsW (fz (lV va)) va := fun xs v h f r => .inl ⟨_, r.1, rfl⟩
theorem lw_o : LsW (own1 va) va := fun xs v h f r => by
  obtain ⟨n, rfl, e, _⟩ := rd_own r
  exact .inr ⟨n, rfl, e⟩
theorem wl_l {ys : List MV} {h : MH} : wlst h (.fl ys) = some ys := rfl
theorem wl_r {ys : List MV} {h : MH} {n : Nat} (e : h[n]? = some (.lst ys)) : wlst h (.ref n) = some ys := by unfold wlst; simp only; rw [e]
theorem add_gen {b : Bool} {x y : MV} {xs ys : List MV} {h : MH} (hx : x = .fl xs ∨ ∃ n, x = .ref n ∧ h[n]? = some (.lst xs)) (hy : y = .fl ys ∨ ∃ n, y = .ref n ∧ h[n]? = some (.lst ys)) (hz : xs.length + ys.length ≤ sizeLine) : fAdd b x y h = retL b (xs ++ ys) h := by
  rcases hx with rfl | ⟨n, rfl, e1⟩
  · rcases hy with rfl | ⟨m, rfl, e2⟩
    · unfold fAdd; simp only [wl_l]; rw [if_pos hz]
    · unfold fAdd; simp only [wl_l, wl_r e2]; rw [if_pos hz]
  · rcases hy with rfl | ⟨m, rfl, e2⟩
    · unfold fAdd; simp only [wl_l, wl_r e1]; rw [if_pos hz]
    · unfold fAdd; simp only [wl_r e1, wl_r e2]; rw [if_pos hz]
theorem o_addG {ea eb : Enc (List α)} (wa : LsW ea va) (wb : LsW eb va) {b : Bool} : ∀ xs ys c u v f1 f2 h, (ea xs).r u h f1 → (eb ys).r v h f2 → gCat xs ys = some c → fAdd b u v h = retL b (c.map va) h := fun xs ys c u v f1 f2 h r1 r2 e => by
  unfold gCat at e
  by_cases q : xs.length + ys.length ≤ sizeLine
  · rw [if_pos q] at e; cases e
    rw [add_gen (xs := xs.map va) (ys := ys.map va) ((wa xs u h f1 r1).imp (fun ⟨_, a, b⟩ => by rw [a, b]) id) ((wb ys v h f2 r2).imp (fun ⟨_, a, b⟩ => by rw [a, b]) id) (by simpa using q), List.map_append]
  · rw [if_neg q] at e; cases e
theorem o_addL {ea eb : Enc (List α)} (wa : LsW ea va) (wb : LsW eb va) : Rd2 (fAdd false) gCat ea eb (lV va) := fun xs ys c u v f1 f2 h r1 r2 e => o_addG wa wb xs ys c u v f1 f2 h r1 r2 e
theorem o_addLF : Op2 (fAdd false) gCat (lV va) (lV va) (lV va) := fun xs ys c h e => o_addL lw_l lw_l xs ys c _ _ [] [] h ⟨rfl, rfl⟩ ⟨rfl, rfl⟩ e
@[reducible] def gRep (xs : List α) (k : Int) : Option (List α) := if -(2 ^ 63) ≤ k ∧ k < 2 ^ 63 ∧ xs.length * k.toNat ≤ sizeLine then some (List.replicate k.toNat xs).flatten else none
theorem flat_map {f : α → MV} {xs : List α} : ∀ n : Nat, (List.replicate n (xs.map f)).flatten = (List.replicate n xs).flatten.map f
  | 0 => rfl
  | n + 1 => by rw [List.replicate_succ, List.replicate_succ, List.flatten_cons, List.flatten_cons, List.map_append, flat_map n]
theorem o_repG {ea : Enc (List α)} (wa : LsW ea va) {b : Bool} : ∀ xs k c u v f1 f2 h, (ea xs).r u h f1 → (fz MV.int k).r v h f2 → gRep xs k = some c → fMul b u v h = retL b (c.map va) h := fun xs k c u v f1 f2 h r1 r2 e => by
  unfold gRep at e
  rw [r2.1]
  by_cases q : -(2 ^ 63) ≤ k ∧ k < 2 ^ 63 ∧ xs.length * k.toNat ≤ sizeLine
  · rw [if_pos q] at e; cases e
    have q' : -(2 ^ 63) ≤ k ∧ k < 2 ^ 63 ∧ (xs.map va).length * k.toNat ≤ sizeLine := by simpa using q
    rcases wa xs u h f1 r1 with ⟨ys, rfl, rfl⟩ | ⟨n, rfl, e1⟩
    · unfold fMul; simp only [wl_l]; rw [if_pos q', flat_map]
    · unfold fMul; simp only [wl_r e1]; rw [if_pos q', flat_map]
  · rw [if_neg q] at e; cases e
theorem o_rep {ea : Enc (List α)} (wa : LsW ea va) : Rd2 (fMul false) gRep ea (fz .int) (lV va) := fun xs k c u v f1 f2 h r1 r2 e => o_repG wa xs k c u v f1 f2 h r1 r2 e
theorem o_repF : Op2 (fMul false) gRep (lV va) .int (lV va) := fun xs k c h e => o_rep lw_l xs k c _ _ [] [] h ⟨rfl, rfl⟩ ⟨rfl, rfl⟩ e
/-- two that are read make a new list -/
theorem tx_new2 {f : MV → MV → MH → Out MV} {g : α → β → Option (List γ)} (o : ∀ a b c u v f1 f2 h, (ea a).r u h f1 → (eb b).r v h f2 → g a b = some c → f u v h = retL true (c.map vc) h) (k1 : TP tb N D e1 p ea) (k2 : TP tb N D e2 q eb) : TX tb N D (m2 f e1 e2) (x1 id (x2o g p q)) (own1 vc) := tx_new fun s env h fp R => by
  have z := k1 s env h fp R
  unfold x2o m2
  cases hp : p s with
  | ok a s' =>
    rw [hp] at z
    obtain ⟨rfl, v, h', f', e1, m, r⟩ := z
    simp only [X.bind]
    rw [e1]
    simp only [Out.bind]
    have z2 := k2 s' env h' fp (R.mono m)
    cases hq : q s' with
    | ok b s2 =>
      rw [hq] at z2
      obtain ⟨rfl, w, h2, f2, e2, m2, r2⟩ := z2
      simp only
      cases hg : g a b with
      | none => trivial
      | some c =>
        refine ⟨h2, fp, ?_, R.mono (m.trans m2), (m.trans m2).fr, Grow.refl⟩
        rw [e2]
        exact o a b c v w f' f2 h2 ((ea a).frame r fun n hn => m2.keep n ((ea a).dom r n hn)) r2 hg
    | exc C xs s2 =>
      rw [hq] at z2
      obtain ⟨rfl, h2, e2, m2⟩ := z2
      exact ⟨h2, fp, by rw [e2], R.mono (m.trans m2), (m.trans m2).fr, Grow.refl⟩
    | bad => trivial
  | exc C xs s' =>
    rw [hp] at z
    obtain ⟨rfl, h', e1, m⟩ := z
    exact ⟨h', fp, by rw [e1], R.mono m, m.fr, Grow.refl⟩
  | bad => trivial
theorem sl_new {f : MV → Option Int → Option Int → MH → Out MV} {l r : MI} {p : σ → X σ (List α)} {pl pr : σ → X σ (Option Int)} {ea : Enc (List α)} (o : ∀ xs v fp h lo hi, (ea xs).r v h fp → f v lo hi h = retL true ((gCut xs lo hi).map va) h) (k1 : TP tb N D e p ea) (k2 : TPI tb N D l pl) (k3 : TPI tb N D r pr) : TX tb N D (mSl f e l r) (x1 id (xSl p pl pr)) (own1 va) := tx_new fun s env h fp R => by
  have z := k1 s env h fp R
  unfold xSl mSl
  cases hp : p s with
  | ok a s' =>
    rw [hp] at z
    obtain ⟨rfl, v, h', f', e1, m, rr⟩ := z
    simp only [X.bind]
    rw [e1]
    simp only [Out.bind]
    have z2 := k2 s' env h' fp (R.mono m)
    cases hq : pl s' with
    | ok lo s2 =>
      rw [hq] at z2
      obtain ⟨rfl, h2, e2, m2⟩ := z2
      simp only
      rw [e2]; simp only
      have z3 := k3 s2 env h2 fp (R.mono (m.trans m2))
      cases hr : pr s2 with
      | ok hi s3 =>
        rw [hr] at z3
        obtain ⟨rfl, h3, e3, m3⟩ := z3
        refine ⟨h3, fp, ?_, R.mono (m.trans (m2.trans m3)), (m.trans (m2.trans m3)).fr, Grow.refl⟩
        rw [e3]
        exact o a v f' h3 lo hi ((ea a).frame rr fun n hn => (m2.trans m3).keep n ((ea a).dom rr n hn))
      | exc C xs s3 =>
        rw [hr] at z3
        obtain ⟨rfl, h3, e3, m3⟩ := z3
        exact ⟨h3, fp, by rw [e3], R.mono (m.trans (m2.trans m3)), (m.trans (m2.trans m3)).fr, Grow.refl⟩
      | bad => trivial
    | exc C xs s2 =>
      rw [hq] at z2
      obtain ⟨rfl, h2, e2, m2⟩ := z2
      exact ⟨h2, fp, by rw [e2], R.mono (m.trans m2), (m.trans m2).fr, Grow.refl⟩
    | bad => trivial
  | exc C xs s' =>
    rw [hp] at z
    obtain ⟨rfl, h', e1, m⟩ := z
    exact ⟨h', fp, by rw [e1], R.mono m, m.fr, Grow.refl⟩
  | bad => trivial
theorem os_lN : ∀ xs v fp h lo hi, (fz (lV va) xs).r v h fp → fSl true v lo hi h = retL true ((gCut xs lo hi).map va) h := fun xs v fp h lo hi r => by
  rw [r.1, f_slF, cut_map]
theorem os_oN : ∀ xs v fp h lo hi, (own1 va xs).r v h fp → fSl true v lo hi h = retL true ((gCut xs lo hi).map va) h := fun xs v fp h lo hi r => by
  obtain ⟨n, rfl, e, _⟩ := rd_own r
  rw [f_slR e, cut_map]
/-! ### calls with changed names -/
theorem tx_callK1 {A α ρ : Type} {ps : PSpec (α × Unit) A} {m : MF} {fn : α × Unit → A → X (α × Unit) ρ} {er : Enc ρ} {ms : MA} {p : σ → X σ A} {n : Nat} {get : σ → α} {put : σ → α → σ} (i : Nat) (kf : TFun ps m fn er) (kp : TXP tb N D ms ps [i] p)
    (hg : ∀ s : σ, IoOk tb ps [i] s (get s, ())) (hp : ∀ (s : σ) a, IoOk tb ps [i] (put s a) (a, ())) (k : Keep tb put ix D0) (hb : butB i D D0 = true := by rfl) (hi : D.contains i = true := by rfl) (hn : ps.len = n := by rfl) : TX tb N D (mCall n m ms) (xCall fn (fun s => (get s, ())) (fun s a => put s a.1) p) er :=
  tx_call1 kf kp hg (fun s a => hp s a.1) (fun j hj hn s a => (k.at j (butB_ok hb j hj fun z => hn (by rw [z]; exact List.mem_singleton.mpr rfl))).2 s a.1) hi hn
def but2 (i1 i2 : Nat) (D D1 D2 : List Nat) : Bool := D.all fun j => j == i1 || j == i2 || (D1.contains j && D2.contains j)
theorem tx_callK2 {A α β ρ : Type} {ps : PSpec (α × β × Unit) A} {m : MF} {fn : α × β × Unit → A → X (α × β × Unit) ρ} {er : Enc ρ} {ms : MA} {p : σ → X σ A} {n ix1 ix2 : Nat} {get1 : σ → α} {put1 : σ → α → σ} {get2 : σ → β} {put2 : σ → β → σ} (i1 i2 : Nat) (kf : TFun ps m fn er) (kp : TXP tb N D ms ps [i1, i2] p)
    (hg : ∀ s : σ, IoOk tb ps [i1, i2] s (get1 s, get2 s, ())) (hp : ∀ (s : σ) a b, IoOk tb ps [i1, i2] (put2 (put1 s a) b) (a, b, ())) (k1 : Keep tb put1 ix1 D1) (k2 : Keep tb put2 ix2 D2) (hb : but2 i1 i2 D D1 D2 = true := by rfl) (hi : subB [i1, i2] D = true := by rfl) (hd : (i1 == i2) = false := by rfl) (hn : ps.len = n := by rfl) : TX tb N D (mCall n m ms) (xCall fn (fun s => (get1 s, get2 s, ())) (fun s a => put2 (put1 s a.1) a.2.1) p) er :=
  tx_callN kf kp hg (fun s a => hp s a.1 a.2.1) (fun j hj hn s a => by
    have := (List.all_eq_true.mp hb) j hj
    simp only [Bool.or_eq_true, beq_iff_eq, Bool.and_eq_true] at this
    have n1 : j ≠ i1 := fun z => hn (by rw [z]; simp)
    have n2 : j ≠ i2 := fun z => hn (by rw [z]; simp)
    rcases this with (h | h) | h
    · exact absurd h n1
    · exact absurd h n2
    · have a1 : j ∈ D1 := by simpa using h.1
      have a2 : j ∈ D2 := by simpa using h.2
      rw [(k2.at j a2).2, (k1.at j a1).2]) hi (by
    have : i1 ≠ i2 := by simpa using hd
    simp [this]) hn
end
end Ty
/-! ## TyI -/
set_option Elab.async false
set_option linter.all false
set_option maxRecDepth 100000
/-! Ty, part I: rows turned round, lists of lists. -/
namespace Ty
open PySem PySem.Spec PyProof.Rows L2 Mn

section
variable {σ ρ : Type} {tb : Nat → Slot σ} {N : Nat} {c : Cx σ ρ} {D D' D0 D1 D2 : List Nat} {α β γ : Type} {e e1 e2 : ME} {m : MS} {pa : σ → F σ ρ} {p : σ → X σ α} {q : σ → X σ β} {va : α → MV} {vb : β → MV} {vc : γ → MV} {ea : Enc α} {eb : Enc β} {st : σ → α → σ} {i ix : Nat} {ms : MA}
def fRev (v : MV) (h : MH) : Out MV := match lstAt h v with
  | some xs => .ok (.fl xs.reverse) h
  | none => .stuck
theorem mRev_eq : mRev false e = m1 fRev e := by
  funext env h
  unfold mRev m1 fRev
  cases e env h with
  | ok x h1 => simp only [Out.bind]; cases lstAt h1 x <;> rfl
  | exc _ _ _ => rfl
  | stuck => rfl
theorem r_rev {ea : Enc (List α)} (q : LsV' ea va) : Rd1 fRev (fun xs : List α => some xs.reverse) ea (lV va) := fun xs c v f h r e => by
  cases e
  unfold fRev
  rw [q xs v h f r]
  show Out.ok (MV.fl (xs.map va).reverse) h = .ok (.fl (xs.reverse.map va)) h
  rw [List.map_reverse]
theorem tp_rev {ea : Enc (List α)} {p : σ → X σ (List α)} (o : LsV' ea va) (k : TP tb N D e p ea) : TP tb N D (mRev false e) (x1 (fun xs => xs.reverse) p) (fz (lV va)) := by
  rw [mRev_eq]; exact tp_1 (r_rev o) k
theorem mo_ext2L : MOp (γ := Unit) fExtend2 gExt va (fun b : List α × Unit => lV va b.1 :: []) nV := fun xs b n h ys c e g => mo_ext xs b n h ys c e g
theorem mo_ext2T : MOp (γ := Unit) fExtend2 gExt va (fun b : List α × Unit => tV va b.1 :: []) nV := fun xs b n h ys c e g => by
  unfold gExt at g
  by_cases q : xs.length + b.1.length ≤ sizeLine
  · rw [if_pos q] at g
    cases g
    unfold fExtend2
    simp only
    rw [e]
    simp only
    rw [if_pos (by simpa using q), List.map_append]
  · rw [if_neg q] at g; cases g
/-! ### lists of lists -/
theorem All2.at {h : MH} : ∀ {xss : List (List α)} {ns : List Nat} {j : Nat} {xs : List α}, All2 va h xss ns → xss[j]? = some xs → ∃ m, ns[j]? = some m ∧ h[m]? = some (.lst (xs.map va))
  | x :: xss, n :: ns, 0, xs, a, e => by
    have : x = xs := by simpa using e
    subst this
    exact ⟨n, rfl, a.1⟩
  | _ :: xss, _ :: ns, j + 1, xs, a, e => by
    obtain ⟨m, e1, e2⟩ := All2.at (j := j) a.2 (by simpa using e)
    exact ⟨m, by simpa using e1, e2⟩
  | [], [], _, _, _, e => by simp at e
  | [], _ :: _, _, _, a, _ => a.elim
  | _ :: _, [], _, _, a, _ => a.elim
theorem All2.set {h : MH} {ys : List α} {m : Nat} : ∀ {xss : List (List α)} {ns : List Nat} {j : Nat}, All2 va h xss ns → ns[j]? = some m → ns.Nodup → m < h.length → All2 va (h.set m (.lst (ys.map va))) (xss.set j ys) ns
  | x :: xss, n :: ns, 0, a, e, nd, hl => by
    have : n = m := by simpa using e
    subst this
    obtain ⟨n1, _⟩ := List.nodup_cons.mp nd
    refine ⟨List.getElem?_set_self hl, a.2.frame fun k hk => ?_⟩
    have : n ≠ k := fun z => n1 (by rw [z]; exact hk)
    rw [List.getElem?_set_ne this]
  | x :: xss, n :: ns, j + 1, a, e, nd, hl => by
    obtain ⟨n1, n2⟩ := List.nodup_cons.mp nd
    have e' : ns[j]? = some m := by simpa using e
    have hne : m ≠ n := fun z => n1 (z ▸ List.mem_of_getElem? e')
    exact ⟨by rw [List.getElem?_set_ne hne]; exact a.1, All2.set a.2 e' n2 hl⟩
  | [], [], _, _, e, _, _ => by simp at e
  | [], _ :: _, _, a, _, _, _ => a.elim
  | _ :: _, [], _, a, _, _, _ => a.elim
theorem ixN_lt {n : Nat} {k : Int} {j : Nat} (h : ixN n k = some j) : j < n := (ixN_seq h).2.1
theorem tp_ix2 {p : σ → X σ (List (List α))} {q : σ → X σ Int} (k1 : TP tb N D e1 p (own2 va)) (k2 : TP tb N D e2 q (fz .int)) : TP tb N D (m2 fIx e1 e2) (x2o gIx p q) (own1 va) := fun s env h fp R => by
  have z := k1 s env h fp R
  unfold x2o m2
  cases hp : p s with
  | ok a s' =>
    rw [hp] at z
    obtain ⟨rfl, v, h', f', e1, m, r⟩ := z
    simp only [X.bind]
    rw [e1]
    simp only [Out.bind]
    have z2 := k2 s' env h' fp (R.mono m)
    cases hq : q s' with
    | ok b s2 =>
      rw [hq] at z2
      obtain ⟨rfl, w, h2, f2, e2, m2, r2⟩ := z2
      simp only
      cases hg : gIx a b with
      | none => trivial
      | some xs =>
        have r' := (own2 va a).frame r fun n hn => m2.keep n ((own2 va a).dom r n hn)
        obtain ⟨n, ns, rfl, hn, al, hf⟩ := r'
        unfold gIx atI at hg
        have hlen := al.len
        cases hj : ixN a.length b with
        | none => rw [hj] at hg; cases hg
        | some j =>
          rw [hj] at hg
          have hg : a[j]? = some xs := hg
          obtain ⟨k, k1, k2⟩ := al.at hg
          refine ⟨rfl, .ref k, h2, [k], ?_, m.trans m2, k, rfl, k2, rfl⟩
          rw [e2, r2.1]
          refine f_ix (seq_R hn) ?_
          unfold atI
          rw [List.length_map, hlen, hj]
          show (ns.map MV.ref)[j]? = _
          rw [List.getElem?_map, k1]; rfl
    | exc C xs s2 =>
      rw [hq] at z2
      obtain ⟨rfl, h2, e2, m2⟩ := z2
      exact ⟨rfl, h2, by rw [e2], m.trans m2⟩
    | bad => trivial
  | exc C xs s' =>
    rw [hp] at z
    obtain ⟨rfl, h', e1, m⟩ := z
    exact ⟨rfl, h', by rw [e1], m⟩
  | bad => trivial
/-- a method of a list's list -/
@[irreducible] def xMeth2 {δ : Type} (get : σ → List (List α)) (put : σ → List (List α) → σ) (g : List α → β → Option (δ × List α)) (qi : σ → X σ Int) (q : σ → X σ β) : σ → X σ δ := fun s => (qi s).bind fun k s => match q s with
  | .ok b s => match ixN (get s).length k with
    | some j => match (get s)[j]? with
      | some xs => match g xs b with
        | some (c, ys) => .ok c (put s ((get s).set j ys))
        | none => .bad
      | none => .bad
    | none => .bad
  | _ => .bad
theorem tx_meth2 {δ : Type} {vd : δ → MV} {f : MV → List MV → MH → Out MV} {g : List α → β → Option (δ × List α)} {get : σ → List (List α)} {put : σ → List (List α) → σ} {vs : β → List MV} {qi : σ → X σ Int} (i : Nat) (o : MOp f g va vs vd) (ki : TP tb N D e2 qi (fz .int)) (kq : TPA tb N D ms q vs) (hg : ∀ s, (tb i).rep s = own2 va (get s)) (hp : ∀ s ys, (tb i).rep (put s ys) = own2 va ys) (k : Keep tb put ix D0) (hb : butB i D D0 = true := by rfl) (hi : D.contains i = true := by rfl) (hx : (tb i).ix = ix := by rfl) :
    TX tb N D (mM "list" f (m2 fIx (mV ix) e2) ms) (xMeth2 get put g qi q) (fz vd) := fun s env h fp R => by
  have hi : i ∈ D := by simpa using hi
  obtain ⟨v, w1, w2⟩ := R.ok i hi
  rw [hg] at w2
  obtain ⟨n, ns, rfl, w3, al, w4⟩ := w2
  have w1' := w1
  rw [hx] at w1
  have nd := R.nd i hi
  rw [w4] at nd
  obtain ⟨nd1, nd2⟩ := List.nodup_cons.mp nd
  unfold xMeth2 mM m2
  rw [ev_V w1]
  simp only [Out.bind]
  have z := ki s env h fp R
  cases hq : qi s with
  | ok b s' =>
    rw [hq] at z
    obtain ⟨rfl, u, h', f', e1, mo, r2⟩ := z
    rw [e1, r2.1]
    simp only [X.bind]
    have z2 := kq s' env h' fp (R.mono mo)
    cases hq2 : q s' with
    | ok y s2 =>
      rw [hq2] at z2
      obtain ⟨rfl, h2, e2, mo2⟩ := z2
      simp only
      have mo3 := mo.trans mo2
      have hnl := (List.getElem?_eq_some_iff.mp w3).1
      have w3' : h'[n]? = some (.lst (ns.map .ref)) := by rw [mo.keep n hnl]; exact w3
      cases hj : ixN (get s2).length b with
      | none => trivial
      | some j =>
        simp only
        cases hxs : (get s2)[j]? with
        | none => trivial
        | some xs =>
          simp only
          obtain ⟨k0, k1, k2⟩ := al.at hxs
          have hk0 := (List.getElem?_eq_some_iff.mp k2).1
          have e3 : fIx (.ref n) (.int b) h' = .ok (.ref k0) h' := by
            refine f_ix (seq_R w3') ?_
            unfold atI
            rw [List.length_map, al.len, hj]
            show (ns.map MV.ref)[j]? = _
            rw [List.getElem?_map, k1]; rfl
          rw [e3]
          simp only
          have k2' : h'[k0]? = some (.lst (xs.map va)) := by rw [mo.keep k0 hk0]; exact k2
          have k2'' : h2[k0]? = some (.lst (xs.map va)) := by rw [mo3.keep k0 hk0]; exact k2
          rw [if_pos (tyc_R k2'), e2]
          simp only
          cases hgg : g xs y with
          | none => trivial
          | some r =>
            obtain ⟨d, ys⟩ := r
            have hm : k0 ∈ fp i := by rw [w4]; exact List.mem_cons_of_mem _ (List.mem_of_getElem? k1)
            have hne : k0 ≠ n := fun z => nd1 (z ▸ List.mem_of_getElem? k1)
            have R2 := R.mono mo3
            refine ⟨vd d, h2.set k0 (.lst (ys.map va)), [], fp, o _ _ _ _ _ _ k2'' hgg, ⟨R2.len, fun l hl => ?_, R2.nd, R2.dj⟩, ⟨rfl, rfl⟩, List.nodup_nil, (fun n hn => nomatch hn), ⟨by rw [List.length_set]; exact mo3.len, fun l hl hA => ?_⟩, fun n q => q.elim .inl fun z => nomatch z⟩
            · by_cases hli : l = i
              · subst hli
                refine ⟨.ref n, w1', ?_⟩
                rw [hp]
                refine ⟨n, ns, rfl, ?_, ?_, w4⟩
                · rw [List.getElem?_set_ne hne, mo3.keep n hnl]; exact w3
                · exact (al.frame fun l hl => mo3.keep l (al.dom l hl)).set k1 nd2 (Nat.lt_of_lt_of_le hk0 mo3.len)
              · obtain ⟨v, e1, e2⟩ := R2.ok l hl
                refine ⟨v, e1, ?_⟩
                rw [(k.at l (butB_ok hb l hl hli)).2]
                refine ((tb l).rep s2).frame e2 fun x hx => ?_
                have : k0 ≠ x := fun z => R.dj l hl i hi hli x hx (by rw [← z]; exact hm)
                rw [List.getElem?_set_ne this]
            · have : k0 ≠ l := fun z => hA ⟨i, hi, by rw [← z]; exact hm⟩
              rw [List.getElem?_set_ne this]
              exact mo3.keep l hl
    | exc C xs s2 =>
      trivial
    | bad => trivial
  | exc C xs s' =>
    rw [hq] at z
    obtain ⟨rfl, h', e1, mo⟩ := z
    exact ⟨h', fp, by rw [e1], R.mono mo, mo.fr, Grow.refl⟩
  | bad => trivial
/-- an attribute of an object that is being made -/
theorem tp_self {tab : CTab} {x : Str} {C : Str} {ks : List Str} {xs : σ → List MV} {get : σ → α} (i : Nat) (hg : ∀ s, (tb i).rep s = insP C ks (xs s)) (hok : okF tab C x = true) (hd : ∀ s, fldOf ks (xs s) x = some (va (get s))) (hi : D.contains i = true := by rfl) (hx : (tb i).ix = ix := by rfl) : TP tb N D (m1 (fFld tab x) (mV ix)) (xV get) (fz va) := fun s env h fp R => by
  obtain ⟨v, w1, w2⟩ := R.ok i (by simpa using hi)
  rw [hg] at w2
  obtain ⟨n, rfl, w3, _⟩ := w2
  rw [hx] at w1
  unfold xV
  refine ⟨rfl, va (get s), h, [], ?_, Mono.refl, rfl, rfl⟩
  refine ev_1 (ev_V w1) (f_fldT ?_ hok (hd s))
  unfold insAt; simp only; rw [w3]
/-! ### a list's list, its item set -/
/-- X[k][j] = v by way of another name or not -/
def gSetI2 (xss : List (List α)) (k j : Int) (b : α) : Option (List (List α)) := match ixN xss.length k with
  | some j0 => match xss[j0]? with
    | some xs => match gSetI xs j b with
      | some ys => some (xss.set j0 ys)
      | none => none
    | none => none
  | none => none
@[irreducible] def ySetI2 (get : σ → List (List α)) (put : σ → List (List α) → σ) (qk : σ → X σ Int) (p : σ → X σ α) (qj : σ → X σ Int) : σ → F σ ρ := fun s => (p s).toF fun b s => match qk s with
  | .ok k s => (match qj s with
    | .ok j s => (match gSetI2 (get s) k j b with
      | some yss => .nx (put s yss)
      | none => .bad)
    | _ => .bad)
  | _ => .bad
/-- r = X[k]; r[j] = v -/
@[irreducible] def yAlias (get : σ → List (List α)) (put : σ → List (List α) → σ) (qk : σ → X σ Int) (p : σ → X σ α) (qj : σ → X σ Int) : σ → F σ ρ := fun s => match qk s with
  | .ok k s => (match p s with
    | .ok b s2 => (match qj s2 with
      | .ok j s3 => (match gSetI2 (get s) k j b with
        | some yss => .nx (put s3 yss)
        | none => .bad)
      | _ => .bad)
    | _ => .bad)
  | _ => .bad
theorem gSetI2_some {xss yss : List (List α)} {k j : Int} {b : α} (h : gSetI2 xss k j b = some yss) : ∃ j0 xs ys, ixN xss.length k = some j0 ∧ xss[j0]? = some xs ∧ gSetI xs j b = some ys ∧ yss = xss.set j0 ys := by
  unfold gSetI2 at h
  split at h
  · rename_i j0 e0
    split at h
    · rename_i xs e1
      split at h
      · rename_i ys e2
        cases h
        exact ⟨j0, xs, ys, e0, e1, e2, rfl⟩
      · cases h
    · cases h
  · cases h
theorem f_setI {xs ys : List α} {j : Int} {b : α} {m : Nat} {h : MH} (hs : gSetI xs j b = some ys) (e : h[m]? = some (.lst (xs.map va))) : fSetL (.ref m) (.int j) (va b) h = .ok .non (h.set m (.lst (ys.map va))) := by
  unfold fSetL; simp only
  rw [e]; simp only
  rw [List.length_map]
  unfold gSetI at hs
  cases hj : ixN xs.length j with
  | none => rw [hj] at hs; cases hs
  | some j =>
    rw [hj] at hs
    cases hs
    simp [List.map_set]
/-- the store itself -/
theorem RS.write2 {s : σ} {env : MEnv} {h : MH} {fp : Nat → List Nat} {put : σ → List (List α) → σ} {get : σ → List (List α)} {ys xs : List α} {n j0 : Nat} {ns : List Nat} (R : RS tb N D s env h fp) (hi : i ∈ D) (hn : env[(tb i).ix]? = some (some (.ref n))) (hh : h[n]? = some (.lst (ns.map .ref))) (al : All2 va h (get s) ns) (hf : fp i = n :: ns) (hxs : (get s)[j0]? = some xs) (hp : ∀ s ys, (tb i).rep (put s ys) = own2 va ys) (k : Keep tb put ix D0) (hb : butB i D D0 = true) :
    ∃ m, ns[j0]? = some m ∧ h[m]? = some (.lst (xs.map va)) ∧ m ∈ fp i ∧ RS tb N D (put s ((get s).set j0 ys)) env (h.set m (.lst (ys.map va))) fp := by
  obtain ⟨k0, k1, k2⟩ := al.at hxs
  have hk0 := (List.getElem?_eq_some_iff.mp k2).1
  have nd := R.nd i hi
  rw [hf] at nd
  obtain ⟨nd1, nd2⟩ := List.nodup_cons.mp nd
  have hm : k0 ∈ fp i := by rw [hf]; exact List.mem_cons_of_mem _ (List.mem_of_getElem? k1)
  have hne : k0 ≠ n := fun z => nd1 (z ▸ List.mem_of_getElem? k1)
  refine ⟨k0, k1, k2, hm, ⟨R.len, fun l hl => ?_, R.nd, R.dj⟩⟩
  by_cases hli : l = i
  · subst hli
    refine ⟨.ref n, hn, ?_⟩
    rw [hp]
    exact ⟨n, ns, rfl, by rw [List.getElem?_set_ne hne]; exact hh, al.set k1 nd2 hk0, hf⟩
  · obtain ⟨v, e1, e2⟩ := R.ok l hl
    refine ⟨v, e1, ?_⟩
    rw [(k.at l (butB_ok hb l hl hli)).2]
    refine ((tb l).rep s).frame e2 fun x hx => ?_
    have : k0 ≠ x := fun z => R.dj l hl i hi hli x hx (by rw [← z]; exact hm)
    rw [List.getElem?_set_ne this]
/-- X[k][j] = v; k and j are only read -/
theorem ts_setI2 {get : σ → List (List α)} {put : σ → List (List α) → σ} {qk qj : σ → X σ Int} {ek ej : ME} (i : Nat) (kp : TX c.tb c.N D e p (fz va)) (kk : TP c.tb c.N D ek qk (fz .int)) (kj : TP c.tb c.N D ej qj (fz .int)) (hg : ∀ s, (c.tb i).rep s = own2 va (get s)) (hp : ∀ s ys, (c.tb i).rep (put s ys) = own2 va ys) (k : Keep c.tb put ix D0) (hb : butB i D D0 = true := by rfl) (hi : D.contains i = true := by rfl) (hx : (c.tb i).ix = ix := by rfl) (hxx : subB c.Dx D = true := by rfl) :
    TS c D (sAsg e (gSb (m2 fIx (mV ix) ek) ej fSetL)) (ySetI2 get put qk p qj) D := by with_unfolding_all exact (ts_ex (f := fun v h env => (gSb (m2 fIx (mV ix) ek) ej fSetL v env h).andS env fun env' h => .ok .nx env' h) (fun env h => rfl) kp hxx fun a s v env h0 h fp0 fp fv R r nd dj fr gr => by
  have hi : i ∈ D := by simpa using hi
  obtain ⟨w, w1, w2⟩ := R.ok i hi
  rw [hg] at w2
  obtain ⟨n, ns, rfl, w3, al, w4⟩ := w2
  have w1' := w1
  rw [hx] at w1
  have hnl := (List.getElem?_eq_some_iff.mp w3).1
  unfold gSb m2
  rw [ev_V w1]
  simp only [Out.bind]
  have z := kk s env h fp R
  cases hq : qk s with
  | ok b s' =>
    rw [hq] at z
    obtain ⟨rfl, u, h', f', e1, mo, r2⟩ := z
    rw [e1, r2.1]
    simp only
    have z2 := kj s' env h' fp (R.mono mo)
    cases hq2 : qj s' with
    | ok y s2 =>
      rw [hq2] at z2
      obtain ⟨rfl, u2, h2, f2, e2, mo2, r3⟩ := z2
      simp only
      have mo3 := mo.trans mo2
      have R2 := R.mono mo3
      have w3' : h'[n]? = some (.lst (ns.map .ref)) := by rw [mo.keep n hnl]; exact w3
      have w3'' : h2[n]? = some (.lst (ns.map .ref)) := by rw [mo3.keep n hnl]; exact w3
      have al2 : All2 va h2 (get s2) ns := al.frame fun l hl => mo3.keep l (al.dom l hl)
      cases hs2 : gSetI2 (get s2) b y a with
      | none => trivial
      | some yss =>
        obtain ⟨j0, xs, ys, hj, hxs, hs, rfl⟩ := gSetI2_some hs2
        obtain ⟨m0, m1_, m2_, m3_, RW⟩ := R2.write2 (ys := ys) hi w1' w3'' al2 w4 hxs hp k hb
        have e3 : fIx (.ref n) (.int b) h' = .ok (.ref m0) h' := by
          refine f_ix (seq_R w3') ?_
          unfold atI
          rw [List.length_map, al.len, hj]
          show (ns.map MV.ref)[j0]? = _
          rw [List.getElem?_map, m1_]; rfl
        rw [e3]
        simp only
        rw [e2, r3.1, r.1]
        simp only
        rw [f_setI hs m2_]
        refine ⟨env, _, fp, rfl, RW, ⟨by rw [List.length_set]; exact Nat.le_trans fr.len mo3.len, fun l hl hA => ?_⟩, gr.sub fun n q => .inl q, Pin.refl⟩
        have : m0 ≠ l := fun z => by
          subst z
          rcases gr m0 (.inl ⟨i, hi, m3_⟩) with g | g
          · exact hA g
          · omega
        rw [List.getElem?_set_ne this, mo3.keep l (Nat.lt_of_lt_of_le hl fr.len)]
        exact fr.keep l hl hA
    | exc C xs s2 => trivial
    | bad => trivial
  | exc C xs s' => trivial
  | bad => trivial)
theorem sSeq_assoc {a b d : MS} : sSeq a (sSeq b d) = sSeq (sSeq a b) d := by
  funext env h
  unfold sSeq
  cases a env h with
  | ok f env' h' => cases f <;> rfl
  | exc _ _ _ _ => rfl
  | stuck => rfl
/-- r = X[k]; r[j] = v, r not used again -/
theorem ts_alias {get : σ → List (List α)} {put : σ → List (List α) → σ} {qk qj : σ → X σ Int} {ek ej : ME} {ir : Nat} (i : Nat) (kk : TP c.tb c.N D ek qk (fz .int)) (kp : TX c.tb c.N D1 e p (fz va)) (kj : TP c.tb c.N D1 ej qj (fz .int)) (hg : ∀ s, (c.tb i).rep s = own2 va (get s)) (hp : ∀ s ys, (c.tb i).rep (put s ys) = own2 va ys) (k : Keep c.tb put ix D1) (hr : (c.tb i).ix = ix := by rfl) (hs1 : subB D1 D = true := by rfl) (hfar : farB c.tb (i :: D1) [ir] = true := by rfl) (hi : D.contains i = true := by rfl) (hNr : ir < c.N := by decide) (hpr : c.pin.contains ir = false := by rfl) :
    TS c D (sSeq (sSet ir (m2 fIx (mV ix) ek)) (sAsg e (gSb (mV ir) ej fSetL))) (yAlias get put qk p qj) (i :: D1) := fun s env h fp R => by
  have hi : i ∈ D := by simpa using hi
  have hs1 := subB_ok hs1
  have far := farB_ok hfar
  obtain ⟨w, w1, w2⟩ := R.ok i hi
  rw [hg] at w2
  obtain ⟨n, ns, rfl, w3, al, w4⟩ := w2
  have w1' := w1
  rw [hr] at w1
  have ni : ∀ j ∈ D1, j ≠ i := fun j hj z => (k.at j hj).1 (by rw [z]; exact hr)
  have nd := R.nd i hi
  rw [w4] at nd
  obtain ⟨nd1, nd2⟩ := List.nodup_cons.mp nd
  unfold yAlias
  have z := kk s env h fp R
  cases hq : qk s with
  | exc C xs s' => trivial
  | bad => trivial
  | ok b s' =>
    rw [hq] at z
    obtain ⟨rfl, u, h', f', e1, mo, r2⟩ := z
    simp only
    have R1 := R.mono mo
    have hnl := (List.getElem?_eq_some_iff.mp w3).1
    have w3' : h'[n]? = some (.lst (ns.map .ref)) := by rw [mo.keep n hnl]; exact w3
    have al' : All2 va h' (get s') ns := al.frame fun l hl => mo.keep l (al.dom l hl)
    cases hps : p s' with
    | exc C xs s2 => trivial
    | bad => trivial
    | ok a s2 =>
      simp only
      cases hqj : qj s2 with
      | exc C xs s3 => trivial
      | bad => trivial
      | ok y s3 =>
        simp only
        cases hs2 : gSetI2 (get s') b y a with
        | none => trivial
        | some yss =>
          obtain ⟨j0, xs, ys, hj, hxs, hs, rfl⟩ := gSetI2_some hs2
          obtain ⟨m0, m1_, m2_⟩ := al'.at hxs
          have e3 : fIx (.ref n) (.int b) h' = .ok (.ref m0) h' := by
            refine f_ix (seq_R w3') ?_
            unfold atI
            rw [List.length_map, al.len, hj]
            show (ns.map MV.ref)[j0]? = _
            rw [List.getElem?_map, m1_]; rfl
          have RD : RS c.tb c.N D1 s' (env.set ir (some (.ref m0))) h' fp := (R1.sub hs1).env (List.length_set ..) fun j hj => by
            have := far j (List.mem_cons_of_mem _ hj)
            rw [List.getElem?_set_ne (fun z => this (by rw [z]; exact List.mem_singleton.mpr rfl))]
          have zp := kp s' _ h' fp RD
          rw [hps] at zp
          obtain ⟨v, h2, f2, fp2, e2, R2, r3, _, _, fr2, gr2⟩ := zp
          have zj := kj s2 _ h2 fp2 R2
          rw [hqj] at zj
          obtain ⟨rfl, u3, h3, f3, e4, mo3, r4⟩ := zj
          have out : ∀ l ∈ n :: ns, ¬ Wn D1 fp l := fun l hl ⟨j, hj, hm⟩ => R.dj j (hs1 j hj) i hi (ni j hj) l hm (by rw [w4]; exact hl)
          have hlt : ∀ l ∈ n :: ns, l < h'.length := fun l hl => by
            rcases List.mem_cons.mp hl with rfl | hl
            · exact (List.getElem?_eq_some_iff.mp w3').1
            · exact al'.dom l hl
          have same : ∀ l ∈ n :: ns, h3[l]? = h'[l]? := fun l hl => by
            rw [mo3.keep l (Nat.lt_of_lt_of_le (hlt l hl) fr2.len), fr2.keep l (hlt l hl) (out l hl)]
          have out2 : ∀ l ∈ n :: ns, ¬ Wn D1 fp2 l := fun l hl q => by
            rcases gr2 l (.inl q) with g | g
            · exact out l hl g
            · have := hlt l hl; omega
          have mm : m0 ∈ ns := List.mem_of_getElem? m1_
          have mmn : m0 ∈ n :: ns := List.mem_cons_of_mem _ mm
          have hne : m0 ≠ n := fun z => nd1 (z ▸ mm)
          have m2' : h3[m0]? = some (.lst (xs.map va)) := by rw [same m0 mmn]; exact m2_
          have hrun : sSeq (sSet ir (m2 fIx (mV ix) ek)) (sAsg e (gSb (mV ir) ej fSetL)) env h = .ok .nx (env.set ir (some (.ref m0))) (h3.set m0 (.lst (ys.map va))) := by
            unfold sSeq sSet sAsg gSb m2
            rw [ev_V w1]
            simp only [Out.bind]
            rw [e1, r2.1]
            simp only
            rw [e3]
            simp only [Out.andS, OutS.seq]
            rw [e2, r3.1]
            simp only
            rw [ev_V (List.getElem?_set_self (by rw [R.len]; exact hNr))]
            simp only
            rw [e4, r4.1]
            simp only
            rw [f_setI hs m2']
          have RR : RS c.tb c.N (i :: D1) (put s3 ((get s').set j0 ys)) (env.set ir (some (.ref m0))) (h3.set m0 (.lst (ys.map va))) (fun j => if j = i then n :: ns else fp2 j) := by
            refine ⟨by rw [List.length_set]; exact R.len, fun j hj => ?_, fun j hj => ?_, fun j hj l hl hjl x hx1 hx2 => ?_⟩
            · rcases List.mem_cons.mp hj with ej | hj'
              · subst ej
                have := far j (List.mem_cons_self ..)
                refine ⟨.ref n, by rw [List.getElem?_set_ne (fun z => this (by rw [z]; exact List.mem_singleton.mpr rfl))]; exact w1', ?_⟩
                rw [if_pos rfl, hp]
                refine ⟨n, ns, rfl, ?_, ?_, rfl⟩
                · rw [List.getElem?_set_ne hne, same n (List.mem_cons_self ..)]; exact w3'
                · exact (al'.frame fun l hl => same l (List.mem_cons_of_mem _ hl)).set m1_ nd2 (List.getElem?_eq_some_iff.mp m2').1
              · obtain ⟨w, a1, a2⟩ := (R2.mono mo3).ok j hj'
                refine ⟨w, a1, ?_⟩
                rw [if_neg (ni j hj'), (k.at j hj').2]
                refine ((c.tb j).rep _).frame a2 fun x hx => ?_
                have : m0 ≠ x := fun z => out2 m0 mmn ⟨j, hj', by rw [z]; exact hx⟩
                rw [List.getElem?_set_ne this]
            · show (if _ = _ then _ else _ : List Nat).Nodup
              split
              · exact nd
              · rename_i hne
                exact R2.nd j ((List.mem_cons.mp hj).resolve_left hne)
            · have hx1 : x ∈ if j = i then n :: ns else fp2 j := hx1
              have hx2 : x ∈ if l = i then n :: ns else fp2 l := hx2
              split at hx1
              · rename_i h1
                rw [if_neg (fun z => hjl (h1.trans z.symm))] at hx2
                exact out2 x hx1 ⟨l, (List.mem_cons.mp hl).resolve_left (fun z => hjl (h1.trans z.symm)), hx2⟩
              · rename_i h1
                split at hx2
                · exact out2 x hx2 ⟨j, (List.mem_cons.mp hj).resolve_left h1, hx1⟩
                · rename_i h2
                  exact R2.dj j ((List.mem_cons.mp hj).resolve_left h1) l ((List.mem_cons.mp hl).resolve_left h2) hjl x hx1 hx2
          refine ⟨_, _, _, hrun, RR, ⟨by rw [List.length_set]; exact Nat.le_trans mo.len (Nat.le_trans fr2.len mo3.len), fun l hl hA => ?_⟩, fun x ⟨j, hj, hx⟩ => ?_, pin_set hpr⟩
          · have : m0 ≠ l := fun z => hA ⟨i, hi, by rw [w4, ← z]; exact mmn⟩
            have l1 := Nat.lt_of_lt_of_le hl mo.len
            rw [List.getElem?_set_ne this, mo3.keep l (Nat.lt_of_lt_of_le l1 fr2.len), fr2.keep l l1 (fun q => hA (Wn.sub hs1 q)), mo.keep l hl]
          · have hx : x ∈ if j = i then n :: ns else fp2 j := hx
            split at hx
            · exact .inl ⟨i, hi, by rw [w4]; exact hx⟩
            · rename_i h1
              rcases gr2 x (.inl ⟨j, (List.mem_cons.mp hj).resolve_left h1, hx⟩) with g | g
              · exact .inl (Wn.sub hs1 g)
              · exact .inr (Nat.le_trans mo.len g)
/-! ### comprehensions of new lists -/
theorem comp_l2 {g : MG} {vs : List Nat} {t : MT} {pt : σ → X σ Bool} {pe : σ → X σ (List β)} (kg : TG (cxC tb N D) D g st va D1) (hv : farB tb D vs = true) (hD : subB D D1 = true) (kt : TXT tb N D1 t pt) (ke : TX tb N D1 e pe (own1 vb)) : ∀ (xs : List α) (acc : List (List β)) (ns : List Nat) s env h fp, RS tb N D s env h fp → All2 vb h acc ns → ns.Nodup → (∀ n ∈ ns, ¬ Wn D fp n) → match xCompL st pt pe xs acc s with
    | some (ys, s') => ∃ h' fp' ns', compL g t e (wipeM env vs) (xs.map va) (ns.map .ref) h = .ok (ns'.map .ref) h' ∧ RS tb N D s' env h' fp' ∧ All2 vb h' ys ns' ∧ ns'.Nodup ∧ (∀ n ∈ ns', ¬ Wn D fp' n) ∧ Fr (Wn D fp) h h' ∧ (∀ n, Wn D fp' n ∨ n ∈ ns' → (Wn D fp n ∨ n ∈ ns) ∨ h.length ≤ n)
    | none => True
  | [], acc, ns, s, env, h, fp, R, al, nd, dj => ⟨h, fp, ns, rfl, R, al, nd, dj, Fr.refl, fun n q => .inl q⟩
  | x :: xs, acc, ns, s, env, h, fp, R, al, nd, dj => by
    have hD' := subB_ok hD
    obtain ⟨env1, fp1, e1, R1, w1, back⟩ := comp_in kg hv R x
    unfold xCompL
    rw [List.map_cons]
    unfold compL compT
    rw [e1]
    simp only [Out.nox, Out.bind]
    have z := kt (st s x) env1 h fp1 R1
    cases hp : pt (st s x) with
    | ok cc s1 =>
      rw [hp] at z
      obtain ⟨h1, fp2, e2, R2, fr2, gr2⟩ := z
      rw [e2]
      simp only
      have fr2' : Fr (Wn D fp) h h1 := fr2.weak w1
      have gr2' : Grow (Wn D fp) (Wn D1 fp2) h := fun n q => (gr2 n q).imp (w1 n) id
      have al2 : All2 vb h1 acc ns := al.frame fun n hn => fr2'.keep n (al.dom n hn) (dj n hn)
      cases cc with
      | false =>
        simp only [Bool.false_eq_true, if_false]
        have dj2 : ∀ n ∈ ns, ¬ Wn D fp2 n := fun n hn q => by
          rcases gr2' n (Wn.sub hD' q) with q | q
          · exact dj n hn q
          · have := al.dom n hn; omega
        have ih := comp_l2 kg hv hD kt ke xs acc ns s1 env h1 fp2 (back s1 h1 fp2 hD' R2) al2 nd dj2
        cases hc : xCompL st pt pe xs acc s1 with
        | none => trivial
        | some r =>
          obtain ⟨ys, s'⟩ := r
          rw [hc] at ih
          obtain ⟨h', fp', ns', e3, R3, al3, nd3, dj3, fr3, gr3⟩ := ih
          have g4 : Grow (Wn D fp) (Wn D fp2) h := gr2'.sub fun n q => Wn.sub hD' q
          refine ⟨h', fp', ns', e3, R3, al3, nd3, dj3, fr2'.trans g4 fr3, fun n q => ?_⟩
          rcases gr3 n q with (q | q) | q
          · exact (g4 n q).imp .inl id
          · exact .inl (.inr q)
          · exact .inr (Nat.le_trans fr2'.len q)
      | true =>
        simp only [if_true]
        have z2 := ke s1 env1 h1 fp2 R2
        cases hpe : pe s1 with
        | ok y s2 =>
          rw [hpe] at z2
          obtain ⟨v, h2, f, fp3, e3, R3, r3, nd3, dj3, fr3, gr3⟩ := z2
          obtain ⟨k, rfl, hk, rfl⟩ := rd_own r3
          simp only
          by_cases hz : acc.length < sizeLine
          · rw [if_pos hz]
            have f4 : Fr (Wn D fp) h h2 := fr2'.trans gr2' fr3
            have g3 : Grow (Wn D fp) (fun n => Wn D1 fp3 n ∨ n ∈ [k]) h := gr2'.trans fr2'.len gr3
            have al4 : All2 vb h2 acc ns := al.frame fun n hn => f4.keep n (al.dom n hn) (dj n hn)
            have kns : k ∉ ns := fun hn => by
              rcases g3 k (.inr (List.mem_singleton.mpr rfl)) with q | q
              · exact dj k hn q
              · have := al.dom k hn; omega
            have al5 : All2 vb h2 (acc ++ [y]) (ns ++ [k]) := by
              clear e3 R3 dj3 fr3 gr3 g3 dj nd kns al2 al
              induction acc generalizing ns with
              | nil => cases ns with
                | nil => exact ⟨hk, trivial⟩
                | cons _ _ => exact al4.elim
              | cons z acc ih => cases ns with
                | nil => exact al4.elim
                | cons n ns => exact ⟨al4.1, ih ns (by simp at hz; omega) al4.2⟩
            have nd5 : (ns ++ [k]).Nodup := by
              rw [List.nodup_append]
              exact ⟨nd, by simp, fun n hn m hm z => by
                rw [List.mem_singleton.mp hm] at z
                exact kns (by rw [← z]; exact hn)⟩
            have dj5 : ∀ n ∈ ns ++ [k], ¬ Wn D fp3 n := fun n hn q => by
              rcases List.mem_append.mp hn with hn | hn
              · rcases g3 n (.inl (Wn.sub hD' q)) with q | q
                · exact dj n hn q
                · have := al.dom n hn; omega
              · exact dj3 n hn (Wn.sub hD' q)
            have ih := comp_l2 kg hv hD kt ke xs (acc ++ [y]) (ns ++ [k]) s2 env h2 fp3 (back s2 h2 fp3 hD' R3) al5 nd5 dj5
            cases hc : xCompL st pt pe xs (acc ++ [y]) s2 with
            | none => trivial
            | some r =>
              obtain ⟨ys, s'⟩ := r
              rw [hc] at ih
              obtain ⟨h', fp', ns', e4, R4, al6, nd6, dj6, fr4, gr4⟩ := ih
              have g5 : Grow (Wn D fp) (Wn D fp3) h := g3.sub fun n q => .inl (Wn.sub hD' q)
              refine ⟨h', fp', ns', ?_, R4, al6, nd6, dj6, f4.trans g5 fr4, fun n q => ?_⟩
              · rw [e3]
                simp only
                rw [if_pos (by rw [List.length_map, al.len]; exact hz)]
                rw [List.map_append] at e4
                exact e4
              · rcases gr4 n q with (q | q) | q
                · exact (g5 n q).imp .inl id
                · rcases List.mem_append.mp q with q | q
                  · exact .inl (.inr q)
                  · exact (g3 n (.inr q)).imp .inl id
                · exact .inr (Nat.le_trans f4.len q)
          · rw [if_neg hz]; trivial
        | exc C xs s2 => trivial
        | bad => trivial
    | exc C xs s1 => trivial
    | bad => trivial
theorem tx_comp2 {it : MIt} {pi : σ → X σ (List α)} {g : MG} {vs : List Nat} {t : MT} {pt : σ → X σ Bool} {pe : σ → X σ (List β)} (ki : TXI tb N D it pi va) (kg : TG (cxC tb N D) D g st va D1) (kt : TXT tb N D1 t pt) (ke : TX tb N D1 e pe (own1 vb)) (hv : farB tb D vs = true := by rfl) (hD : subB D D1 = true := by rfl) : TX tb N D (mComp true it g t e vs) (x1 id (xComp pi st pt pe)) (own2 vb) := fun s env h fp R => by
  have z := ki s env h fp R
  unfold x1 xComp mComp
  cases hp : pi s with
  | ok xs s' =>
    rw [hp] at z
    obtain ⟨h', fp', e1, R1, fr, gr⟩ := z
    simp only [X.bind]
    rw [e1]
    simp only [Out.bind]
    have w := comp_l2 kg hv hD kt ke xs [] [] s' env h' fp' R1 trivial List.nodup_nil (fun n hn => nomatch hn)
    cases hc : xCompL st pt pe xs [] s' with
    | none => trivial
    | some r =>
      obtain ⟨ys, s2⟩ := r
      rw [hc] at w
      obtain ⟨h2, fp2, ns, e2, R2, al2, nd2, dj2, fr2, gr2⟩ := w
      have e2' : compL g t e (wipeM env vs) (xs.map va) [] h' = .ok (ns.map .ref) h2 := e2
      have f3 := fr.trans gr fr2
      refine ⟨.ref h2.length, h2 ++ [.lst (ns.map .ref)], h2.length :: ns, fp2, by rw [e2']; rfl, R2.mono Mono.app, ⟨_, ns, rfl, app_same, al2.frame fun n hn => List.getElem?_append_left (al2.dom n hn), rfl⟩, List.nodup_cons.mpr ⟨fun hn => by have := al2.dom _ hn; omega, nd2⟩, fun n hn => ?_, ⟨by rw [List.length_append]; have := f3.len; omega, fun n hn hA => ?_⟩, fun n hn => ?_⟩
      · rcases List.mem_cons.mp hn with rfl | hn
        · exact fun q => Nat.lt_irrefl _ (R2.dom _ q)
        · exact dj2 n hn
      · rw [List.getElem?_append_left (Nat.lt_of_lt_of_le hn f3.len)]
        exact f3.keep n hn hA
      · have big : h2.length ≤ n → h.length ≤ n := Nat.le_trans f3.len
        rcases hn with hn | hn
        · rcases gr2 n (.inl hn) with (q | q) | q
          · exact gr n q
          · cases q
          · exact .inr (Nat.le_trans fr.len q)
        · rcases List.mem_cons.mp hn with rfl | hn
          · exact .inr f3.len
          · rcases gr2 n (.inr hn) with (q | q) | q
            · exact gr n q
            · cases q
            · exact .inr (Nat.le_trans fr.len q)
  | exc C xs s' =>
    rw [hp] at z
    obtain ⟨h', fp', e1, R1, fr, gr⟩ := z
    exact ⟨h', fp', by rw [e1], R1, fr, gr⟩
  | bad => trivial
end
end Ty
/-! ## TyJ -/
set_option Elab.async false
set_option linter.all false
set_option maxRecDepth 100000
/-! Ty, part J: sorted(set(t)). -/
namespace Ty
open PySem PySem.Spec PyProof.Rows L2 Mn
@[irreducible] def gSrt (xs : List Int) : Option (List Int) := if xs.length < 64 then some (srtSet xs) else none
theorem f1_srtT : Op1 (fun v h => fSrtSet false [v] h) gSrt (tV MV.int) (lV MV.int) := fun a c h e => by
  unfold gSrt at e
  split at e
  · rename_i hl
    cases e
    show (match intsOf (a.map MV.int) with
      | some ns => if ns.length < 64 then retL false ((srtSet ns).map MV.int) h else .stuck
      | none => .stuck) = _
    rw [intsOf_map]
    simp only
    rw [if_pos hl]
    rfl
  · cases e
theorem gSrt_ok {xs : List Int} (h : xs.length < 64) : gSrt xs = some (srtSet xs) := by
  unfold gSrt
  rw [if_pos h]
/-- xs[i] of a list that a name owns; what the index changes happens first -/
@[irreducible] def xIxV {σ α : Type} (g : σ → List α) (p : σ → X σ Int) : σ → X σ α := fun s => (p s).bind fun i s' => match gIx (g s') i with
  | some a => .ok a s'
  | none => .bad
theorem tx_ixV {σ α : Type} {tb : Nat → Slot σ} {N : Nat} {D : List Nat} {e : ME} {p : σ → X σ Int} {va : α → MV} {i ix : Nat} {g : σ → List α} (hi : D.contains i = true) (hx : (tb i).ix = ix) (hr : ∀ s, (tb i).rep s = own1 va (g s)) (k : TX tb N D e p (fz .int)) : TX tb N D (m2 fIx (mV ix) e) (xIxV g p) (fz va) := fun s env h fp R => by
  have z := k s env h fp R
  obtain ⟨v0, b1, b2⟩ := R.ok i (by simpa using hi)
  rw [hx] at b1
  unfold xIxV m2
  rw [ev_V b1]
  simp only [Out.bind]
  cases hp : p s with
  | ok a s' =>
    rw [hp] at z
    obtain ⟨v, h', f', fp', e1, R1, r, nd, dj, fr, gr⟩ := z
    obtain ⟨v1, c1, c2⟩ := R1.ok i (by simpa using hi)
    rw [hx, b1] at c1
    cases c1
    rw [hr] at c2
    simp only [X.bind]
    rw [e1]
    simp only
    cases hg : gIx (g s') a with
    | none => trivial
    | some c =>
      rw [r.2] at gr
      exact ⟨va c, h', [], fp', o_ix sq_o _ _ _ _ _ _ _ h' c2 r hg, R1, ⟨rfl, rfl⟩, List.nodup_nil, (fun n hn => nomatch hn), fr, gr⟩
  | exc C xs s' =>
    rw [hp] at z
    obtain ⟨h', fp', e1, R1, fr, gr⟩ := z
    exact ⟨h', fp', by rw [e1], R1, fr, gr⟩
  | bad => trivial
end Ty
/-! ## TyP -/
set_option Elab.async false
set_option linter.all false
set_option maxRecDepth 100000
/-! Ty, part P: plain reasoning about typed programs. -/
namespace Ty
open PySem PySem.Spec PyProof.Rows L2 Mn
section
variable {σ α β γ δ ρ I A : Type}
/-- an expression's end -/
def Ev (x : X σ α) (k : α → σ → Prop) (e : Str → σ → Prop) : Prop := match x with
  | .ok a s => k a s
  | .exc C _ s => e C s
  | .bad => False
def Os (o : Option α) (k : α → Prop) : Prop := match o with
  | some a => k a
  | none => False
/-- a statement's end -/
def Po (o : F σ ρ) (n : σ → Prop) (r : ρ → σ → Prop) (b c : σ → Prop) (e : Str → σ → Prop) : Prop := match o with
  | .nx s => n s
  | .rt a s => r a s
  | .bk s => b s
  | .ct s => c s
  | .exc C _ s => e C s
  | .bad => False
theorem Ev_ok {a : α} {s : σ} {k : α → σ → Prop} {e : Str → σ → Prop} : Ev (.ok a s) k e = k a s := rfl
theorem Ev_exc {C : Str} {xs : List MV} {s : σ} {k : α → σ → Prop} {e : Str → σ → Prop} : Ev (.exc C xs s) k e = e C s := rfl
theorem Os_some {a : α} {k : α → Prop} : Os (some a) k = k a := rfl
theorem Os_if {p : Prop} [Decidable p] {a : α} {k : α → Prop} : Os (if p then some a else none) k = (p ∧ k a) := by
  by_cases h : p
  · rw [if_pos h]; simp [Os, h]
  · rw [if_neg h]; simp [Os, h]
theorem Os_intro {o : Option α} {k : α → Prop} {a : α} (h : o = some a) (hk : k a) : Os o k := by rw [h]; exact hk
theorem Ev.mono {x : X σ α} {k k' : α → σ → Prop} {e e' : Str → σ → Prop} (h : Ev x k e) (h1 : ∀ a s, k a s → k' a s) (h2 : ∀ C s, e C s → e' C s := by intro _ _ h; exact h.elim) : Ev x k' e' := by
  cases x with
  | ok a s => exact h1 _ _ h
  | exc C xs s => exact h2 _ _ h
  | bad => exact h
variable {s : σ} {k : α → σ → Prop} {e : Str → σ → Prop} {p : σ → X σ α} {q : σ → X σ β} {t u : σ → X σ Bool}
theorem Ev_bind {x : X σ β} {f : β → σ → X σ α} : Ev (x.bind f) k e = Ev x (fun b s => Ev (f b s) k e) e := by cases x <;> rfl
theorem Ev_xC {a : α} : Ev (xC a s) k e = k a s := by unfold xC; rfl
theorem Ev_xV {g : σ → α} : Ev (xV g s) k e = k (g s) s := by unfold xV; rfl
theorem Ev_xN {k : Unit → σ → Prop} : Ev (xN s) k e = k () s := by unfold xN; rfl
theorem Ev_xYes {k : Bool → σ → Prop} : Ev (xYes s) k e = k true s := by unfold xYes; rfl
theorem Ev_x1 {g : α → β} {k : β → σ → Prop} : Ev (x1 g p s) k e = Ev (p s) (fun a s => k (g a) s) e := by unfold x1; rw [Ev_bind]; rfl
theorem Ev_x1o {g : α → Option β} {k : β → σ → Prop} : Ev (x1o g p s) k e = Ev (p s) (fun a s => Os (g a) (fun b => k b s)) e := by
  unfold x1o; rw [Ev_bind]; congr; funext a s; cases g a <;> rfl
theorem Ev_x2 {g : α → β → γ} {k : γ → σ → Prop} : Ev (x2 g p q s) k e = Ev (p s) (fun a s => Ev (q s) (fun b s => k (g a b) s) e) e := by unfold x2; simp only [Ev_bind]; rfl
theorem Ev_x2o {g : α → β → Option γ} {k : γ → σ → Prop} : Ev (x2o g p q s) k e = Ev (p s) (fun a s => Ev (q s) (fun b s => Os (g a b) (fun c => k c s)) e) e := by
  unfold x2o; simp only [Ev_bind]; congr; funext a s; congr; funext b s; cases g a b <;> rfl
theorem Ev_xIxV {g : σ → List α} {q : σ → X σ Int} {k : α → σ → Prop} : Ev (xIxV g q s) k e = Ev (q s) (fun i s => Os (gIx (g s) i) (fun a => k a s)) e := by
  unfold xIxV; rw [Ev_bind]; congr; funext i s; cases gIx (g s) i <;> rfl
theorem Ev_xIf {p p' : σ → X σ α} : Ev (xIf t p p' s) k e = Ev (t s) (fun v s => if v = true then Ev (p s) k e else Ev (p' s) k e) e := by
  unfold xIf; rw [Ev_bind]; congr; funext v s; cases v <;> rfl
theorem Ev_xAnd {k : Bool → σ → Prop} : Ev (xAnd t u s) k e = Ev (t s) (fun v s => if v = true then Ev (u s) k e else k false s) e := by
  unfold xAnd; rw [Ev_bind]; congr; funext v s; cases v <;> rfl
theorem Ev_xOr {k : Bool → σ → Prop} : Ev (xOr t u s) k e = Ev (t s) (fun v s => if v = true then k true s else Ev (u s) k e) e := by
  unfold xOr; rw [Ev_bind]; congr; funext v s; cases v <;> rfl
theorem Ev_xNot {k : Bool → σ → Prop} : Ev (xNot t s) k e = Ev (t s) (fun v s => k (!v) s) e := by unfold xNot; rw [Ev_bind]; rfl
theorem Ev_xCs {k : α × β → σ → Prop} : Ev (xCs p q s) k e = Ev (p s) (fun a s => Ev (q s) (fun b s => k (a, b) s) e) e := by unfold xCs; simp only [Ev_bind]; rfl
theorem Ev_xUn {p : σ → X σ (Option α)} : Ev (xUn p s) k e = Ev (p s) (fun a s => Os a (fun a => k a s)) e := by
  unfold xUn; rw [Ev_bind]; congr; funext a s; cases a <;> rfl
theorem Ev_xCh {r : σ → X σ γ} {g : α → β → Option Bool} {g' : β → γ → Option Bool} {k : Bool → σ → Prop} : Ev (xCh g g' p q r s) k e = Ev (p s) (fun a s => Ev (q s) (fun b s => Os (g a b) (fun v => if v = true then Ev (r s) (fun c s => Os (g' b c) (fun z => k z s)) e else k false s)) e) e := by
  unfold xCh; simp only [Ev_bind]; congr; funext a s; congr; funext b s
  cases g a b with
  | none => rfl
  | some v => cases v with
    | false => rfl
    | true =>
      show Ev ((r s).bind _) k e = _
      rw [Ev_bind]; show Ev (r s) _ e = Ev (r s) _ e
      congr; funext c s; cases g' b c <;> rfl
theorem Ev_xSl {p : σ → X σ (List α)} {l r : σ → X σ (Option Int)} {k : List α → σ → Prop} : Ev (xSl p l r s) k e = Ev (p s) (fun a s => Ev (l s) (fun lo s => Ev (r s) (fun hi s => k (gCut a lo hi) s) e) e) e := by unfold xSl; simp only [Ev_bind]; rfl
theorem Ev_xMeth {get : σ → List α} {put : σ → List α → σ} {g : List α → β → Option (γ × List α)} {k : γ → σ → Prop} : Ev (xMeth get put g q s) k e = Ev (q s) (fun b s => Os (g (get s) b) (fun r => k r.1 (put s r.2))) e := by
  unfold xMeth; rw [Ev_bind]; congr; funext b s; cases g (get s) b <;> rfl
theorem Ev_xMeth2 {get : σ → List (List α)} {put : σ → List (List α) → σ} {g : List α → β → Option (γ × List α)} {qi : σ → X σ Int} {k : γ → σ → Prop} (hq : ∀ s C xs s', q s ≠ .exc C xs s') : Ev (xMeth2 get put g qi q s) k e = Ev (qi s) (fun i s => Ev (q s) (fun b s => Os (L2.ixN (get s).length i) (fun j => Os (get s)[j]? (fun xs => Os (g xs b) (fun r => k r.1 (put s ((get s).set j r.2)))))) e) e := by
  unfold xMeth2; rw [Ev_bind]; congr; funext i s
  cases hqs : q s with
  | ok b s =>
    simp only [Ev]
    cases L2.ixN (get s).length i with
    | none => rfl
    | some j =>
      simp only [Os]
      cases (get s)[j]? with
      | none => rfl
      | some xs => simp only; cases g xs b <;> rfl
  | exc C xs s' => exact absurd hqs (hq _ _ _ _)
  | bad => rfl
theorem Ev_xCall {fn : I → A → X I ρ} {get : σ → I} {put : σ → I → σ} {p : σ → X σ A} {k : ρ → σ → Prop} : Ev (xCall fn get put p s) k e = Ev (p s) (fun a s => Ev (fn (get s) a) (fun r i => k r (put s i)) (fun C i => e C (put s i))) e := by
  unfold xCall; rw [Ev_bind]; congr; funext a s; cases fn (get s) a <;> rfl
theorem Ev_xMake {fn : A → X Unit α} {p : σ → X σ A} : Ev (xMake fn p s) k e = Ev (p s) (fun a s => Ev (fn a) (fun r _ => k r s) (fun C _ => e C s)) e := by
  unfold xMake; rw [Ev_bind]; congr; funext a s; cases fn a <;> rfl
theorem Ev_xComp {pi : σ → X σ (List α)} {st : σ → α → σ} {pt : σ → X σ Bool} {pe : σ → X σ β} {k : List β → σ → Prop} : Ev (xComp pi st pt pe s) k e = Ev (pi s) (fun xs s => Os (xCompL st pt pe xs [] s) (fun r => k r.1 r.2)) e := by
  unfold xComp; rw [Ev_bind]; congr; funext xs s; cases xCompL st pt pe xs [] s <;> rfl
variable {n b c : σ → Prop} {r : ρ → σ → Prop} {pa pb : σ → F σ ρ}
theorem Po_nx : Po (.nx s : F σ ρ) n r b c e = n s := rfl
theorem Po_toF {x : X σ α} {f : α → σ → F σ ρ} : Po (x.toF f) n r b c e = Ev x (fun a s => Po (f a s) n r b c e) e := by cases x <;> rfl
theorem Po_yNil : Po (yNil s : F σ ρ) n r b c e = n s := by unfold yNil; rfl
theorem Po_ySeq : Po (ySeq pa pb s) n r b c e = Po (pa s) (fun s => Po (pb s) n r b c e) r b c e := by unfold ySeq; cases pa s <;> rfl
theorem Po_ySet {st : σ → α → σ} : Po (ySet st p s : F σ ρ) n r b c e = Ev (p s) (fun a s => n (st s a)) e := by unfold ySet; rw [Po_toF]; rfl
theorem Po_yRet {p : σ → X σ ρ} : Po (yRet p s) n r b c e = Ev (p s) r e := by unfold yRet; rw [Po_toF]; rfl
theorem Po_yRetC {a : ρ} : Po (yRetC a s : F σ ρ) n r b c e = r a s := by unfold yRetC; rfl
theorem Po_yExpr : Po (yExpr p s : F σ ρ) n r b c e = Ev (p s) (fun _ s => n s) e := by unfold yExpr; rw [Po_toF]; rfl
theorem Po_yIf : Po (yIf t pa pb s) n r b c e = Ev (t s) (fun v s => if v = true then Po (pa s) n r b c e else Po (pb s) n r b c e) e := by
  unfold yIf; rw [Po_toF]; congr; funext v s; cases v <;> rfl
theorem Po_yBreak : Po (yBreak s : F σ ρ) n r b c e = b s := by unfold yBreak; rfl
theorem Po_yCont : Po (yCont s : F σ ρ) n r b c e = c s := by unfold yCont; rfl
theorem Po_yRaise {C : Str} : Po (yRaise C s : F σ ρ) n r b c e = e C s := by unfold yRaise; rfl
theorem Po_yFor {pi : σ → X σ (List α)} {st : σ → α → σ} : Po (yFor pi st pa s) n r b c e = Ev (pi s) (fun xs s => Po (yForL st pa xs s) n r b c e) e := by unfold yFor; rw [Po_toF]
theorem Po_ySetI {get : σ → List α} {put : σ → List α → σ} {q : σ → X σ Int} : Po (ySetI get put p q s : F σ ρ) n r b c e = Ev (p s) (fun a s => Ev (q s) (fun k s => Os (gSetI (get s) k a) (fun ys => n (put s ys))) e) e := by
  unfold ySetI; rw [Po_toF]; congr; funext a s; rw [Po_toF]; congr; funext k s; cases gSetI (get s) k a <;> rfl
theorem Po_yAugI {get : σ → List α} {put : σ → List α → σ} {g : α → β → Option α} {q : σ → X σ Int} {p : σ → X σ β} : Po (yAugI get put g q p s : F σ ρ) n r b c e = Ev (q s) (fun k s => Os (gIx (get s) k) (fun x => Ev (p s) (fun b s => Os (g x b) (fun y => Os (gSetI (get s) k y) (fun ys => n (put s ys)))) e)) e := by
  unfold yAugI; rw [Po_toF]; congr; funext k s
  cases gIx (get s) k with
  | none => rfl
  | some x =>
    simp only [Os]
    rw [Po_toF]; congr; funext bb s
    cases g x bb with
    | none => rfl
    | some y => simp only; cases gSetI (get s) k y <;> rfl
theorem Po.mono {o : F σ ρ} {n' b' c' : σ → Prop} {r' : ρ → σ → Prop} {e' : Str → σ → Prop} (h : Po o n r b c e) (h1 : ∀ s, n s → n' s) (h2 : ∀ a s, r a s → r' a s) (h3 : ∀ s, b s → b' s) (h4 : ∀ s, c s → c' s) (h5 : ∀ C s, e C s → e' C s) : Po o n' r' b' c' e' := by
  cases o with
  | nx s => exact h1 _ h
  | rt a s => exact h2 _ _ h
  | bk s => exact h3 _ h
  | ct s => exact h4 _ h
  | exc C xs s => exact h5 _ _ h
  | bad => exact h
/-- handlers -/
def PoH (hds : List (List (Str × Bool) × (σ → F σ ρ))) (C : Str) (s : σ) (n : σ → Prop) (r : ρ → σ → Prop) (b c : σ → Prop) (e : Str → σ → Prop) : Prop := match hds with
  | [] => e C s
  | (tab, su) :: l => match tab.lookup C with
    | some true => Po (su s) n r b c (fun _ _ => False)
    | some false => PoH l C s n r b c e
    | none => False
theorem Po_yHds {C : Str} {xs : List MV} : ∀ {hds : List (List (Str × Bool) × (σ → F σ ρ))}, Po (yHds hds C xs s) n r b c e = PoH hds C s n r b c e
  | [] => rfl
  | (tab, su) :: l => by
    unfold yHds PoH
    cases tab.lookup C with
    | none => rfl
    | some v =>
      cases v with
      | false => exact Po_yHds
      | true => simp only; cases su s <;> rfl
theorem Po_yTry {hds : List (List (Str × Bool) × (σ → F σ ρ))} {bd : σ → F σ ρ} : Po (yTry bd hds s) n r b c e = Po (bd s) n r b c (fun C s => PoH hds C s n r b c e) := by
  unfold yTry
  cases bd s with
  | exc C xs s' => exact Po_yHds
  | _ => rfl
/-- a loop by an invariant over what is done -/
theorem po_forL {st : σ → α → σ} {xs : List α} (J : Nat → σ → Prop) (h0 : J 0 s) (step : ∀ (j : Nat) (x : α) s, xs[j]? = some x → J j s → Po (pa (st s x)) (J (j + 1)) r n (J (j + 1)) e) (fin : ∀ s, J xs.length s → n s) : Po (yForL st pa xs s) n r b c e := by
  have gen : ∀ (m j : Nat) s, xs.length - j = m → j ≤ xs.length → J j s → Po (yForL st pa (xs.drop j) s) n r b c e := by
    intro m
    induction m with
    | zero =>
      intro j s e1 e2 hj
      have : j = xs.length := by omega
      subst this
      rw [List.drop_length]
      exact fin s hj
    | succ m ih =>
      intro j s e1 e2 hj
      have hlt : j < xs.length := by omega
      rw [List.drop_eq_getElem_cons hlt]
      have st' := step j xs[j] s (List.getElem?_eq_getElem hlt) hj
      unfold yForL
      cases z : pa (st s xs[j]) with
      | nx s' => rw [z] at st'; exact ih (j + 1) s' (by omega) hlt st'
      | ct s' => rw [z] at st'; exact ih (j + 1) s' (by omega) hlt st'
      | bk s' => rw [z] at st'; exact st'
      | rt a s' => rw [z] at st'; exact st'
      | exc C ys s' => rw [z] at st'; exact st'
      | bad => rw [z] at st'; exact st'
  have := gen xs.length 0 s (by omega) (Nat.zero_le _) h0
  rwa [List.drop_zero] at this
/-- the same, the items that are done as a list -/
theorem po_forP {st : σ → α → σ} {xs : List α} (J : List α → σ → Prop) (h0 : J [] s) (step : ∀ (ys zs : List α) (x : α) s, xs = ys ++ x :: zs → J ys s → Po (pa (st s x)) (J (ys ++ [x])) r n (J (ys ++ [x])) e) (fin : ∀ s, J xs s → n s) : Po (yForL st pa xs s) n r b c e :=
  po_forL (fun j s => J (xs.take j) s) (by simpa using h0) (fun j x s hx hj => by
    have hl := (List.getElem?_eq_some_iff.mp hx).1
    have e1 : xs = xs.take j ++ x :: xs.drop (j + 1) := by
      conv => lhs; rw [← List.take_append_drop j xs]
      rw [List.drop_eq_getElem_cons hl, (List.getElem?_eq_some_iff.mp hx).2]
    have e2 : xs.take (j + 1) = xs.take j ++ [x] := by rw [List.take_succ, hx]; rfl
    have := step _ _ x s e1 hj
    rw [e2]; exact this) (fun s h => by rw [List.take_length] at h; exact fin s h)
/-- a loop that may be left, by what holds behind it -/
theorem po_forB {st : σ → α → σ} {xs : List α} (J : Nat → σ → Prop) (M : σ → Prop) (h0 : J 0 s) (step : ∀ (j : Nat) (x : α) s, xs[j]? = some x → J j s → Po (pa (st s x)) (J (j + 1)) r M (J (j + 1)) e) (fin : ∀ s, J xs.length s → M s) (k : ∀ s, M s → n s) : Po (yForL st pa xs s) n r b c e :=
  (po_forL (n := M) (b := b) (c := c) J h0 step fin).mono k (fun _ _ h => h) (fun _ h => h) (fun _ h => h) (fun _ _ h => h)
/-- a while by an invariant and a measure -/
theorem po_while {N : Nat} (J : σ → Prop) (μ : σ → Nat) (h0 : J s) (hN : μ s < N) (step : ∀ s, J s → Ev (t s) (fun v s' => if v = true then Po (pa s') (fun s2 => J s2 ∧ μ s2 < μ s) r n (fun s2 => J s2 ∧ μ s2 < μ s) e else n s') e) : Po (yWhile t pa N s) n r b c e   := by
  unfold yWhile
  induction N generalizing s with
  | zero => omega
  | succ N ih =>
    have st := step s h0
    unfold yWhile0
    cases ht : t s with
    | bad => rw [ht] at st; exact st
    | exc C xs s' => rw [ht] at st; exact st
    | ok v s' =>
      rw [ht] at st
      have st : if v = true then _ else _ := st
      show Po (if v = true then _ else _) n r b c e
      cases v with
      | false => exact st
      | true =>
        rw [if_pos rfl] at st ⊢
        cases hb : pa s' with
        | nx s2 => rw [hb] at st; exact ih st.1 (by have := st.2; omega)
        | ct s2 => rw [hb] at st; exact ih st.1 (by have := st.2; omega)
        | bk s2 => rw [hb] at st; exact st
        | rt a s2 => rw [hb] at st; exact st
        | exc C ys s2 => rw [hb] at st; exact st
        | bad => rw [hb] at st; exact st
/-- comprehensions -/
theorem comp_inv {st : σ → α → σ} {pt : σ → X σ Bool} {pe : σ → X σ β} {xs : List α} {s : σ} {k : List β × σ → Prop} (J : List α → List β → σ → Prop) (h0 : J [] [] s)
    (step : ∀ (ys zs : List α) (x : α) (acc : List β) s, xs = ys ++ x :: zs → J ys acc s → Ev (pt (st s x)) (fun v s => if v = true then Ev (pe s) (fun y s => acc.length < PySem.sizeLine ∧ J (ys ++ [x]) (acc ++ [y]) s) (fun _ _ => False) else J (ys ++ [x]) acc s) (fun _ _ => False)) (fin : ∀ acc s, J xs acc s → k (acc, s)) : Os (xCompL st pt pe xs [] s) k := by
  have gen : ∀ (zs ys : List α) (acc : List β) s, xs = ys ++ zs → J ys acc s → Os (xCompL st pt pe zs acc s) k := by
    intro zs
    induction zs with
    | nil =>
      intro ys acc s e1 hj
      rw [List.append_nil] at e1
      subst e1
      exact fin acc s hj
    | cons x zs ih =>
      intro ys acc s e1 hj
      have st' := step ys zs x acc s e1 hj
      unfold xCompL
      cases hp : pt (st s x) with
      | bad => rw [hp] at st'; exact st'.elim
      | exc C xs s' => rw [hp] at st'; exact st'.elim
      | ok v s1 =>
        rw [hp] at st'
        have st' : if v = true then _ else _ := st'
        simp only
        cases v with
        | false => exact ih (ys ++ [x]) acc s1 (by simp [e1]) st'
        | true =>
          rw [if_pos rfl] at st' ⊢
          cases hq : pe s1 with
          | bad => rw [hq] at st'; exact st'.elim
          | exc C xs s' => rw [hq] at st'; exact st'.elim
          | ok y s2 =>
            rw [hq] at st'
            obtain ⟨z1, z2⟩ := st'
            simp only
            rw [if_pos z1]
            exact ih (ys ++ [x]) (acc ++ [y]) s2 (by simp [e1]) z2
  exact gen xs [] [] s rfl h0
/-- a comprehension that maps and sifts, without effects -/
theorem comp_pure {st : σ → α → σ} {pt : σ → X σ Bool} {pe : σ → X σ β} {xs : List α} {s : σ} {k : List β × σ → Prop} (J : σ → Prop) (f : α → Bool) (g : α → β) (h0 : J s) (hz : xs.length ≤ 16777216)
    (step : ∀ x ∈ xs, ∀ s, J s → Ev (pt (st s x)) (fun v s' => v = f x ∧ if v = true then Ev (pe s') (fun y s2 => y = g x ∧ J s2) (fun _ _ => False) else J s') (fun _ _ => False)) (fin : ∀ s, J s → k ((xs.filter f).map g, s)) : Os (xCompL st pt pe xs [] s) k :=
  comp_inv (fun ys acc s => acc = (ys.filter f).map g ∧ J s) ⟨rfl, h0⟩ (fun ys zs x acc s e1 hj => by
    obtain ⟨rfl, hj⟩ := hj
    refine (step x (by rw [e1]; simp) s hj).mono ?_
    rintro v s' ⟨rfl, p2⟩
    cases hf : f x with
    | false =>
      rw [hf] at p2
      simp at p2 ⊢
      refine ⟨by simp [hf], p2⟩
    | true =>
      rw [hf] at p2
      rw [if_pos rfl] at p2 ⊢
      refine p2.mono ?_
      rintro y s2 ⟨rfl, p5⟩
      refine ⟨?_, ?_, p5⟩
      · rw [sizeLine_eq, List.length_map]
        have := List.length_filter_le f ys
        have : xs.length = ys.length + zs.length + 1 := by rw [e1]; simp; omega
        omega
      · rw [List.filter_append, List.map_append]; simp [hf]) (fun acc s ⟨h1, h2⟩ => by subst h1; exact fin s h2)
theorem comp_mapP {st : σ → α → σ} {pe : σ → X σ β} {xs : List α} {s : σ} {k : List β × σ → Prop} (J : σ → Prop) (g : α → β) (h0 : J s) (hz : xs.length ≤ 16777216)
    (step : ∀ x ∈ xs, ∀ s, J s → Ev (pe (st s x)) (fun y s2 => y = g x ∧ J s2) (fun _ _ => False)) (fin : ∀ s, J s → k (xs.map g, s)) : Os (xCompL st xYes pe xs [] s) k :=
  comp_pure J (fun _ => true) g h0 hz (fun x hx s hs => by
    rw [Ev_xYes]; exact ⟨rfl, by rw [if_pos rfl]; exact step x hx s hs⟩) (fun s hs => by
    have := fin s hs
    rwa [List.filter_eq_self.mpr (fun _ _ => rfl)])
/-! functions -/
variable {init : I → A → σ} {out : σ → I} {d : Option ρ} {bd : σ → F σ ρ} {i : I} {a : A}
theorem Ev_yRun {k : ρ → I → Prop} {e : Str → I → Prop} : Po (bd (init i a)) (fun s => Os d (fun r => k r (out s))) (fun r s => k r (out s)) (fun _ => False) (fun _ => False) (fun C s => e C (out s)) → Ev (yRun init out d bd i a) k e := by
  intro h
  unfold yRun
  cases hb : bd (init i a) with
  | nx s => rw [hb] at h; cases d with
    | none => exact h
    | some r => exact h
  | rt r s => rw [hb] at h; exact h
  | bk s => rw [hb] at h; exact h
  | ct s => rw [hb] at h; exact h
  | exc C xs s => rw [hb] at h; exact h
  | bad => rw [hb] at h; exact h
theorem Ev_yInit {init : A → σ} {out : σ → α} {bd : σ → F σ Unit} {a : A} {k : α → Unit → Prop} {e : Str → Unit → Prop} : Po (bd (init a)) (fun s => k (out s) ()) (fun _ _ => False) (fun _ => False) (fun _ => False) (fun C s => e C ()) → Ev (yInit init out bd a) k e := by
  intro h
  unfold yInit
  cases hb : bd (init a) with
  | nx s => rw [hb] at h; exact h
  | rt r s => rw [hb] at h; exact h.elim
  | bk s => rw [hb] at h; exact h
  | ct s => rw [hb] at h; exact h
  | exc C xs s => rw [hb] at h; exact h
  | bad => rw [hb] at h; exact h
/-- the end as an equation -/
theorem Ev.ok {x : X σ α} {a : α} {s : σ} (h : Ev x (fun b t => b = a ∧ t = s) (fun _ _ => False)) : x = .ok a s := by
  cases x with
  | ok b t => obtain ⟨rfl, rfl⟩ := h; rfl
  | exc C xs t => exact h.elim
  | bad => exact h.elim
theorem Ev.ex {x : X σ α} {k : α → σ → Prop} (h : Ev x k (fun _ _ => False)) : ∃ a s, x = .ok a s ∧ k a s := by
  cases x with
  | ok b t => exact ⟨b, t, rfl, h⟩
  | exc C xs t => exact h.elim
  | bad => exact h.elim
end
/-! subscripts -/
theorem gIx_nat {α : Type} {xs : List α} {j : Nat} {v : α} (h : xs[j]? = some v) : gIx xs (j : Int) = some v := by
  unfold gIx; exact L2.atI_nat h
theorem gIx_z {α : Type} {xs : List α} {k : Int} {v : α} (h0 : 0 ≤ k) (h : xs[k.toNat]? = some v) : gIx xs k = some v := by
  have := gIx_nat h
  rwa [Int.toNat_of_nonneg h0] at this
theorem gIx_lt {α : Type} {xs : List α} {k : Int} (h0 : 0 ≤ k) (h : k < xs.length) : gIx xs k = some (xs[k.toNat]'(by omega)) := gIx_z h0 (List.getElem?_eq_getElem _)
theorem gIx_last {α : Type} {xs : List α} {v : α} : gIx (xs ++ [v]) (-1) = some v := by unfold gIx; exact L2.atI_last xs v
theorem ixN_nat {n j : Nat} (h : j < n) : L2.ixN n (j : Int) = some j := by unfold L2.ixN; rw [if_pos (by omega), if_pos (by omega)]; simp
theorem ixN_z {n : Nat} {k : Int} (h0 : 0 ≤ k) (h : k < n) : L2.ixN n k = some k.toNat := by unfold L2.ixN; rw [if_pos h0, if_pos h]
theorem gSetI_z {α : Type} {xs : List α} {k : Int} {v : α} (h0 : 0 ≤ k) (h : k < xs.length) : gSetI xs k v = some (xs.set k.toNat v) := by
  unfold gSetI; rw [ixN_z h0 h]
theorem rng_get {lo : Int} {n j : Nat} {x : Int} (e : (rng lo n)[j]? = some x) : x = lo + j ∧ j < n := by
  unfold rng at e
  rw [List.getElem?_map] at e
  obtain ⟨k, e1, rfl⟩ := Option.map_eq_some_iff.mp e
  obtain ⟨e2, e3⟩ := List.getElem?_eq_some_iff.mp e1
  simp at e2 e3
  exact ⟨by rw [e3], e2⟩
theorem rng_len {lo : Int} {n : Nat} : (rng lo n).length = n := by unfold rng; simp
theorem rng_mem {lo x : Int} {n : Nat} : x ∈ rng lo n ↔ lo ≤ x ∧ x < lo + n := by
  unfold rng
  rw [List.mem_map]
  constructor
  · rintro ⟨k, hk, rfl⟩
    have := List.mem_range.mp hk
    omega
  · intro h
    exact ⟨(x - lo).toNat, List.mem_range.mpr (by omega), by omega⟩
theorem rng1 {k : Int} (h0 : -(2 ^ 62) ≤ k) (h1 : k < 2 ^ 62) : gRng1 (k, ()) = some (rng 0 k.toNat) := by unfold gRng1; rw [if_pos ⟨h0, h1⟩]
theorem rng2 {i k : Int} (h : -(2 ^ 62) ≤ i ∧ i < 2 ^ 62 ∧ -(2 ^ 62) ≤ k ∧ k < 2 ^ 62) : gRng2 (i, k, ()) = some (rng i (k - i).toNat) := by unfold gRng2; rw [if_pos h]
theorem cMul_r {i j : Int} (h : -(2 ^ 64) < j) (h2 : j < 2 ^ 64) : cMul i j = true := by unfold cMul; simp; omega
theorem cMul_l {i j : Int} (h : -(2 ^ 64) < i) (h2 : i < 2 ^ 64) : cMul i j = true := by unfold cMul; simp; omega
theorem sz (n : Nat) (h : n ≤ 16777216) : n ≤ PySem.sizeLine := by rw [sizeLine_eq]; exact h
end Ty
/-! ## GrA -/
set_option Elab.async false
set_option linter.all false
/-! Gr: graphs as rows of numbers: paths, classes of nodes that reach each other. -/
namespace Gr
/-- paths -/
inductive Star {α : Type} (R : α → α → Prop) : α → α → Prop where
  | refl (a : α) : Star R a a
  | step {a b c : α} (h : R a b) (t : Star R b c) : Star R a c
section
variable {α : Type} {R S : α → α → Prop} {a b c : α}
theorem Star.one (h : R a b) : Star R a b := .step h (.refl b)
theorem Star.trans (h : Star R a b) : Star R b c → Star R a c := by
  induction h with
  | refl _ => exact id
  | step h _ ih => exact fun q => .step h (ih q)
theorem Star.snoc (h : Star R a b) (q : R b c) : Star R a c := h.trans (.one q)
theorem Star.mono (k : ∀ a b, R a b → S a b) (h : Star R a b) : Star S a b := by
  induction h with
  | refl _ => exact .refl _
  | step h _ ih => exact .step (k _ _ h) ih
theorem Star.rev (h : Star R a b) : Star (fun x y => R y x) b a := by
  induction h with
  | refl _ => exact .refl _
  | step h _ ih => exact ih.snoc h
/-- what is closed under steps holds at the end -/
theorem Star.keep {P : α → Prop} (h : Star R a b) (k : ∀ a b, R a b → P a → P b) (p : P a) : P b := by
  induction h with
  | refl _ => exact p
  | step h _ ih => exact ih (k _ _ h p)
theorem Star.back {P : α → Prop} (h : Star R a b) (k : ∀ a b, R a b → P b → P a) (p : P b) : P a := by
  induction h with
  | refl _ => exact p
  | step h _ ih => exact k _ _ h (ih p)
/-- the last step -/
theorem Star.last (h : Star R a b) : a = b ∨ ∃ c, Star R a c ∧ R c b := by
  induction h with
  | refl _ => exact .inl rfl
  | step h t ih =>
    rcases ih with rfl | ⟨c, h1, h2⟩
    · exact .inr ⟨_, .refl _, h⟩
    · exact .inr ⟨c, .step h h1, h2⟩
end
/-- rows whose entries are nodes -/
def Ok (g : List (List Int)) : Prop := ∀ r ∈ g, ∀ t ∈ r, 0 ≤ t ∧ t < g.length
def Node (g : List (List Int)) (v : Int) : Prop := 0 ≤ v ∧ v < g.length
/-- an edge -/
def Ed (g : List (List Int)) (u v : Int) : Prop := 0 ≤ u ∧ ∃ r, g[u.toNat]? = some r ∧ v ∈ r
theorem Ed.l {g : List (List Int)} {u v : Int} (h : Ed g u v) : Node g u := by
  obtain ⟨h0, r, e, _⟩ := h
  have := (List.getElem?_eq_some_iff.mp e).1
  exact ⟨h0, by omega⟩
theorem Ed.r {g : List (List Int)} (k : Ok g) {u v : Int} (h : Ed g u v) : Node g v := by
  obtain ⟨h0, r, e, m⟩ := h
  exact k r (List.mem_of_getElem? e) v m
theorem star_node {g : List (List Int)} (k : Ok g) {u v : Int} (h : Star (Ed g) u v) (hu : Node g u) : Node g v := h.keep (fun _ _ e _ => e.r k) hu
/-- a flag that is set -/
def Tr (f : List Bool) (v : Int) : Prop := 0 ≤ v ∧ f[v.toNat]? = some true
instance {f : List Bool} {v : Int} : Decidable (Tr f v) := inferInstanceAs (Decidable (_ ∧ _))
theorem Tr.lt {f : List Bool} {v : Int} (h : Tr f v) : v < f.length := by
  have := (List.getElem?_eq_some_iff.mp h.2).1
  have := h.1
  omega
theorem tr_set {f : List Bool} {k v : Int} (h0 : 0 ≤ k) (hk : k < f.length) : Tr (f.set k.toNat true) v ↔ v = k ∨ Tr f v := by
  unfold Tr
  constructor
  · rintro ⟨v0, e⟩
    by_cases h : v = k
    · exact .inl h
    · rw [List.getElem?_set_ne (by omega)] at e
      exact .inr ⟨v0, e⟩
  · rintro (rfl | ⟨v0, e⟩)
    · exact ⟨h0, List.getElem?_set_self (by omega)⟩
    · refine ⟨v0, ?_⟩
      by_cases h : v = k
      · subst h; exact List.getElem?_set_self (by omega)
      · rw [List.getElem?_set_ne (by omega)]; exact e
theorem tr_rep {n : Nat} {v : Int} : ¬ Tr (List.replicate n false) v := by
  rintro ⟨_, e⟩
  rw [List.getElem?_replicate] at e
  split at e <;> cases e
theorem tr_get {f : List Bool} {v : Int} (h0 : 0 ≤ v) (h : v < f.length) : f[v.toNat]'(by omega) = true ↔ Tr f v := by
  unfold Tr
  constructor
  · intro e; exact ⟨h0, by rw [List.getElem?_eq_getElem (by omega), e]⟩
  · rintro ⟨_, e⟩
    exact (List.getElem?_eq_some_iff.mp e).2
/-! ### the order in which a search in depth leaves the nodes -/
/-- F: the nodes that were left, in this order. Where a node of the list is reached within the nodes left until then, it reaches back. -/
def Good (g : List (List Int)) (F : List Int) : Prop := ∀ A r B, F = A ++ r :: B → ∀ w, Star (fun x y => Ed g x y ∧ (x ∈ A ∨ x = r)) w r → Star (Ed g) r w
/-- the state of the search: F left, P the path. For each node of the path a number of nodes that were left before it was met. -/
structure Dfs (g : List (List Int)) (F P : List Int) : Prop where
  nd : (F ++ P).Nodup
  nodes : ∀ v ∈ F ++ P, Node g v
  closed : ∀ u ∈ F, ∀ v, Ed g u v → v ∈ F ∨ v ∈ P
  path : ∀ i u v, P[i]? = some u → P[i + 1]? = some v → Ed g u v
  good : Good g F
  mark : ∀ i p, P[i]? = some p → ∃ A B, F = A ++ B ∧ (∀ u ∈ A, ∀ v, Ed g u v → v ∈ A ∨ v ∈ P.take i) ∧ ∀ u ∈ B, Star (Ed g) p u
theorem Dfs.nil {g : List (List Int)} : Dfs g [] [] where
  nd := List.nodup_nil
  nodes := fun v h => nomatch h
  closed := fun u h => nomatch h
  path := fun i u v h => by simp at h
  good := fun A r B h => by simp at h
  mark := fun i p h => by simp at h
/-- a new node at the path's end -/
theorem Dfs.push {g : List (List Int)} {F P : List Int} (d : Dfs g F P) {t : Int} (ht : Node g t) (hn : t ∉ F ++ P) (he : ∀ p, P.getLast? = some p → Ed g p t) : Dfs g F (P ++ [t]) where
  nd := by
    rw [← List.append_assoc, List.nodup_append]
    exact ⟨d.nd, by simp, fun a ha b hb e => by
      rw [List.mem_singleton.mp hb] at e
      exact hn (e ▸ ha)⟩
  nodes := fun v hv => by
    rw [← List.append_assoc] at hv
    rcases List.mem_append.mp hv with hv | hv
    · exact d.nodes v hv
    · rw [List.mem_singleton.mp hv]; exact ht
  closed := fun u hu v e => (d.closed u hu v e).imp id fun h => List.mem_append_left _ h
  path := fun i u v h1 h2 => by
    by_cases hi : i + 1 < P.length
    · rw [List.getElem?_append_left (by omega)] at h1
      rw [List.getElem?_append_left hi] at h2
      exact d.path i u v h1 h2
    · have hl := (List.getElem?_eq_some_iff.mp h2).1
      simp at hl
      have e : i + 1 = P.length := by omega
      rw [List.getElem?_append_left (by omega)] at h1
      rw [e] at h2
      simp at h2
      subst h2
      refine he u ?_
      rw [List.getLast?_eq_getElem?]
      have : P.length - 1 = i := by omega
      rw [this]; exact h1
  good := d.good
  mark := fun i p h => by
    by_cases hi : i < P.length
    · rw [List.getElem?_append_left hi] at h
      obtain ⟨A, B, h1, h2, h3⟩ := d.mark i p h
      refine ⟨A, B, h1, fun u hu v e => ?_, h3⟩
      rw [List.take_append_of_le_length (by omega)]
      exact h2 u hu v e
    · have hl := (List.getElem?_eq_some_iff.mp h).1
      simp at hl
      have e : i = P.length := by omega
      refine ⟨F, [], by simp, fun u hu v e' => ?_, fun u hu => nomatch hu⟩
      rw [e]
      simp
      exact d.closed u hu v e'
theorem Dfs.below {g : List (List Int)} {F P : List Int} (d : Dfs g F P) : ∀ (k i : Nat) (u v : Int), P[i]? = some u → P[i + k]? = some v → Star (Ed g) u v
  | 0, i, u, v, h1, h2 => by
    rw [Nat.add_zero, h1] at h2
    cases h2
    exact .refl _
  | k + 1, i, u, v, h1, h2 => by
    have hl := (List.getElem?_eq_some_iff.mp h2).1
    obtain ⟨w, hw⟩ : ∃ w, P[i + 1]? = some w := ⟨_, List.getElem?_eq_getElem (by omega)⟩
    exact .step (d.path i u w h1 hw) (d.below k (i + 1) w v hw (by rw [show i + 1 + k = i + (k + 1) by omega]; exact h2))
/-- the path's last node left -/
theorem Dfs.leave {g : List (List Int)} {F P : List Int} {v : Int} (d : Dfs g F (P ++ [v])) (hs : ∀ w, Ed g v w → w ∈ F ∨ w ∈ P ++ [v]) : Dfs g (F ++ [v]) P where
  nd := by
    have := d.nd
    refine (List.Perm.nodup_iff ?_).mp this
    rw [List.append_assoc]
    exact List.Perm.append_left F List.perm_append_comm
  nodes := fun w hw => d.nodes w (by simp at hw ⊢; rcases hw with h | h | h <;> simp [h])
  closed := fun u hu w e => by
    have : w ∈ F ∨ w ∈ P ++ [v] := by
      rcases List.mem_append.mp hu with hu | hu
      · exact d.closed u hu w e
      · rw [List.mem_singleton.mp hu] at e; exact hs w e
    simp at this ⊢
    rcases this with h | h | h <;> simp [h]
  path := fun i a b h1 h2 => d.path i a b (by
    have := (List.getElem?_eq_some_iff.mp h1).1
    rw [List.getElem?_append_left this]; exact h1) (by
    have := (List.getElem?_eq_some_iff.mp h2).1
    rw [List.getElem?_append_left this]; exact h2)
  good := by
    intro A r B hF w hw
    rcases List.eq_nil_or_concat B with rfl | ⟨B', x, rfl⟩
    · -- the node that was left now
      obtain ⟨rfl, hr⟩ := List.append_inj' hF rfl
      have hr : v = r := by simpa using hr
      subst hr
      have hP : (P ++ [v])[P.length]? = some v := by simp
      obtain ⟨A, B, e, h2, h3⟩ := d.mark _ v hP
      have nd := d.nd
      have nvF : v ∉ F := fun h => by
        rw [List.nodup_append] at nd
        exact nd.2.2 v h v (by simp) rfl
      have dis : ∀ u ∈ F, u ∉ P := fun u hu hp => by
        rw [List.nodup_append] at nd
        exact nd.2.2 u hu u (by simp [hp]) rfl
      have nvP : v ∉ P := fun h => by
        rw [List.nodup_append, List.nodup_append] at nd
        exact nd.2.1.2.2 v h v (by simp) rfl
      have ndF : F.Nodup := by rw [List.nodup_append] at nd; exact nd.1
      have key : w ∈ B ∨ w = v := by
        refine hw.back (P := fun x => x ∈ B ∨ x = v) (fun a b hab hb => ?_) (.inr rfl)
        obtain ⟨he, ha⟩ := hab
        rcases ha with ha | ha
        · rw [e] at ha
          rcases List.mem_append.mp ha with ha | ha
          · exfalso
            have := h2 a ha b he
            simp at this
            rcases hb with hb | rfl
            · rcases this with q | q
              · rw [e, List.nodup_append] at ndF
                exact ndF.2.2 b q b hb rfl
              · exact dis b (by rw [e]; exact List.mem_append_right _ hb) q
            · rcases this with q | q
              · exact nvF (by rw [e]; exact List.mem_append_left _ q)
              · exact nvP q
          · exact .inl ha
        · exact .inr ha
      rcases key with h | rfl
      · exact h3 w h
      · exact .refl _
    · have : F = A ++ r :: B' := by
        rw [show A ++ r :: B'.concat x = (A ++ r :: B') ++ [x] by simp] at hF
        exact (List.append_inj' hF rfl).1
      exact d.good A r B' this w hw
  mark := fun i p h => by
    have hi := (List.getElem?_eq_some_iff.mp h).1
    have h' : (P ++ [v])[i]? = some p := by rw [List.getElem?_append_left hi]; exact h
    obtain ⟨A, B, e, h2, h3⟩ := d.mark i p h'
    refine ⟨A, B ++ [v], by rw [e]; simp, fun u hu w ed => ?_, fun u hu => ?_⟩
    · have := h2 u hu w ed
      rwa [List.take_append_of_le_length (by omega)] at this
    · rcases List.mem_append.mp hu with hu | hu
      · exact h3 u hu
      · rw [List.mem_singleton.mp hu]
        exact d.below (P.length - i) i p v h' (by rw [show i + (P.length - i) = P.length by omega]; simp)
/-! ### the second pass: classes -/
def Mut (g : List (List Int)) (u v : Int) : Prop := Star (Ed g) u v ∧ Star (Ed g) v u
theorem Mut.symm {g : List (List Int)} {u v : Int} (h : Mut g u v) : Mut g v u := ⟨h.2, h.1⟩
theorem Mut.trans {g : List (List Int)} {u v w : Int} (h : Mut g u v) (k : Mut g v w) : Mut g u w := ⟨h.1.trans k.1, k.2.trans h.2⟩
/-- the class of a root: what reaches it by nodes that have no number yet (U) -/
theorem class_of {g : List (List Int)} {F A B : List Int} {r : Int} {U : Int → Prop} (hg : Good g F) (hF : F = A ++ r :: B) (hU : ∀ v, U v → v ∈ A ∨ v = r) (hr : U r) (hcl : ∀ u v, Ed g u v → ¬ U v → ¬ U u) (hcls : ∀ u v, Mut g u v → U u → U v) (w : Int) :
    Star (fun x y => Ed g x y ∧ U x) w r ↔ Mut g r w := by
  constructor
  · intro h
    refine ⟨hg A r B hF w (h.mono fun a b q => ⟨q.1, hU a q.2⟩), h.mono fun a b q => q.1⟩
  · rintro ⟨h1, h2⟩
    have gen : ∀ a c, Star (Ed g) a c → (∀ x, Star (Ed g) a x → Star (Ed g) x c → U x) → Star (fun x y => Ed g x y ∧ U x) a c := by
      intro a c ha
      induction ha with
      | refl _ => exact fun _ => .refl _
      | step e t ih => exact fun k => .step ⟨e, k _ (.refl _) (.step e t)⟩ (ih fun x h1 h2 => k x (.step e h1) h2)
    exact gen w r h2 fun x hx1 hx2 => hcls r x ⟨h1.trans hx1, hx2⟩ hr
end Gr
/-! ## GrB -/
set_option Elab.async false
set_option linter.all false
/-! Gr, part B: marking what is reached. -/
namespace Gr
/-- targets are looked at, those without a flag get one and go to the stack -/
structure Mk (sn0 : List Bool) (st0 done : List Int) (sn : List Bool) (st : List Int) : Prop where
  len : sn.length = sn0.length
  tr : ∀ v, Tr sn v ↔ Tr sn0 v ∨ v ∈ done
  stk : ∀ v, v ∈ st ↔ v ∈ st0 ∨ (v ∈ done ∧ ¬ Tr sn0 v)
  cnt : sn.count false + st.length = sn0.count false + st0.length
theorem Mk.zero {sn : List Bool} {st : List Int} : Mk sn st [] sn st := ⟨rfl, fun v => by simp, fun v => by simp, rfl⟩
theorem count_set_false {sn : List Bool} {k : Nat} (h : sn[k]? = some false) : (sn.set k true).count false + 1 = sn.count false := by
  have hk := (List.getElem?_eq_some_iff.mp h).1
  have e := (List.getElem?_eq_some_iff.mp h).2
  rw [List.count_set hk, e]
  have : 0 < sn.count false := List.count_pos_iff.mpr (List.mem_of_getElem? h)
  simp
  omega
theorem not_tr {sn : List Bool} {t : Int} (h0 : 0 ≤ t) (h : t < sn.length) (n : ¬ Tr sn t) : sn[t.toNat]? = some false := by
  have e := List.getElem?_eq_getElem (l := sn) (i := t.toNat) (by omega)
  cases hb : sn[t.toNat]'(by omega) with
  | false => rw [e, hb]
  | true => exact absurd ⟨h0, by rw [e, hb]⟩ n
theorem Mk.step {sn0 sn : List Bool} {st0 st done : List Int} (m : Mk sn0 st0 done sn st) {t : Int} (h0 : 0 ≤ t) (h : t < sn.length) : (Tr sn t → Mk sn0 st0 (done ++ [t]) sn st) ∧ (¬ Tr sn t → Mk sn0 st0 (done ++ [t]) (sn.set t.toNat true) (st ++ [t])) := by
  constructor
  · intro ht
    refine ⟨m.len, fun v => ?_, fun v => ?_, m.cnt⟩
    · rw [m.tr]; simp
      constructor
      · rintro (q | q); exact .inl q; exact .inr (.inl q)
      · rintro (q | q | rfl); exact .inl q; exact .inr q; exact (m.tr _).mp ht
    · rw [m.stk]; simp
      constructor
      · rintro (q | ⟨q, r⟩); exact .inl q; exact .inr ⟨.inl q, r⟩
      · rintro (q | ⟨q | rfl, r⟩)
        · exact .inl q
        · exact .inr ⟨q, r⟩
        · rcases (m.tr _).mp ht with q | q
          · exact absurd q r
          · exact .inr ⟨q, r⟩
  · intro ht
    refine ⟨by rw [List.length_set]; exact m.len, fun v => ?_, fun v => ?_, ?_⟩
    · rw [tr_set h0 h, m.tr]; simp
      constructor
      · rintro (rfl | q | q)
        · exact .inr (.inr rfl)
        · exact .inl q
        · exact .inr (.inl q)
      · rintro (q | q | rfl)
        · exact .inr (.inl q)
        · exact .inr (.inr q)
        · exact .inl rfl
    · simp; rw [m.stk]
      constructor
      · rintro ((q | ⟨q, r⟩) | rfl)
        · exact .inl q
        · exact .inr ⟨.inl q, r⟩
        · exact .inr ⟨.inr rfl, fun q => ht ((m.tr _).mpr (.inl q))⟩
      · rintro (q | ⟨q | rfl, r⟩)
        · exact .inl (.inl q)
        · exact .inl (.inr ⟨q, r⟩)
        · exact .inr rfl
    · have := count_set_false (not_tr h0 h ht)
      have := m.cnt
      rw [List.length_append]; simp; omega
/-- flags behind which nothing is open but what stands on the stack; P: what may be reached by steps of R -/
structure Wk (R : Int → Int → Prop) (n : Nat) (P : Int → Prop) (sn : List Bool) (st : List Int) : Prop where
  len : sn.length = n
  p : ∀ v, Tr sn v → P v
  stk : ∀ v ∈ st, Tr sn v
  cl : ∀ u, Tr sn u → u ∈ st ∨ ∀ w, R u w → Tr sn w
  cnt : sn.count false + st.length ≤ n
theorem Wk.pop {R : Int → Int → Prop} {n : Nat} {P : Int → Prop} {sn sn' : List Bool} {st st' : List Int} {u : Int} {ts : List Int} (w : Wk R n P sn (st ++ [u])) (m : Mk sn st ts sn' st') (ht : ∀ t, t ∈ ts ↔ R u t) (hP : ∀ u v, R u v → P u → P v) : Wk R n P sn' st' where
  len := m.len.trans w.len
  p := fun v hv => by
    rcases (m.tr v).mp hv with q | q
    · exact w.p v q
    · exact hP u v ((ht v).mp q) (w.p u (w.stk u (by simp)))
  stk := fun v hv => by
    rcases (m.stk v).mp hv with q | q
    · exact (m.tr v).mpr (.inl (w.stk v (by simp [q])))
    · exact (m.tr v).mpr (.inr q.1)
  cl := fun x hx => by
    by_cases hxu : x = u
    · subst hxu
      exact .inr fun y hy => (m.tr y).mpr (.inr ((ht y).mpr hy))
    · by_cases hx0 : Tr sn x
      · rcases w.cl x hx0 with q | q
        · simp at q
          rcases q with q | q
          · exact .inl ((m.stk x).mpr (.inl q))
          · exact absurd q hxu
        · exact .inr fun y hy => (m.tr y).mpr (.inl (q y hy))
      · rcases (m.tr x).mp hx with q | q
        · exact absurd q hx0
        · exact .inl ((m.stk x).mpr (.inr ⟨q, hx0⟩))
  cnt := by
    have := w.cnt
    have := m.cnt
    rw [List.length_append] at *
    simp at *; omega
theorem Wk.end {R : Int → Int → Prop} {n : Nat} {P : Int → Prop} {sn : List Bool} (w : Wk R n P sn []) {u v : Int} (h : Star R u v) (hu : Tr sn u) : Tr sn v :=
  h.keep (fun a b e ha => by
    rcases w.cl a ha with q | q
    · cases q
    · exact q b e) hu
theorem Wk.len' {R : Int → Int → Prop} {n : Nat} {P : Int → Prop} {sn : List Bool} {st : List Int} (w : Wk R n P sn st) : st.length ≤ n := by have := w.cnt; omega
theorem count_le {sn0 sn : List Bool} {st0 st done : List Int} (m : Mk sn0 st0 done sn st) : sn.count false ≤ sn0.count false := by
  have h : sn0.length = sn.length := m.len.symm
  have k : ∀ i : Nat, sn0[i]? = some true → sn[i]? = some true := fun i hi => by
    have : Tr sn (i : Int) := (m.tr _).mpr (.inl ⟨by omega, by simpa using hi⟩)
    simpa using this.2
  clear m
  induction sn0 generalizing sn with
  | nil =>
    cases sn with
    | nil => exact Nat.le_refl _
    | cons _ _ => cases h
  | cons a xs ih =>
    cases sn with
    | nil => cases h
    | cons b ys =>
      have := ih (by simpa using h) (fun i hi => by simpa using k (i + 1) (by simpa using hi))
      have := k 0
      cases a <;> cases b <;> simp at * <;> omega
end Gr
/-! ## GrC -/
set_option Elab.async false
set_option linter.all false
/-! Gr, part C: the search in depth with places. -/
namespace Gr
def row (g : List (List Int)) (v : Int) : List Int := g.getD v.toNat []
theorem ed_row_iff {g : List (List Int)} {v w : Int} (h : Node g v) : Ed g v w ↔ w ∈ row g v := by
  unfold Ed row
  have e := List.getElem?_eq_getElem (l := g) (i := v.toNat) (by have := h.1; have := h.2; omega)
  have e' : g.getD v.toNat [] = g[v.toNat]'(by have := h.1; have := h.2; omega) := by rw [List.getD_eq_getElem?_getD, e]; rfl
  rw [e']
  constructor
  · rintro ⟨_, r, e2, m⟩
    rw [e] at e2; cases e2; exact m
  · intro m; exact ⟨h.1, _, e, m⟩
structure Fin (g : List (List Int)) (seen : List Bool) (order path places : List Int) : Prop where
  d : Dfs g order path
  len : seen.length = g.length
  tr : ∀ v, Tr seen v ↔ v ∈ order ∨ v ∈ path
  pl : places.length = path.length
  ex : ∀ (i : Nat) p k, path[i]? = some p → places[i]? = some k → 0 ≤ k ∧ k ≤ (row g p).length ∧ ∀ m, m < k.toNat → ∀ t, (row g p)[m]? = some t → Tr seen t
  cnt : seen.count false + order.length + path.length = g.length
theorem tr_mono {seen : List Bool} {t v : Int} (h0 : 0 ≤ t) (h : t < seen.length) (k : Tr seen v) : Tr (seen.set t.toNat true) v := (tr_set h0 h).mpr (.inr k)
theorem Fin.start {g : List (List Int)} {seen : List Bool} {order : List Int} {r : Int} (f : Fin g seen order [] []) (hr : Node g r) (hn : ¬ Tr seen r) : Fin g (seen.set r.toNat true) order [r] [0] := by
  have hl : r < (seen.length : Int) := by rw [f.len]; exact hr.2
  refine ⟨f.d.push (P := []) hr (fun q => hn ((f.tr r).mpr (by simpa using q))) (fun p q => by simp at q), by rw [List.length_set]; exact f.len, fun v => ?_, rfl, fun i p k h1 h2 => ?_, ?_⟩
  · rw [tr_set hr.1 hl, f.tr]; simp
    constructor
    · rintro (q | q); exact .inr q; exact .inl q
    · rintro (q | q); exact .inr q; exact .inl q
  · cases i with
    | zero =>
      simp at h1 h2
      subst h1 h2
      exact ⟨Int.le_refl _, by omega, fun m hm => by simp at hm⟩
    | succ i => simp at h1
  · have := count_set_false (not_tr hr.1 hl hn)
    have := f.cnt
    simp at *; omega
theorem last_at {P : List Int} {v : Int} : (P ++ [v])[P.length]? = some v := by simp
theorem Fin.leave {g : List (List Int)} {seen : List Bool} {order P K : List Int} {v k : Int} (f : Fin g seen order (P ++ [v]) (K ++ [k])) (hk : k = (row g v).length) : Fin g seen (order ++ [v]) P K := by
  have pl : K.length = P.length := by have := f.pl; simpa using this
  have hv : Node g v := f.d.nodes v (by simp)
  refine ⟨f.d.leave fun w hw => ?_, f.len, fun x => ?_, pl, fun i p k' h1 h2 => ?_, ?_⟩
  · obtain ⟨_, _, q⟩ := f.ex P.length v k last_at (by rw [← pl]; exact last_at)
    have hm := (ed_row_iff hv).mp hw
    obtain ⟨m, hm, e⟩ := List.getElem_of_mem hm
    exact (f.tr w).mp (q m (by omega) w (by rw [List.getElem?_eq_getElem hm, e]))
  · rw [f.tr]; simp
    constructor
    · rintro (q | q | q); exact .inl (.inl q); exact .inr q; exact .inl (.inr q)
    · rintro ((q | q) | q); exact .inl q; exact .inr (.inr q); exact .inr (.inl q)
  · exact f.ex i p k' (by rw [List.getElem?_append_left (List.getElem?_eq_some_iff.mp h1).1]; exact h1) (by rw [List.getElem?_append_left (List.getElem?_eq_some_iff.mp h2).1]; exact h2)
  · have := f.cnt
    simp at *; omega
theorem Fin.at {g : List (List Int)} {seen : List Bool} {order P K : List Int} {v k : Int} (f : Fin g seen order (P ++ [v]) (K ++ [k])) : Node g v ∧ 0 ≤ k ∧ k ≤ (row g v).length := by
  have pl : K.length = P.length := by have := f.pl; simpa using this
  obtain ⟨q1, q2, _⟩ := f.ex P.length v k last_at (by rw [← pl]; exact last_at)
  exact ⟨f.d.nodes v (by simp), q1, q2⟩
theorem Fin.look {g : List (List Int)} {seen : List Bool} {order P K : List Int} {v k t : Int} (f : Fin g seen order (P ++ [v]) (K ++ [k])) (hk : (row g v)[k.toNat]? = some t) (ht : Tr seen t) : Fin g seen order (P ++ [v]) (K ++ [k + 1]) := by
  have pl : K.length = P.length := by have := f.pl; simpa using this
  obtain ⟨_, k0, _⟩ := f.at
  refine ⟨f.d, f.len, f.tr, by simp [pl], fun i p k' h1 h2 => ?_, f.cnt⟩
  by_cases hi : i < P.length
  · exact f.ex i p k' h1 (by rw [List.getElem?_append_left (by omega)] at h2 ⊢; exact h2)
  · have hl := (List.getElem?_eq_some_iff.mp h1).1
    simp at hl
    have e : i = P.length := by omega
    subst e
    rw [last_at] at h1
    cases h1
    rw [← pl, last_at] at h2
    cases h2
    obtain ⟨_, _, q⟩ := f.ex P.length v k last_at (by rw [← pl]; exact last_at)
    have := (List.getElem?_eq_some_iff.mp hk).1
    refine ⟨by omega, by omega, fun m hm t' e => ?_⟩
    by_cases hm2 : m < k.toNat
    · exact q m hm2 t' e
    · have : m = k.toNat := by omega
      subst this
      rw [hk] at e; cases e; exact ht
theorem Fin.push {g : List (List Int)} (hg : Ok g) {seen : List Bool} {order P K : List Int} {v k t : Int} (f : Fin g seen order (P ++ [v]) (K ++ [k])) (hk : (row g v)[k.toNat]? = some t) (ht : ¬ Tr seen t) : Fin g (seen.set t.toNat true) order (P ++ [v] ++ [t]) (K ++ [k + 1] ++ [0]) := by
  have pl : K.length = P.length := by have := f.pl; simpa using this
  obtain ⟨nv, k0, _⟩ := f.at
  have he : Ed g v t := (ed_row_iff nv).mpr (List.mem_of_getElem? hk)
  have nt := he.r hg
  have hl : t < (seen.length : Int) := by rw [f.len]; exact nt.2
  refine ⟨f.d.push nt (fun q => ht ((f.tr t).mpr (List.mem_append.mp q))) (fun p q => by simp at q; subst q; exact he), by rw [List.length_set]; exact f.len, fun x => ?_, by simp [pl], fun i p k' h1 h2 => ?_, ?_⟩
  · rw [tr_set nt.1 hl, f.tr]; simp
    constructor
    · rintro (q | q | q | q); exact .inr (.inr (.inr q)); exact .inl q; exact .inr (.inl q); exact .inr (.inr (.inl q))
    · rintro (q | q | q | q); exact .inr (.inl q); exact .inr (.inr (.inl q)); exact .inr (.inr (.inr q)); exact .inl q
  · by_cases hi : i < P.length
    · obtain ⟨q1, q2, q3⟩ := f.ex i p k' (by rw [List.append_assoc] at h1; rw [List.getElem?_append_left hi] at h1 ⊢; exact h1) (by rw [List.append_assoc] at h2; rw [List.getElem?_append_left (by omega)] at h2 ⊢; exact h2)
      exact ⟨q1, q2, fun m hm t' e => tr_mono nt.1 hl (q3 m hm t' e)⟩
    · by_cases hi2 : i = P.length
      · subst hi2
        have e1 : p = v := by
          rw [List.append_assoc, List.getElem?_append_right (Nat.le_refl _)] at h1
          simpa using h1.symm
        have e2 : k' = k + 1 := by
          rw [List.append_assoc, List.getElem?_append_right (by omega), pl, Nat.sub_self] at h2
          simpa using h2.symm
        subst e1 e2
        obtain ⟨_, _, q⟩ := f.ex P.length p k last_at (by rw [← pl]; exact last_at)
        have := (List.getElem?_eq_some_iff.mp hk).1
        refine ⟨by omega, by omega, fun m hm t' e => ?_⟩
        by_cases hm2 : m < k.toNat
        · exact tr_mono nt.1 hl (q m hm2 t' e)
        · have : m = k.toNat := by omega
          subst this
          rw [hk] at e; cases e
          exact (tr_set nt.1 hl).mpr (.inl rfl)
      · have hl1 := (List.getElem?_eq_some_iff.mp h1).1
        simp at hl1
        have hi3 : i = P.length + 1 := by omega
        subst hi3
        have e1 : p = t := by
          rw [List.getElem?_append_right (by simp)] at h1
          simpa using h1.symm
        have e2 : k' = 0 := by
          rw [List.getElem?_append_right (by simp; omega)] at h2
          simp [pl] at h2; exact h2.symm
        subst e1 e2
        exact ⟨Int.le_refl _, by omega, fun m hm => by simp at hm⟩
  · have := count_set_false (not_tr nt.1 hl ht)
    have := f.cnt
    simp at *; omega
def mu (seen : List Bool) (places : List Int) : Nat := 1002 * seen.count false + (places.map fun k => (1001 - k).toNat).sum
theorem mu_leave {seen : List Bool} {K : List Int} {k : Int} (h : k ≤ 1000) : mu seen K < mu seen (K ++ [k]) := by unfold mu; simp; omega
theorem mu_look {seen : List Bool} {K : List Int} {k : Int} (h : k ≤ 999) : mu seen (K ++ [k + 1]) < mu seen (K ++ [k]) := by unfold mu; simp; omega
theorem mu_push {seen : List Bool} {K : List Int} {k t : Int} (h : k ≤ 999) (h0 : 0 ≤ t) (hl : t < seen.length) (hn : ¬ Tr seen t) : mu (seen.set t.toNat true) (K ++ [k + 1] ++ [0]) < mu seen (K ++ [k]) := by
  have := count_set_false (not_tr h0 hl hn)
  unfold mu; simp; omega
/-! ### classes -/
/-- numbers of classes, the nodes without one in U -/
structure Cls (g : List (List Int)) (ns : List Int) (count : Int) : Prop where
  len : ns.length = g.length
  below : ∀ (v : Nat) x, ns[v]? = some x → x < count
  cl : ∀ (u v : Nat) x y, ns[u]? = some x → ns[v]? = some y → 0 ≤ x → (x = y ↔ Mut g u v)
end Gr
/-! ## GrD -/
set_option Elab.async false
set_option linter.all false
/-! Gr, part D: numbers of classes. -/
namespace Gr
def fl (ns : List Int) : List Bool := ns.map fun x => decide (0 ≤ x)
theorem tr_fl {ns : List Int} {v : Int} : Tr (fl ns) v ↔ 0 ≤ v ∧ ∃ x, ns[v.toNat]? = some x ∧ 0 ≤ x := by
  unfold Tr fl
  rw [List.getElem?_map]
  constructor
  · rintro ⟨h0, e⟩
    obtain ⟨x, e1, e2⟩ := Option.map_eq_some_iff.mp e
    exact ⟨h0, x, e1, by simpa using e2⟩
  · rintro ⟨h0, x, e, hx⟩
    exact ⟨h0, by rw [e]; simp [hx]⟩
theorem fl_len {ns : List Int} : (fl ns).length = ns.length := by unfold fl; simp
theorem fl_set {ns : List Int} {k : Nat} {c : Int} (h : 0 ≤ c) : fl (ns.set k c) = (fl ns).set k true := by
  unfold fl; rw [List.map_set]; simp [h]
/-- numbers that stand; what has none is not reached from what has one -/
structure Cl (g : List (List Int)) (ns : List Int) (count : Int) : Prop where
  len : ns.length = g.length
  pos : 0 ≤ count
  lt : ∀ (v : Nat) x, ns[v]? = some x → x < count
  back : ∀ u v, Ed g u v → Tr (fl ns) v → Tr (fl ns) u
  cls : ∀ (u v : Nat) x y, ns[u]? = some x → ns[v]? = some y → 0 ≤ x → 0 ≤ y → (x = y ↔ Mut g u v)
/-- the state while one class is collected -/
structure Co (g : List (List Int)) (ns0 : List Int) (count r : Int) (ns st : List Int) : Prop where
  w : Wk (fun u t => Ed g t u) g.length (fun v => Tr (fl ns0) v ∨ Star (fun x y => Ed g x y ∧ Node g x ∧ ¬ Tr (fl ns0) x) v r) (fl ns) st
  old : ∀ (v : Nat) x, ns0[v]? = some x → 0 ≤ x → ns[v]? = some x
  new : ∀ (v : Nat) x y, ns0[v]? = some x → x < 0 → ns[v]? = some y → y < 0 ∨ y = count
  rt : Tr (fl ns) r
theorem Cl.star {g : List (List Int)} {ns : List Int} {count : Int} (c : Cl g ns count) {u v : Int} (h : Star (Ed g) u v) (hv : Tr (fl ns) v) : Tr (fl ns) u := h.back (fun a b e h => c.back a b e h) hv
theorem Co.start {g : List (List Int)} {ns : List Int} {count r : Int} (c : Cl g ns count) (hr : Node g r) (hn : ¬ Tr (fl ns) r) : Co g ns count r (ns.set r.toNat count) [r] := by
  have hl : r < ((fl ns).length : Int) := by rw [fl_len, c.len]; exact hr.2
  refine ⟨⟨by rw [fl_len, List.length_set]; exact c.len, fun v hv => ?_, fun v hv => ?_, fun u hu => ?_, ?_⟩, fun v x h1 h2 => ?_, fun v x y h1 h2 h3 => ?_, by rw [fl_set c.pos]; exact (tr_set hr.1 hl).mpr (.inl rfl)⟩
  · rw [fl_set c.pos, tr_set hr.1 hl] at hv
    rcases hv with rfl | hv
    · exact .inr (.refl _)
    · exact .inl hv
  · rw [List.mem_singleton.mp hv, fl_set c.pos]
    exact (tr_set hr.1 hl).mpr (.inl rfl)
  · rw [fl_set c.pos] at hu ⊢
    rcases (tr_set hr.1 hl).mp hu with rfl | hu
    · exact .inl (by simp)
    · exact .inr fun w hw => (tr_set hr.1 hl).mpr (.inr (c.back w u hw hu))
  · rw [fl_set c.pos]
    have := count_set_false (not_tr hr.1 hl hn)
    have := List.count_le_length (a := false) (l := fl ns)
    rw [fl_len, c.len] at this
    simp; omega
  · rw [List.getElem?_set_ne]
    · exact h1
    · intro e
      subst e
      exact hn (tr_fl.mpr ⟨hr.1, x, h1, h2⟩)
  · by_cases e : r.toNat = v
    · subst e
      rw [List.getElem?_set_self (by rw [c.len]; have := hr.1; have := hr.2; omega)] at h3
      cases h3; exact .inr rfl
    · rw [List.getElem?_set_ne e, h1] at h3
      cases h3; exact .inl h2
/-- a target gets its number -/
theorem Co.keep {ns0 ns : List Int} {count t : Int} {g : List (List Int)} (c : Cl g ns0 count) (h0 : 0 ≤ t) (hn : ¬ Tr (fl ns) t) (hl : t < ns.length)
    (old : ∀ (v : Nat) x, ns0[v]? = some x → 0 ≤ x → ns[v]? = some x) (new : ∀ (v : Nat) x y, ns0[v]? = some x → x < 0 → ns[v]? = some y → y < 0 ∨ y = count) :
    (∀ (v : Nat) x, ns0[v]? = some x → 0 ≤ x → (ns.set t.toNat count)[v]? = some x) ∧ (∀ (v : Nat) x y, ns0[v]? = some x → x < 0 → (ns.set t.toNat count)[v]? = some y → y < 0 ∨ y = count) := by
  constructor
  · intro v x h1 h2
    rw [List.getElem?_set_ne]
    · exact old v x h1 h2
    · intro e
      subst e
      exact hn (tr_fl.mpr ⟨h0, x, old _ x h1 h2, h2⟩)
  · intro v x y h1 h2 h3
    by_cases e : t.toNat = v
    · subst e
      rw [List.getElem?_set_self (by omega)] at h3
      cases h3; exact .inr rfl
    · rw [List.getElem?_set_ne e] at h3
      exact new v x y h1 h2 h3
theorem P_step {g : List (List Int)} (hg : Ok g) {ns0 : List Int} {count r : Int} (c : Cl g ns0 count) (u v : Int) (h : Ed g v u) (p : Tr (fl ns0) u ∨ Star (fun x y => Ed g x y ∧ Node g x ∧ ¬ Tr (fl ns0) x) u r) : Tr (fl ns0) v ∨ Star (fun x y => Ed g x y ∧ Node g x ∧ ¬ Tr (fl ns0) x) v r := by
  rcases p with p | p
  · exact .inl (c.back v u h p)
  · by_cases hv : Tr (fl ns0) v
    · exact .inl hv
    · exact .inr (.step ⟨h, h.l, hv⟩ p)
/-- the class is collected -/
theorem Co.fin {g : List (List Int)} (hg : Ok g) {F A B : List Int} {ns0 ns : List Int} {count r : Int} (good : Good g F) (hF : F = A ++ r :: B) (all : ∀ v, Node g v → v ∈ F) (done : ∀ v ∈ B, Tr (fl ns0) v) (c : Cl g ns0 count) (hr : Node g r) (hn : ¬ Tr (fl ns0) r) (o : Co g ns0 count r ns []) : Cl g ns (count + 1) ∧ (∀ v, Tr (fl ns0) v → Tr (fl ns) v) ∧ Tr (fl ns) r := by
  have len : ns.length = ns0.length := by have := o.w.len; rw [fl_len] at this; rw [this, c.len]
  have at0 : ∀ (v : Nat) x, ns[v]? = some x → ∃ x0, ns0[v]? = some x0 := fun v x h => by
    have := (List.getElem?_eq_some_iff.mp h).1
    exact ⟨_, List.getElem?_eq_getElem (by omega)⟩
  have back : ∀ u v, Ed g u v → Tr (fl ns) v → Tr (fl ns) u := fun u v h hv => by
    rcases o.w.cl v hv with q | q
    · cases q
    · exact q u h
  have old : ∀ v, Tr (fl ns0) v → Tr (fl ns) v := fun v hv => by
    obtain ⟨h0, x, e, hx⟩ := tr_fl.mp hv
    exact tr_fl.mpr ⟨h0, x, o.old _ x e hx, hx⟩
  have cls := fun w => class_of (w := w) (U := fun v => Node g v ∧ ¬ Tr (fl ns0) v) good hF (fun v ⟨h1, h2⟩ => by
      have := all v h1
      rw [hF] at this
      rcases List.mem_append.mp this with h | h
      · exact .inl h
      · rcases List.mem_cons.mp h with h | h
        · exact .inr h
        · exact absurd (done v h) h2) ⟨hr, hn⟩ (fun u v e h h' => h ⟨e.r hg, fun q => h'.2 (c.back u v e q)⟩) (fun u v m h => ⟨star_node hg m.1 h.1, fun q => h.2 (c.star m.1 q)⟩)
  -- who is new
  have isnew : ∀ v, Tr (fl ns) v → ¬ Tr (fl ns0) v → Mut g r v := fun v h1 h2 => by
    rcases o.w.p v h1 with q | q
    · exact absurd q h2
    · exact (cls v).mp q
  have val : ∀ (v : Nat) x, ns[v]? = some x → 0 ≤ x → (Tr (fl ns0) v ∧ ns0[v]? = some x) ∨ (¬ Tr (fl ns0) v ∧ x = count ∧ Mut g r v) := fun v x h hx => by
    obtain ⟨x0, e0⟩ := at0 v x h
    by_cases h0 : 0 ≤ x0
    · have := o.old v x0 e0 h0
      rw [h] at this; cases this
      exact .inl ⟨tr_fl.mpr ⟨by omega, x, by simpa using e0, hx⟩, e0⟩
    · have nt : ¬ Tr (fl ns0) v := fun q => by
        obtain ⟨_, y, e, hy⟩ := tr_fl.mp q
        simp at e
        rw [e0] at e; cases e; omega
      rcases o.new v x0 x e0 (by omega) h with q | q
      · omega
      · exact .inr ⟨nt, q, isnew v (tr_fl.mpr ⟨by omega, x, by simpa using h, hx⟩) nt⟩
  have rr : Tr (fl ns) r := o.rt
  refine ⟨⟨by rw [len, c.len], by have := c.pos; omega, fun v x h => ?_, back, fun u v x y h1 h2 hx hy => ?_⟩, old, rr⟩
  · obtain ⟨x0, e0⟩ := at0 v x h
    by_cases hx : 0 ≤ x
    · rcases val v x h hx with ⟨_, q⟩ | ⟨_, q, _⟩
      · have := c.lt v x q; omega
      · omega
    · have := c.pos; omega
  · rcases val u x h1 hx with ⟨a1, a2⟩ | ⟨a1, a2, a3⟩
    · rcases val v y h2 hy with ⟨b1, b2⟩ | ⟨b1, b2, b3⟩
      · exact c.cls u v x y a2 b2 hx hy
      · constructor
        · intro e
          have := c.lt u x a2
          omega
        · intro m
          exact absurd (c.star m.2 a1) b1
    · rcases val v y h2 hy with ⟨b1, b2⟩ | ⟨b1, b2, b3⟩
      · constructor
        · intro e
          have := c.lt v y b2
          omega
        · intro m
          exact absurd (c.star m.1 b1) a1
      · exact ⟨fun _ => a3.symm.trans b3, fun _ => by rw [a2, b2]⟩
end Gr
/-! ## GrE -/
set_option Elab.async false
set_option linter.all false
/-! Gr, part E: nodes from which good nodes are met for ever. -/
namespace Gr
theorem php : ∀ (n : Nat) (f : Nat → Nat), (∀ i, i ≤ n → f i < n) → ∃ i j, i < j ∧ j ≤ n ∧ f i = f j
  | 0, f, h => absurd (h 0 (Nat.le_refl _)) (Nat.not_lt_zero _)
  | n + 1, f, h => by
    by_cases c : ∃ i, i ≤ n ∧ f i = f (n + 1)
    · obtain ⟨i, hi, e⟩ := c
      exact ⟨i, n + 1, by omega, Nat.le_refl _, e⟩
    · have ne : ∀ i, i ≤ n → f i ≠ f (n + 1) := fun i hi e => c ⟨i, hi, e⟩
      obtain ⟨i, j, h1, h2, h3⟩ := php n (fun i => if f i > f (n + 1) then f i - 1 else f i) (fun i hi => by
        have a := h i (by omega)
        have b := h (n + 1) (Nat.le_refl _)
        have := ne i hi
        show (if f i > f (n + 1) then f i - 1 else f i) < n
        split <;> omega)
      refine ⟨i, j, h1, by omega, ?_⟩
      have a := ne i (by omega)
      have b := ne j h2
      have h3 : (if f i > f (n + 1) then f i - 1 else f i) = (if f j > f (n + 1) then f j - 1 else f j) := h3
      split at h3 <;> split at h3 <;> omega
def Cyc (g : List (List Int)) (v : Int) : Prop := ∃ w, Ed g v w ∧ Star (Ed g) w v
/-- a good node on a circle is reached -/
def Live (g : List (List Int)) (good : Int → Prop) (v : Int) : Prop := ∃ t, Star (Ed g) v t ∧ good t ∧ Cyc g t
/-- one edge and then a path to a good node that is kept -/
def Hop (g : List (List Int)) (good kept : Int → Prop) (v : Int) : Prop := ∃ t, good t ∧ kept t ∧ ∃ w, Ed g v w ∧ Star (Ed g) w t
theorem live_of_hops {g : List (List Int)} (hg : Ok g) {good kept : Int → Prop} (h : ∀ v, kept v → Hop g good kept v) {v : Int} (hv : kept v) : Live g good v := by
  -- a row of good nodes
  have ch : ∀ x : { x : Int // kept x }, ∃ y : { x : Int // kept x }, good y.1 ∧ ∃ w, Ed g x.1 w ∧ Star (Ed g) w y.1 := fun ⟨x, hx⟩ => by
    obtain ⟨t, h1, h2, h3⟩ := h x hx
    exact ⟨⟨t, h2⟩, h1, h3⟩
  let nx : { x : Int // kept x } → { x : Int // kept x } := fun x => Classical.choose (ch x)
  have hn : ∀ x, good (nx x).1 ∧ ∃ w, Ed g x.1 w ∧ Star (Ed g) w (nx x).1 := fun x => Classical.choose_spec (ch x)
  let f : Nat → { x : Int // kept x } := fun n => Nat.rec ⟨v, hv⟩ (fun _ x => nx x) n
  have fs : ∀ n, f (n + 1) = nx (f n) := fun n => rfl
  have node : ∀ n, Node g (f n).1 := fun n => by
    obtain ⟨_, w, e, _⟩ := hn (f n)
    exact e.l
  have step : ∀ i, Star (Ed g) (f i).1 (f (i + 1)).1 := fun i => by
    obtain ⟨_, w, e, s⟩ := hn (f i)
    exact .step e s
  have path : ∀ k i, Star (Ed g) (f i).1 (f (i + k)).1 := fun k => by
    induction k with
    | zero => exact fun i => .refl _
    | succ k ih => exact fun i => (ih i).trans (step (i + k))
  obtain ⟨i, j, ij, jn, e⟩ := php g.length (fun i => (f (i + 1)).1.toNat) (fun i _ => by have := (node (i + 1)).1; have := (node (i + 1)).2; omega)
  have e' : (f (i + 1)).1 = (f (j + 1)).1 := by
    have e : (f (i + 1)).1.toNat = (f (j + 1)).1.toNat := e
    have := (node (i + 1)).1
    have := (node (j + 1)).1
    omega
  refine ⟨(f (i + 1)).1, ?_, ?_, ?_⟩
  · have := path (i + 1) 0
    rw [Nat.zero_add] at this
    exact this
  · rw [fs]; exact (hn (f i)).1
  · obtain ⟨_, w, ed, s⟩ := hn (f (i + 1))
    refine ⟨w, ed, ?_⟩
    rw [e']
    have := path (j - (i + 1)) (i + 1 + 1)
    rw [show i + 1 + 1 + (j - (i + 1)) = j + 1 by omega] at this
    exact s.trans this
/-- what is alive stays where what leads to good ones stays -/
theorem live_reach {g : List (List Int)} {good kept reach : Int → Prop} (hk : ∀ v, Live g good v → kept v) (cl : ∀ v w, kept v → Ed g v w → kept w → (good w ∨ reach w) → reach v) {v : Int} (hv : Live g good v) : reach v := by
  obtain ⟨t, s, gt, w, ew, sw⟩ := hv
  have lt : Live g good t := ⟨t, .refl _, gt, w, ew, sw⟩
  have key : ∀ a b, Star (Ed g) a b → b = t → ∀ x, Ed g x a → Live g good x → reach x := by
    intro a b h
    induction h with
    | refl a =>
      rintro rfl x e l
      exact cl x a (hk x l) e (hk a lt) (.inl gt)
    | step e' s' ih =>
      intro hb x e l
      have la : Live g good _ := ⟨t, .step e' (hb ▸ s'), gt, w, ew, sw⟩
      exact cl x _ (hk x l) e (hk _ la) (.inr (ih hb _ e' la))
  have lv : Live g good v := ⟨t, s, gt, w, ew, sw⟩
  cases s with
  | refl _ => exact key w v sw rfl v ew lv
  | step e s' => exact key _ _ s' rfl v e lv
/-- flags by a predicate -/
theorem count_true_le {f : List Bool} : f.count true ≤ f.length := List.count_le_length
theorem count_set_true {sn : List Bool} {k : Nat} (h : sn[k]? = some false) : (sn.set k true).count true = sn.count true + 1 := by
  have hk := (List.getElem?_eq_some_iff.mp h).1
  have e := (List.getElem?_eq_some_iff.mp h).2
  rw [List.count_set hk, e]
  simp
/-- flags below other flags -/
theorem count_sub {a b : List Bool} (hl : a.length = b.length) (h : ∀ v, Tr a v → Tr b v) : a.count true ≤ b.count true ∧ (a ≠ b → a.count true < b.count true) := by
  have k : ∀ i : Nat, a[i]? = some true → b[i]? = some true := fun i hi => by
    have := h (i : Int) ⟨by omega, by simpa using hi⟩
    simpa using this.2
  clear h
  induction a generalizing b with
  | nil =>
    cases b with
    | nil => exact ⟨Nat.le_refl _, fun h => absurd rfl h⟩
    | cons _ _ => cases hl
  | cons x xs ih =>
    cases b with
    | nil => cases hl
    | cons y ys =>
      obtain ⟨i1, i2⟩ := ih (b := ys) (by simpa using hl) (fun i hi => by simpa using k (i + 1) (by simpa using hi))
      have k0 := k 0
      cases x <;> cases y <;> simp at * <;> first | omega | (refine ⟨by omega, fun h => ?_⟩; have := i2 h; omega) | exact ⟨i1, i2⟩
theorem tr_rep_true {n : Nat} {v : Int} : Tr (List.replicate n true) v ↔ 0 ≤ v ∧ v < n := by
  unfold Tr
  constructor
  · rintro ⟨h0, e⟩
    rw [List.getElem?_replicate] at e
    split at e
    · exact ⟨h0, by omega⟩
    · cases e
  · rintro ⟨h0, h⟩
    exact ⟨h0, by rw [List.getElem?_replicate, if_pos (by omega)]⟩
end Gr
/-! ## GrF -/
set_option Elab.async false
set_option linter.all false
/-! Gr, part F: automata and the graph of pairs of state and place. -/
namespace Gr
/-- a list that ascends strictly and has only numbers below n -/
def Asc (xs : List Int) (n : Int) : Prop := xs.Pairwise (· < ·) ∧ ∀ x ∈ xs, 0 ≤ x ∧ x < n
theorem asc_len {n : Int} : ∀ {xs : List Int} {lo : Int}, xs.Pairwise (· < ·) → (∀ x ∈ xs, lo ≤ x ∧ x < n) → (xs.length : Int) ≤ max 0 (n - lo)
  | [], lo, _, _ => by simp; omega
  | x :: xs, lo, h, k => by
    obtain ⟨h1, h2⟩ := List.pairwise_cons.mp h
    obtain ⟨k1, k2⟩ := k x (List.mem_cons_self ..)
    have := asc_len (lo := x + 1) h2 (fun y hy => ⟨by have := h1 y hy; omega, (k y (List.mem_cons_of_mem _ hy)).2⟩)
    rw [List.length_cons]; omega
theorem Asc.len {xs : List Int} {n : Nat} (h : Asc xs n) : xs.length ≤ n := by
  have := asc_len (lo := 0) h.1 h.2
  omega
theorem Asc.nil {n : Int} : Asc [] n := ⟨.nil, fun x h => nomatch h⟩
theorem asc_sub {n : Nat} {xs : List Int} (h : xs.Sublist (Ty.rng 0 n)) : Asc xs n := by
  refine ⟨List.Pairwise.sublist h ?_, fun x hx => ?_⟩
  · unfold Ty.rng
    rw [List.pairwise_map]
    refine List.Pairwise.imp ?_ List.pairwise_lt_range
    intro a b hab; omega
  · have := Ty.rng_mem.mp (h.subset hx)
    omega
structure VA (letters : Int) (ini acc : List Int) (rows : List (List (List Int))) : Prop where
  l1 : 1 ≤ letters
  n1 : 1 ≤ rows.length
  i : Asc ini rows.length
  a : Asc acc rows.length
  r : ∀ row ∈ rows, (row.length : Int) = letters ∧ ∀ ts ∈ row, Asc ts rows.length
/-- the targets of a pair -/
def lgc (rows : List (List (List Int))) (hs ls : List Int) (q p : Nat) : List Int := ((rows.getD q []).getD ((hs ++ ls).getD p 0).toNat []).map fun t => t * ((hs ++ ls).length : Int) + (if p + 1 = (hs ++ ls).length then (hs.length : Int) else (p : Int) + 1)
def grid {α : Type} (f : Nat → Nat → α) (m k : Nat) : List α := (List.range k).map fun i => f (i / m) (i % m)
theorem grid_succ {α : Type} {f : Nat → Nat → α} {m j k : Nat} (h : k < m) : grid f m (j * m + (k + 1)) = grid f m (j * m + k) ++ [f j k] := by
  unfold grid
  rw [← Nat.add_assoc, List.range_succ, List.map_append]
  have e1 : (j * m + k) / m = j := by rw [Nat.mul_comm, Nat.mul_add_div (by omega), Nat.div_eq_of_lt h]; omega
  have e2 : (j * m + k) % m = k := by rw [Nat.mul_comm, Nat.mul_add_mod, Nat.mod_eq_of_lt h]
  simp [e1, e2]
theorem grid_get {α : Type} {f : Nat → Nat → α} {m n q p : Nat} (hp : p < m) (hq : q < n) : (grid f m (n * m))[q * m + p]? = some (f q p) := by
  have hl : q * m + p < n * m := by
    have : (q + 1) * m ≤ n * m := Nat.mul_le_mul_right _ (by omega)
    rw [Nat.add_mul] at this; omega
  unfold grid
  rw [List.getElem?_map, List.getElem?_range hl]
  have e1 : (q * m + p) / m = q := by rw [Nat.mul_comm, Nat.mul_add_div (by omega), Nat.div_eq_of_lt hp]; omega
  have e2 : (q * m + p) % m = p := by rw [Nat.mul_comm, Nat.mul_add_mod, Nat.mod_eq_of_lt hp]
  simp [e1, e2]
theorem grid_len {α : Type} {f : Nat → Nat → α} {m k : Nat} : (grid f m k).length = k := by unfold grid; simp
theorem grid_mem {α : Type} {f : Nat → Nat → α} {m n : Nat} (hm : 0 < m) {x : α} (h : x ∈ grid f m (n * m)) : ∃ q p, q < n ∧ p < m ∧ x = f q p := by
  unfold grid at h
  obtain ⟨i, hi, rfl⟩ := List.mem_map.mp h
  have hi := List.mem_range.mp hi
  exact ⟨i / m, i % m, (Nat.div_lt_iff_lt_mul hm).mpr hi, Nat.mod_lt _ hm, rfl⟩
def lg (rows : List (List (List Int))) (hs ls : List Int) : List (List Int) := grid (lgc rows hs ls) (hs ++ ls).length (rows.length * (hs ++ ls).length)
def gds (n : Nat) (acc : List Int) (m : Nat) : List Bool := grid (fun q _ => acc.contains (q : Int)) m (n * m)
theorem lgc_in {letters : Int} {ini acc : List Int} {rows : List (List (List Int))} (V : VA letters ini acc rows) {hs ls : List Int} (hl : ls ≠ []) (hx : ∀ x ∈ hs ++ ls, 0 ≤ x ∧ x < letters) {q p : Nat} (hq : q < rows.length) (hp : p < (hs ++ ls).length) : (∃ ts, ts = (rows.getD q []).getD ((hs ++ ls).getD p 0).toNat [] ∧ Asc ts rows.length ∧ rows[q]? = some (rows.getD q []) ∧ (rows.getD q [])[((hs ++ ls).getD p 0).toNat]? = some ts) := by
  have e1 : rows[q]? = some (rows.getD q []) := by rw [List.getD_eq_getElem?_getD, List.getElem?_eq_getElem hq]; rfl
  obtain ⟨r1, r2⟩ := V.r _ (List.mem_of_getElem? e1)
  have e3 : (hs ++ ls)[p]? = some ((hs ++ ls).getD p 0) := by rw [List.getD_eq_getElem?_getD, List.getElem?_eq_getElem hp]; rfl
  obtain ⟨x0, x1⟩ := hx _ (List.mem_of_getElem? e3)
  have hlt : ((hs ++ ls).getD p 0).toNat < (rows.getD q []).length := by omega
  have e2 : (rows.getD q [])[((hs ++ ls).getD p 0).toNat]? = some ((rows.getD q []).getD ((hs ++ ls).getD p 0).toNat []) := by rw [List.getD_eq_getElem?_getD (l := rows.getD q []), List.getElem?_eq_getElem hlt]; rfl
  exact ⟨_, rfl, r2 _ (List.mem_of_getElem? e2), e1, e2⟩
theorem lg_ok {letters : Int} {ini acc : List Int} {rows : List (List (List Int))} (V : VA letters ini acc rows) {hs ls : List Int} (hl : ls ≠ []) (hx : ∀ x ∈ hs ++ ls, 0 ≤ x ∧ x < letters) : Ok (lg rows hs ls) ∧ ∀ r ∈ lg rows hs ls, r.length ≤ rows.length := by
  have hm : 0 < (hs ++ ls).length := by
    have := List.length_pos_iff.mpr hl
    rw [List.length_append]; omega
  have key : ∀ r ∈ lg rows hs ls, r.length ≤ rows.length ∧ ∀ t ∈ r, 0 ≤ t ∧ t < (lg rows hs ls).length := fun r hr => by
    obtain ⟨q, p, hq, hp, rfl⟩ := grid_mem hm hr
    obtain ⟨ts, ets, asc, _, _⟩ := lgc_in V hl hx hq hp
    unfold lgc
    rw [← ets]
    refine ⟨by rw [List.length_map]; exact asc.len, fun t ht => ?_⟩
    obtain ⟨u, hu, rfl⟩ := List.mem_map.mp ht
    obtain ⟨u0, u1⟩ := asc.2 u hu
    have hlen : (lg rows hs ls).length = rows.length * (hs ++ ls).length := grid_len
    rw [hlen]
    have haft : 0 ≤ (if p + 1 = (hs ++ ls).length then (hs.length : Int) else (p : Int) + 1) ∧ (if p + 1 = (hs ++ ls).length then (hs.length : Int) else (p : Int) + 1) < ((hs ++ ls).length : Int) := by
      have := List.length_pos_iff.mpr hl
      split
      · rw [List.length_append]; omega
      · omega
    generalize (if p + 1 = (hs ++ ls).length then (hs.length : Int) else (p : Int) + 1) = a at *
    generalize (hs ++ ls).length = m at *
    have m1 : 0 ≤ u * (m : Int) := Int.mul_nonneg u0 (by omega)
    have m2 : (u + 1) * (m : Int) ≤ rows.length * m := Int.mul_le_mul_of_nonneg_right (by omega) (by omega)
    rw [Int.add_mul] at m2
    rw [Int.natCast_mul]
    omega
  exact ⟨fun r hr t ht => (key r hr).2 t ht, fun r hr => (key r hr).1⟩
theorem gds_tr {n m : Nat} {acc : List Int} (hm : 0 < m) {v : Int} (h0 : 0 ≤ v) (h : v < ((n * m : Nat) : Int)) : Tr (gds n acc m) v ↔ ((v.toNat / m : Nat) : Int) ∈ acc := by
  have hq : v.toNat / m < n := (Nat.div_lt_iff_lt_mul hm).mpr (by omega)
  have e := grid_get (f := fun q _ => acc.contains (q : Int)) (n := n) (Nat.mod_lt v.toNat hm) hq
  rw [Nat.div_add_mod'] at e
  unfold Tr gds
  rw [e]
  simp [h0]
end Gr
/-! ## K35 -/
set_option Elab.async false
set_option linter.all false
set_option maxRecDepth 100000
set_option maxHeartbeats 4000000
namespace K35
open PySem PySem.Spec PyProof.Rows L2 Mn
def tabC : CTab := [("Game", ["owners", "priorities", "moves", "sources"])]
/-! ### the text -/
def topS (i : Nat) : Stmt := PySem.Challenge.pw_reactivesynth_k35_choices_win.main.body.getD i (.Pass ⟨0, 0, 0, 0⟩)
abbrev s_law_draws : Stmt := topS 15
theorem sc_law_draws : FnScope ["_law_script", "_law_count", "_law_cells", "_law_found", "_law_mixed", "_law_k", "_law_j", "_law_cell", "_law_again"] ["_law_script", "_law_count"] (defScope s_law_draws) := ⟨rfl, rfl, rfl, by decide +kernel, rfl, by decide +kernel, by decide +kernel⟩
abbrev s_law_take : Stmt := topS 16
theorem sc_law_take : FnScope ["_law_draws_here", "_law_limit"] ["_law_draws_here", "_law_limit"] (defScope s_law_take) := ⟨rfl, rfl, rfl, by decide +kernel, rfl, by decide +kernel, by decide +kernel⟩
abbrev s_law_ascending : Stmt := topS 17
theorem sc_law_ascending : FnScope ["_law_draws_here", "_law_limit", "_law_share", "_law_k"] ["_law_draws_here", "_law_limit", "_law_share"] (defScope s_law_ascending) := ⟨rfl, rfl, rfl, by decide +kernel, rfl, by decide +kernel, by decide +kernel⟩
abbrev s_law_game : Stmt := topS 19
theorem sc_law_game : FnScope ["_law_draws_here", "_law_most", "_law_count", "_law_top", "_law_owners", "_law_k", "_law_priorities", "_law_share", "_law_moves", "_law_row"] ["_law_draws_here", "_law_most"] (defScope s_law_game) := ⟨rfl, rfl, rfl, by decide +kernel, rfl, by decide +kernel, by decide +kernel⟩
abbrev s_law_flat : Stmt := topS 18
theorem sc_law_flat : FnScope ["_law_rows", "_law_row"] ["_law_rows"] (defScope s_law_flat) := ⟨rfl, rfl, rfl, by decide +kernel, rfl, by decide +kernel, by decide +kernel⟩
abbrev s_reversed_moves : Stmt := topS 6
theorem sc_reversed_moves : FnScope ["moves", "back", "_", "node", "target"] ["moves"] (defScope s_reversed_moves) := ⟨rfl, rfl, rfl, by decide +kernel, rfl, by decide +kernel, by decide +kernel⟩
abbrev s_Game_init : Stmt := inClass (topS 10) 0
theorem sc_Game_init : FnScope ["self", "owners", "priorities", "moves", "count", "valid", "owner", "priority", "targets", "last", "target"] ["self", "owners", "priorities", "moves"] (defScope s_Game_init) := ⟨rfl, rfl, rfl, by decide +kernel, rfl, by decide +kernel, by decide +kernel⟩
abbrev s_chosen_moves : Stmt := topS 11
theorem sc_chosen_moves : FnScope ["game", "player", "choices", "moves", "position"] ["game", "player", "choices"] (defScope s_chosen_moves) := ⟨rfl, rfl, rfl, by decide +kernel, rfl, by decide +kernel, by decide +kernel⟩
abbrev s_reachable : Stmt := topS 5
theorem sc_reachable : FnScope ["moves", "starts", "seen", "stack", "node", "target"] ["moves", "starts"] (defScope s_reachable) := ⟨rfl, rfl, rfl, by decide +kernel, rfl, by decide +kernel, by decide +kernel⟩
abbrev s_finishing_order : Stmt := topS 7
theorem sc_finishing_order : FnScope ["moves", "seen", "order", "root", "path", "places", "node", "target"] ["moves"] (defScope s_finishing_order) := ⟨rfl, rfl, rfl, by decide +kernel, rfl, by decide +kernel, by decide +kernel⟩
abbrev s_components : Stmt := topS 8
theorem sc_components : FnScope ["moves", "numbers", "back", "count", "order", "root", "stack", "target"] ["moves"] (defScope s_components) := ⟨rfl, rfl, rfl, by decide +kernel, rfl, by decide +kernel, by decide +kernel⟩
abbrev s_has_bad_cycle : Stmt := topS 12
theorem sc_has_bad_cycle : FnScope ["priorities", "moves", "player", "level", "low", "position", "k", "numbers", "target"] ["priorities", "moves", "player"] (defScope s_has_bad_cycle) := ⟨rfl, rfl, rfl, by decide +kernel, rfl, by decide +kernel, by decide +kernel⟩
abbrev s_choices_win : Stmt := topS 13
theorem sc_choices_win : FnScope ["game", "player", "choices", "position", "moves", "seen", "k"] ["game", "player", "choices", "position"] (defScope s_choices_win) := ⟨rfl, rfl, rfl, by decide +kernel, rfl, by decide +kernel, by decide +kernel⟩
abbrev s_law_outcome : Stmt := topS 23
theorem sc_law_outcome : FnScope ["_law_game_here", "_law_player", "_law_choices", "_law_position"] ["_law_game_here", "_law_player", "_law_choices", "_law_position"] (defScope s_law_outcome) := ⟨rfl, rfl, rfl, by decide +kernel, rfl, by decide +kernel, by decide +kernel⟩
abbrev s_law_left : Stmt := topS 20
theorem sc_law_left : FnScope ["_law_owners", "_law_moves", "_law_player", "_law_choices", "_law_found", "_law_k"] ["_law_owners", "_law_moves", "_law_player", "_law_choices"] (defScope s_law_left) := ⟨rfl, rfl, rfl, by decide +kernel, rfl, by decide +kernel, by decide +kernel⟩
abbrev s_law_reached : Stmt := topS 21
theorem sc_law_reached : FnScope ["_law_moves", "_law_starts", "_law_allowed", "_law_seen", "_law_queue", "_law_start", "_law_at", "_law_target"] ["_law_moves", "_law_starts", "_law_allowed"] (defScope s_law_reached) := ⟨rfl, rfl, rfl, by decide +kernel, rfl, by decide +kernel, by decide +kernel⟩
abbrev s_law_wins : Stmt := topS 22
theorem sc_law_wins : FnScope ["_law_priorities", "_law_moves", "_law_player", "_law_start", "_law_count", "_law_seen", "_law_k", "_law_low", "_law_j"] ["_law_priorities", "_law_moves", "_law_player", "_law_start"] (defScope s_law_wins) := ⟨rfl, rfl, rfl, by decide +kernel, rfl, by decide +kernel, by decide +kernel⟩
abbrev s_law : Stmt := topS 24
theorem sc_law : FnScope ["_law_script", "_law_draws_here", "_law_owners", "_law_priorities", "_law_moves", "_law_game_here", "_law_player", "_law_choices", "_law_other", "_law_k", "_law_choice", "_law_position", "_law_handed", "_law_found", "_law_expected"] ["_law_script"] (defScope s_law) := ⟨rfl, rfl, rfl, by decide +kernel, rfl, by decide +kernel, by decide +kernel⟩
/-! ### mirrors -/
/-- law_draws: 0 _law_script, 1 _law_count, 2 _law_cells, 3 _law_found, 4 _law_mixed, 5 _law_k, 6 _law_j, 7 _law_cell, 8 _law_again -/
def m_law_draws : MF := runF 9 (sSeq (sSet 2 (mF (fList true) (maC (mV 0) (maN)))) (sSeq (sIf (mT (m2 (fEq false) (mF fLen (maC (mV 2) (maN))) (mC (.int 0)))) (sSet 2 (mLst true (maC (mC (.int 7)) (maN)))) (sNil)) (sSeq (sSet 3 (mLst true (maN))) (sSeq (sSet 4 (mC (.int 12345))) (sSeq (sFor (iRange1 (maC (mV 1) (maN))) (gNm 5) (sSeq (sSet 6 (m2 fMod (mV 5) (mF fLen (maC (mV 2) (maN))))) (sSeq (sSet 7 (m2 fIx (mV 2) (mV 6))) (sSeq (sSet 4 (m2 fMod (mF fInt (maC (m2 (fAdd false) (m2 (fAdd false) (m2 (fAdd false) (m2 (fMul false) (mV 4) (mC (.int 48271))) (m2 (fMul false) (m2 fMod (mF fInt (maC (mV 7) (maN))) (mC (.int 1000003))) (mC (.int 69621)))) (m2 (fMul false) (mV 5) (mC (.int 7919)))) (mC (.int 11))) (maN))) (mC (.int 2147483647)))) (sSeq (sSet 8 (m2 fMod (mF fInt (maC (m2 (fAdd false) (m2 (fAdd false) (m2 (fMul false) (mV 4) (mV 4)) (m2 (fMul false) (mC (.int 31)) (mV 4))) (mV 5)) (maN))) (mC (.int 1000003)))) (sIf (mT (m2 fGe (mV 7) (m2 fPow (mC (.int 10)) (mC (.int 18))))) (sSeq (sExpr (mM "list" fAppend (mV 3) (maC (m2 fMod (mF fInt (maC (mV 7) (maN))) (mC (.int 1000))) (maN)))) (sAsg (m2 fDiv (mV 7) (mC (.int 1000))) (gSb (mV 2) (mV 6) fSetL))) (sExpr (mM "list" fAppend (mV 3) (maC (m2 fMod (mF fInt (maC (mV 8) (maN))) (mC (.int 1000))) (maN)))))))))) (sSeq (sExpr (mM0 "list" fReverse (mV 3))) (sRet (mV 3))))))))
/-- law_take: 0 _law_draws_here, 1 _law_limit -/
def m_law_take : MF := runF 2 (sSeq (sIf (mT (m2 (fEq false) (mF fLen (maC (mV 0) (maN))) (mC (.int 0)))) (sRet (mC (.int 0))) (sNil)) (sRet (m2 fMod (mF fInt (maC (mM0 "list" fPop (mV 0)) (maN))) (mV 1))))
/-- law_ascending: 0 _law_draws_here, 1 _law_limit, 2 _law_share, 3 _law_k -/
def m_law_ascending : MF := runF 4 (sRet (mComp false (iRange1 (maC (mV 1) (maN))) (gNm 3) (mT (m2 fLt (mCall 2 m_law_take (maC (mV 0) (maC (mC (.int 10)) (maN)))) (mV 2))) (mV 3) [3]))
/-- law_game: 0 _law_draws_here, 1 _law_most, 2 _law_count, 3 _law_top, 4 _law_owners, 5 _law_k, 6 _law_priorities, 7 _law_share, 8 _law_moves, 9 _law_row -/
def m_law_game : MF := runF 10 (sSeq (sSet 2 (m2 (fAdd false) (mC (.int 1)) (mCall 2 m_law_take (maC (mV 0) (maC (mV 1) (maN)))))) (sSeq (sSet 3 (m2 (fAdd false) (mC (.int 1)) (mCall 2 m_law_take (maC (mV 0) (maC (mC (.int 5)) (maN)))))) (sSeq (sSet 4 (mComp false (iRange1 (maC (mV 2) (maN))) (gNm 5) (tYesM) (mCall 2 m_law_take (maC (mV 0) (maC (mC (.int 2)) (maN)))) [5])) (sSeq (sSet 6 (mComp false (iRange1 (maC (mV 2) (maN))) (gNm 5) (tYesM) (mCall 2 m_law_take (maC (mV 0) (maC (mV 3) (maN)))) [5])) (sSeq (sSet 7 (m2 (fAdd false) (mC (.int 2)) (mCall 2 m_law_take (maC (mV 0) (maC (mC (.int 4)) (maN)))))) (sSeq (sSet 8 (mLst true (maN))) (sSeq (sFor (iRange1 (maC (mV 2) (maN))) (gNm 5) (sSeq (sSet 9 (mCall 3 m_law_ascending (maC (mV 0) (maC (mV 2) (maC (mV 7) (maN)))))) (sSeq (sIf (mT (m2 (fEq false) (mF fLen (maC (mV 9) (maN))) (mC (.int 0)))) (sSet 9 (mLst false (maC (mCall 2 m_law_take (maC (mV 0) (maC (mV 2) (maN)))) (maN)))) (sNil)) (sExpr (mM "list" fAppend (mV 8) (maC (mV 9) (maN))))))) (sFrz 8 (sRet (mTup (maC (mV 4) (maC (mV 6) (maC (mV 8) (maN))))))))))))))
/-- law_flat: 0 _law_rows, 1 _law_row -/
def m_law_flat : MF := runF 2 (sRet (mComp false (iSeq (mV 0)) (gNm 1) (tYesM) (mF (fList false) (maC (mV 1) (maN))) [1]))
/-- reversed_moves: 0 moves, 1 back, 2 _, 3 node, 4 target -/
def m_reversed_moves : MF := runF 5 (sSeq (sSet 1 (mComp true (iSeq (mV 0)) (gNm 2) (tYesM) (mLst true (maN)) [2])) (sSeq (sFor (iRange1 (maC (mF fLen (maC (mV 0) (maN))) (maN))) (gNm 3) (sFor (iSeq (m2 fIx (mV 0) (mV 3))) (gNm 4) (sExpr (mM "list" fAppend (m2 fIx (mV 1) (mV 4)) (maC (mV 3) (maN)))))) (sFrz 1 (sRet (mV 1)))))
/-- Game_init: 0 self, 1 owners, 2 priorities, 3 moves, 4 count, 5 valid, 6 owner, 7 priority, 8 targets, 9 last, 10 target -/
def m_Game_init : MF := runF 11 (sSeq (sSet 4 (mF fLen (maC (mV 3) (maN)))) (sSeq (sSet 5 (mAnd (m2 fGe (mV 4) (mC (.int 1))) (mAnd (m2 (fEq false) (mF fLen (maC (mV 1) (maN))) (mV 4)) (m2 (fEq false) (mF fLen (maC (mV 2) (maN))) (mV 4))))) (sSeq (sFor (iSeq (mV 1)) (gNm 6) (sSet 5 (mAnd (mV 5) (mOr (m2 (fEq false) (mV 6) (mC (.int 0))) (m2 (fEq false) (mV 6) (mC (.int 1))))))) (sSeq (sFor (iSeq (mV 2)) (gNm 7) (sSet 5 (mAnd (mV 5) (m2 fGe (mV 7) (mC (.int 0)))))) (sSeq (sFor (iSeq (mV 3)) (gNm 8) (sSeq (sSet 5 (mAnd (mV 5) (m2 fGt (mF fLen (maC (mV 8) (maN))) (mC (.int 0))))) (sSeq (sSet 9 (m1 fNeg (mC (.int 1)))) (sFor (iSeq (mV 8)) (gNm 10) (sSeq (sSet 5 (mAnd (mV 5) (mChain fLt fLt (mV 9) (mV 10) (mV 4)))) (sSet 9 (mV 10))))))) (sSeq (sIf (tNotM (mT (mV 5))) (sRaise "InvalidGame") (sNil)) (sSeq (sFldM tabC "owners" (mV 0) (mF fTuple (maC (mV 1) (maN)))) (sSeq (sFldM tabC "priorities" (mV 0) (mF fTuple (maC (mV 2) (maN)))) (sSeq (sFldM tabC "moves" (mV 0) (mF fTuple (maC (mComp false (iSeq (mV 3)) (gNm 8) (tYesM) (mF fTuple (maC (mV 8) (maN))) [8]) (maN)))) (sFldM tabC "sources" (mV 0) (mCall 1 m_reversed_moves (maC (m1 (fFld tabC "moves") (mV 0)) (maN)))))))))))))
/-- chosen_moves: 0 game, 1 player, 2 choices, 3 moves, 4 position -/
def m_chosen_moves : MF := runF 5 (sSeq (sSet 3 (mLst true (maN))) (sSeq (sFor (iRange1 (maC (mF fLen (maC (m1 (fFld tabC "moves") (mV 0)) (maN))) (maN))) (gNm 4) (sIf (mT (m2 (fEq true) (m2 fIx (m1 (fFld tabC "owners") (mV 0)) (mV 4)) (mV 1))) (sExpr (mM "list" fAppend (mV 3) (maC (mF (fList false) (maC (m2 fIx (m1 (fFld tabC "moves") (mV 0)) (mV 4)) (maN))) (maN)))) (sIf (mT (m2 fLt (m2 fIx (mV 2) (mV 4)) (mC (.int 0)))) (sExpr (mM "list" fAppend (mV 3) (maC (mLst false (maN)) (maN)))) (sExpr (mM "list" fAppend (mV 3) (maC (mLst false (maC (m2 fIx (mV 2) (mV 4)) (maN))) (maN))))))) (sRet (mV 3))))
/-- reachable: 0 moves, 1 starts, 2 seen, 3 stack, 4 node, 5 target -/
def m_reachable : MF := runF 6 (sSeq (sSet 2 (m2 (fMul true) (mLst false (maC (mC (.bl false)) (maN))) (mF fLen (maC (mV 0) (maN))))) (sSeq (sSet 3 (mLst true (maN))) (sSeq (sFor (iSeq (mV 1)) (gNm 4) (sIf (tNotM (mT (m2 fIx (mV 2) (mV 4)))) (sSeq (sAsg (mC (.bl true)) (gSb (mV 2) (mV 4) fSetL)) (sExpr (mM "list" fAppend (mV 3) (maC (mV 4) (maN))))) (sNil))) (sSeq (sWhile (mT (m2 fGt (mF fLen (maC (mV 3) (maN))) (mC (.int 0)))) (sFor (iSeq (m2 fIx (mV 0) (mM0 "list" fPop (mV 3)))) (gNm 5) (sIf (tNotM (mT (m2 fIx (mV 2) (mV 5)))) (sSeq (sAsg (mC (.bl true)) (gSb (mV 2) (mV 5) fSetL)) (sExpr (mM "list" fAppend (mV 3) (maC (mV 5) (maN))))) (sNil))) big) (sFrz 2 (sRet (mV 2)))))))
/-- finishing_order: 0 moves, 1 seen, 2 order, 3 root, 4 path, 5 places, 6 node, 7 target -/
def m_finishing_order : MF := runF 8 (sSeq (sSet 1 (m2 (fMul true) (mLst false (maC (mC (.bl false)) (maN))) (mF fLen (maC (mV 0) (maN))))) (sSeq (sSet 2 (mLst true (maN))) (sSeq (sFor (iRange1 (maC (mF fLen (maC (mV 0) (maN))) (maN))) (gNm 3) (sSeq (sIf (mT (m2 fIx (mV 1) (mV 3))) (sCont) (sNil)) (sSeq (sAsg (mC (.bl true)) (gSb (mV 1) (mV 3) fSetL)) (sSeq (sSet 4 (mLst true (maC (mV 3) (maN)))) (sSeq (sSet 5 (mLst true (maC (mC (.int 0)) (maN)))) (sWhile (mT (m2 fGt (mF fLen (maC (mV 4) (maN))) (mC (.int 0)))) (sSeq (sSet 6 (m2 fIx (mV 4) (m1 fNeg (mC (.int 1))))) (sSeq (sIf (mT (m2 (fEq false) (m2 fIx (mV 5) (m1 fNeg (mC (.int 1)))) (mF fLen (maC (m2 fIx (mV 0) (mV 6)) (maN))))) (sSeq (sExpr (mM "list" fAppend (mV 2) (maC (mM0 "list" fPop (mV 4)) (maN)))) (sSeq (sExpr (mM0 "list" fPop (mV 5))) (sCont))) (sNil)) (sSeq (sSet 7 (m2 fIx (m2 fIx (mV 0) (mV 6)) (m2 fIx (mV 5) (m1 fNeg (mC (.int 1)))))) (sSeq (sAugS (mV 5) (m1 fNeg (mC (.int 1))) fIpAdd (mC (.int 1))) (sIf (tNotM (mT (m2 fIx (mV 1) (mV 7)))) (sSeq (sAsg (mC (.bl true)) (gSb (mV 1) (mV 7) fSetL)) (sSeq (sExpr (mM "list" fAppend (mV 4) (maC (mV 7) (maN)))) (sExpr (mM "list" fAppend (mV 5) (maC (mC (.int 0)) (maN)))))) (sNil)))))) big)))))) (sFrz 2 (sRet (mV 2))))))
/-- components: 0 moves, 1 numbers, 2 back, 3 count, 4 order, 5 root, 6 stack, 7 target -/
def m_components : MF := runF 8 (sSeq (sSet 1 (m2 (fMul true) (mLst false (maC (m1 fNeg (mC (.int 1))) (maN))) (mF fLen (maC (mV 0) (maN))))) (sSeq (sSet 2 (mCall 1 m_reversed_moves (maC (mV 0) (maN)))) (sSeq (sSet 3 (mC (.int 0))) (sSeq (sSet 4 (mCall 1 m_finishing_order (maC (mV 0) (maN)))) (sSeq (sFor (iSeq (mRev false (mV 4))) (gNm 5) (sSeq (sIf (mT (m2 fGe (m2 fIx (mV 1) (mV 5)) (mC (.int 0)))) (sCont) (sNil)) (sSeq (sAsg (mV 3) (gSb (mV 1) (mV 5) fSetL)) (sSeq (sSet 6 (mLst true (maC (mV 5) (maN)))) (sSeq (sWhile (mT (m2 fGt (mF fLen (maC (mV 6) (maN))) (mC (.int 0)))) (sFor (iSeq (m2 fIx (mV 2) (mM0 "list" fPop (mV 6)))) (gNm 7) (sIf (mT (m2 fLt (m2 fIx (mV 1) (mV 7)) (mC (.int 0)))) (sSeq (sAsg (mV 3) (gSb (mV 1) (mV 7) fSetL)) (sExpr (mM "list" fAppend (mV 6) (maC (mV 7) (maN))))) (sNil))) big) (sAug 3 fIpAdd (mC (.int 1)))))))) (sFrz 1 (sRet (mV 1))))))))
/-- has_bad_cycle: 0 priorities, 1 moves, 2 player, 3 level, 4 low, 5 position, 6 k, 7 numbers, 8 target -/
def m_has_bad_cycle : MF := runF 9 (sSeq (sFor (iSeq (mF (fSrtSet false) (maC (mV 0) (maN)))) (gNm 3) (sSeq (sIf (mT (m2 (fEq false) (m2 fMod (mV 3) (mC (.int 2))) (mV 2))) (sCont) (sNil)) (sSeq (sSet 4 (mLst true (maN))) (sSeq (sFor (iRange1 (maC (mF fLen (maC (mV 1) (maN))) (maN))) (gNm 5) (sIf (mT (m2 fLe (m2 fIx (mV 0) (mV 5)) (mV 3))) (sExpr (mM "list" fAppend (mV 4) (maC (mComp false (iSeq (m2 fIx (mV 1) (mV 5))) (gNm 6) (mT (m2 fLe (m2 fIx (mV 0) (mV 6)) (mV 3))) (mV 6) [6]) (maN)))) (sExpr (mM "list" fAppend (mV 4) (maC (mLst false (maN)) (maN)))))) (sSeq (sFrz 4 (sSet 7 (mCall 1 m_components (maC (mV 4) (maN))))) (sFor (iRange1 (maC (mF fLen (maC (mV 4) (maN))) (maN))) (gNm 5) (sIf (mT (m2 (fEq false) (m2 fIx (mV 0) (mV 5)) (mV 3))) (sFor (iSeq (m2 fIx (mV 4) (mV 5))) (gNm 8) (sIf (mT (m2 (fEq false) (m2 fIx (mV 7) (mV 8)) (m2 fIx (mV 7) (mV 5)))) (sRet (mC (.bl true))) (sNil))) (sNil)))))))) (sRet (mC (.bl false))))
/-- choices_win: 0 game, 1 player, 2 choices, 3 position, 4 moves, 5 seen, 6 k -/
def m_choices_win : MF := runF 7 (sSeq (sIf (tOrM (mT (m2 fLt (mV 3) (mC (.int 0)))) (mT (m2 fGe (mV 3) (mF fLen (maC (m1 (fFld tabC "moves") (mV 0)) (maN)))))) (sRaise "InvalidPosition") (sNil)) (sSeq (sSet 4 (mCall 3 m_chosen_moves (maC (mV 0) (maC (mV 1) (maC (mV 2) (maN)))))) (sSeq (sSet 5 (mCall 2 m_reachable (maC (mV 4) (maC (mLst false (maC (mV 3) (maN))) (maN))))) (sSeq (sFor (iRange1 (maC (mF fLen (maC (mV 4) (maN))) (maN))) (gNm 6) (sIf (tNotM (mT (m2 fIx (mV 5) (mV 6)))) (sAsg (mLst false (maN)) (gSb (mV 4) (mV 6) fSetL)) (sIf (mT (m2 (fEq false) (mF fLen (maC (m2 fIx (mV 4) (mV 6)) (maN))) (mC (.int 0)))) (sRet (mC (.bl false))) (sNil)))) (sFrz 4 (sRet (mNot (mCall 3 m_has_bad_cycle (maC (m1 (fFld tabC "priorities") (mV 0)) (maC (mV 4) (maC (mV 1) (maN))))))))))))
/-- law_outcome: 0 _law_game_here, 1 _law_player, 2 _law_choices, 3 _law_position -/
noncomputable def m_law_outcome : MF := runF 4 (sTry (sRet (mCall 4 m_choices_win (maC (mV 0) (maC (mV 1) (maC (mV 2) (maC (mV 3) (maN))))))) (⟨[("InvalidPosition", true)], none, fun v => sRet (mC .non)⟩ :: []))
/-- law_left: 0 _law_owners, 1 _law_moves, 2 _law_player, 3 _law_choices, 4 _law_found, 5 _law_k -/
def m_law_left : MF := runF 6 (sSeq (sSet 4 (mLst true (maN))) (sSeq (sFor (iRange1 (maC (mF fLen (maC (mV 1) (maN))) (maN))) (gNm 5) (sIf (mT (m2 (fEq true) (m2 fIx (mV 0) (mV 5)) (mV 2))) (sExpr (mM "list" fAppend (mV 4) (maC (mF (fList false) (maC (m2 fIx (mV 1) (mV 5)) (maN))) (maN)))) (sIf (mT (m2 fLt (m2 fIx (mV 3) (mV 5)) (mC (.int 0)))) (sExpr (mM "list" fAppend (mV 4) (maC (mLst false (maN)) (maN)))) (sExpr (mM "list" fAppend (mV 4) (maC (mLst false (maC (m2 fIx (mV 3) (mV 5)) (maN))) (maN))))))) (sFrz 4 (sRet (mV 4)))))
/-- law_reached: 0 _law_moves, 1 _law_starts, 2 _law_allowed, 3 _law_seen, 4 _law_queue, 5 _law_start, 6 _law_at, 7 _law_target -/
def m_law_reached : MF := runF 8 (sSeq (sSet 3 (m2 (fMul true) (mLst false (maC (mC (.bl false)) (maN))) (mF fLen (maC (mV 0) (maN))))) (sSeq (sSet 4 (mLst true (maN))) (sSeq (sFor (iSeq (mV 1)) (gNm 5) (sIf (tAndM (mT (m2 fIx (mV 2) (mV 5))) (tNotM (mT (m2 fIx (mV 3) (mV 5))))) (sSeq (sAsg (mC (.bl true)) (gSb (mV 3) (mV 5) fSetL)) (sExpr (mM "list" fAppend (mV 4) (maC (mV 5) (maN))))) (sNil))) (sSeq (sFor (iRange1 (maC (mF fLen (maC (mV 0) (maN))) (maN))) (gNm 6) (sIf (mT (m2 fLt (mV 6) (mF fLen (maC (mV 4) (maN))))) (sFor (iSeq (m2 fIx (mV 0) (m2 fIx (mV 4) (mV 6)))) (gNm 7) (sIf (tAndM (mT (m2 fIx (mV 2) (mV 7))) (tNotM (mT (m2 fIx (mV 3) (mV 7))))) (sSeq (sAsg (mC (.bl true)) (gSb (mV 3) (mV 7) fSetL)) (sExpr (mM "list" fAppend (mV 4) (maC (mV 7) (maN))))) (sNil))) (sNil))) (sFrz 3 (sRet (mV 3)))))))
/-- law_wins: 0 _law_priorities, 1 _law_moves, 2 _law_player, 3 _law_start, 4 _law_count, 5 _law_seen, 6 _law_k, 7 _law_low, 8 _law_j -/
def m_law_wins : MF := runF 9 (sSeq (sSet 4 (mF fLen (maC (mV 1) (maN)))) (sSeq (sSet 5 (mCall 3 m_law_reached (maC (mV 1) (maC (mLst false (maC (mV 3) (maN))) (maC (m2 (fMul false) (mLst false (maC (mC (.bl true)) (maN))) (mV 4)) (maN)))))) (sSeq (sFor (iRange1 (maC (mV 4) (maN))) (gNm 6) (sIf (tAndM (mT (m2 fIx (mV 5) (mV 6))) (mT (m2 (fEq false) (mF fLen (maC (m2 fIx (mV 1) (mV 6)) (maN))) (mC (.int 0))))) (sRet (mC (.bl false))) (sNil))) (sSeq (sFor (iRange1 (maC (mV 4) (maN))) (gNm 6) (sIf (tAndM (mT (m2 fIx (mV 5) (mV 6))) (mT (m2 (fEq true) (m2 fMod (mF fInt (maC (m2 fIx (mV 0) (mV 6)) (maN))) (mC (.int 2))) (mV 2)))) (sSeq (sSet 7 (mComp false (iRange1 (maC (mV 4) (maN))) (gNm 8) (tYesM) (m2 fLe (m2 fIx (mV 0) (mV 8)) (m2 fIx (mV 0) (mV 6))) [8])) (sIf (mT (m2 fIx (mCall 3 m_law_reached (maC (mV 1) (maC (m2 fIx (mV 1) (mV 6)) (maC (mV 7) (maN))))) (mV 6))) (sRet (mC (.bl false))) (sNil))) (sNil))) (sRet (mC (.bl true)))))))
/-- law: 0 _law_script, 1 _law_draws_here, 2 _law_owners, 3 _law_priorities, 4 _law_moves, 5 _law_game_here, 6 _law_player, 7 _law_choices, 8 _law_other, 9 _law_k, 10 _law_choice, 11 _law_position, 12 _law_handed, 13 _law_found, 14 _law_expected -/
noncomputable def m_law : MF := runF 15 (sSeq (sSet 1 (mCall 2 m_law_draws (maC (mV 0) (maC (mC (.int 150)) (maN))))) (sSeq (sAsg (mCall 2 m_law_game (maC (mV 1) (maC (mC (.int 6)) (maN)))) (gTup [gNm 2, gNm 3, gNm 4])) (sSeq (sSet 5 (mMake "Game" true 4 m_Game_init (maC (mF (fList false) (maC (mV 2) (maN))) (maC (mF (fList false) (maC (mV 3) (maN))) (maC (mCall 1 m_law_flat (maC (mV 4) (maN))) (maN)))))) (sSeq (sSet 6 (mCall 2 m_law_take (maC (mV 1) (maC (mC (.int 2)) (maN))))) (sSeq (sSet 7 (mLst true (maN))) (sSeq (sSet 8 (mLst true (maN))) (sSeq (sFor (iRange1 (maC (mF fLen (maC (mV 4) (maN))) (maN))) (gNm 9) (sSeq (sSet 10 (m2 fIx (m2 fIx (mV 4) (mV 9)) (mCall 2 m_law_take (maC (mV 1) (maC (mF fLen (maC (m2 fIx (mV 4) (mV 9)) (maN))) (maN)))))) (sSeq (sIf (mT (m2 (fEq false) (mCall 2 m_law_take (maC (mV 1) (maC (mC (.int 6)) (maN)))) (mC (.int 0)))) (sSet 10 (m1 fNeg (mC (.int 1)))) (sNil)) (sSeq (sExpr (mM "list" fAppend (mV 7) (maC (mV 10) (maN)))) (sSeq (sIf (mT (m2 (fEq true) (m2 fIx (mV 2) (mV 9)) (mV 6))) (sSet 10 (m2 fIx (m2 fIx (mV 4) (mV 9)) (mCall 2 m_law_take (maC (mV 1) (maC (mF fLen (maC (m2 fIx (mV 4) (mV 9)) (maN))) (maN)))))) (sNil)) (sExpr (mM "list" fAppend (mV 8) (maC (mV 10) (maN))))))))) (sSeq (sSet 11 (mCall 2 m_law_take (maC (mV 1) (maC (mF fLen (maC (mV 4) (maN))) (maN))))) (sSeq (sIf (mT (m2 (fEq false) (mCall 2 m_law_take (maC (mV 1) (maC (mC (.int 8)) (maN)))) (mC (.int 0)))) (sRet (m2 (fIsN false) (mCall 4 m_law_outcome (maC (mV 5) (maC (mV 6) (maC (mF (fList false) (maC (mV 7) (maN))) (maC (m2 fIx (mLst false (maC (m1 fNeg (mC (.int 1))) (maC (mF fLen (maC (mV 4) (maN))) (maN)))) (mCall 2 m_law_take (maC (mV 1) (maC (mC (.int 2)) (maN))))) (maN)))))) (mC .non))) (sNil)) (sSeq (sSet 12 (mF (fList false) (maC (mV 7) (maN)))) (sSeq (sSet 13 (mCall 4 m_law_outcome (maC (mV 5) (maC (mV 6) (maC (mV 12) (maC (mV 11) (maN))))))) (sSeq (sIf (tOrM (tNotM (mT (m1 (fIsi "bool") (mV 13)))) (mT (m2 (fEq true) (mV 12) (mV 7)))) (sRet (mC (.bl false))) (sNil)) (sSeq (sFrz 7 (sSet 14 (mCall 4 m_law_wins (maC (mV 3) (maC (mCall 4 m_law_left (maC (mV 2) (maC (mV 4) (maC (mV 6) (maC (mV 7) (maN)))))) (maC (mV 6) (maC (mV 11) (maN)))))))) (sRet (mAnd (m2 (fEq false) (mV 13) (mV 14)) (m2 (fEq false) (mCall 4 m_law_outcome (maC (mV 5) (maC (mV 6) (maC (mF (fList false) (maC (mV 8) (maN))) (maC (mV 11) (maN)))))) (mV 14)))))))))))))))))
/-! ### what the top leaves -/
structure Txt (K : PySem.W.Frag) (mg : Str → Option Value) (Γ : Gm) : Prop where
  b_bool : mg "bool" = none
  b_int : mg "int" = none
  b_isinstance : mg "isinstance" = none
  b_len : mg "len" = none
  b_list : mg "list" = none
  b_range : mg "range" = none
  b_set : mg "set" = none
  b_sorted : mg "sorted" = none
  b_tuple : mg "tuple" = none
  d_reversed_moves : DefOk K mg "reversed_moves" s_reversed_moves ["moves"]
  d_Game_init : MkDef K mg Γ "Game" "Game.__init__" s_Game_init ["self", "owners", "priorities", "moves"]
  d_law_draws : DefOk K mg "_law_draws" s_law_draws ["_law_script", "_law_count"]
  d_law_take : DefOk K mg "_law_take" s_law_take ["_law_draws_here", "_law_limit"]
  d_law_flat : DefOk K mg "_law_flat" s_law_flat ["_law_rows"]
  d_law_ascending : DefOk K mg "_law_ascending" s_law_ascending ["_law_draws_here", "_law_limit", "_law_share"]
  d_law_game : DefOk K mg "_law_game" s_law_game ["_law_draws_here", "_law_most"]
  d_law_left : DefOk K mg "_law_left" s_law_left ["_law_owners", "_law_moves", "_law_player", "_law_choices"]
  d_law_reached : DefOk K mg "_law_reached" s_law_reached ["_law_moves", "_law_starts", "_law_allowed"]
  d_law_wins : DefOk K mg "_law_wins" s_law_wins ["_law_priorities", "_law_moves", "_law_player", "_law_start"]
  d_reachable : DefOk K mg "reachable" s_reachable ["moves", "starts"]
  d_chosen_moves : DefOk K mg "chosen_moves" s_chosen_moves ["game", "player", "choices"]
  d_finishing_order : DefOk K mg "finishing_order" s_finishing_order ["moves"]
  d_components : DefOk K mg "components" s_components ["moves"]
  d_has_bad_cycle : DefOk K mg "has_bad_cycle" s_has_bad_cycle ["priorities", "moves", "player"]
  d_choices_win : DefOk K mg "choices_win" s_choices_win ["game", "player", "choices", "position"]
  d_law_outcome : DefOk K mg "_law_outcome" s_law_outcome ["_law_game_here", "_law_player", "_law_choices", "_law_position"]
  d_law : DefOk K mg "law" s_law ["_law_script"]
  x_InvalidGame : ExcOk Unit K mg Γ "InvalidGame"
  x_InvalidPosition : ExcOk Unit K mg Γ "InvalidPosition"
  e_InvalidPosition_InvalidPosition : PySem.W.exmOne K (.ref (Γ.cls "InvalidPosition")) (.ref (Γ.cls "InvalidPosition")) = some true
  tab : TabOk Γ K tabC
/-! ### derivations -/
section
variable {P : Program} {w : World} {K : PySem.W.Frag} {mg : Str → Option Value} {base : Heap} {Γ : Gm}
theorem ok_law_draws (T : Txt K mg Γ) : DefRun P w K mg base Γ 1 "_law_draws" ["_law_script", "_law_count"] m_law_draws := by
  have sc := sc_law_draws
  exact def_ok T.d_law_draws sc_law_draws (fun f cdv A outer s H E hr => ss_cons (ss_set 2 sc.nd (sb_list true T.b_list (sa_cons (se_v 0) (sa_nil)))) (ss_cons (ss_if (st_cmp (op_eqD hr.units) lift_eq (sb_len T.b_len (sa_cons (se_v 2) (sa_nil))) (se_int)) (ss_one (ss_set 2 sc.nd (se_lst true (sa_cons (se_int) (sa_nil))))) (ss_nil)) (ss_cons (ss_set 3 sc.nd (se_lst true (sa_nil))) (ss_cons (ss_set 4 sc.nd (se_int)) (ss_cons (ss_for (passes_of rfl) rfl (si_range1 T.b_range (sa_cons (se_v 1) (sa_nil))) (sg_name 5 sc.nd) (ss_cons (ss_set 6 sc.nd (se_op op_mod lift_mod (se_v 5) (sb_len T.b_len (sa_cons (se_v 2) (sa_nil))))) (ss_cons (ss_set 7 sc.nd (se_ix ix_seq lift_ix (se_v 2) (se_v 6))) (ss_cons (ss_set 4 sc.nd (se_op op_mod lift_mod (sb_int T.b_int (sa_cons (se_op op_addAll lift_add (se_op op_addAll lift_add (se_op op_addAll lift_add (se_op op_mulAll lift_mul (se_v 4) (se_int)) (se_op op_mulAll lift_mul (se_op op_mod lift_mod (sb_int T.b_int (sa_cons (se_v 7) (sa_nil))) (se_int)) (se_int))) (se_op op_mulAll lift_mul (se_v 5) (se_int))) (se_int)) (sa_nil))) (se_int))) (ss_cons (ss_set 8 sc.nd (se_op op_mod lift_mod (sb_int T.b_int (sa_cons (se_op op_addAll lift_add (se_op op_addAll lift_add (se_op op_mulAll lift_mul (se_v 4) (se_v 4)) (se_op op_mulAll lift_mul (se_int) (se_v 4))) (se_v 5)) (sa_nil))) (se_int))) (ss_one (ss_if (st_cmp op_ge lift_ge (se_v 7) (se_op op_pow lift_pow (se_int) (se_int))) (ss_cons (ss_expr (sm_append (se_v 3) (sa_cons (se_op op_mod lift_mod (sb_int T.b_int (sa_cons (se_v 7) (sa_nil))) (se_int)) (sa_nil)))) (ss_one (ss_asg (se_op op_fdiv lift_div (se_v 7) (se_int)) (sg_sub (se_v 2) (se_v 6) set_list lift_setL)))) (ss_one (ss_expr (sm_append (se_v 3) (sa_cons (se_op op_mod lift_mod (sb_int T.b_int (sa_cons (se_v 8) (sa_nil))) (se_int)) (sa_nil)))))))))))) (ss_cons (ss_expr (sm_reverse (se_v 3))) (ss_one (ss_ret (se_v 3)))))))))
theorem ok_law_take (T : Txt K mg Γ) : DefRun P w K mg base Γ 1 "_law_take" ["_law_draws_here", "_law_limit"] m_law_take := by
  have sc := sc_law_take
  exact def_ok T.d_law_take sc_law_take (fun f cdv A outer s H E hr => ss_cons (ss_if (st_cmp (op_eqD hr.units) lift_eq (sb_len T.b_len (sa_cons (se_v 0) (sa_nil))) (se_int)) (ss_one (ss_ret (se_int))) (ss_nil)) (ss_one (ss_ret (se_op op_mod lift_mod (sb_int T.b_int (sa_cons (sm_pop (se_v 0)) (sa_nil))) (se_v 1)))))
theorem ok_law_ascending (T : Txt K mg Γ) : DefRun P w K mg base Γ 2 "_law_ascending" ["_law_draws_here", "_law_limit", "_law_share"] m_law_ascending := by
  have sc := sc_law_ascending
  have c_law_take := (ok_law_take (P := P) (w := w) (base := base) T).call
  exact def_ok T.d_law_ascending sc_law_ascending (fun f cdv A outer s H E hr => ss_one (ss_ret (se_comp (own := [("_law_k", 3)]) false rfl sc.nd (si_range1 T.b_range (sa_cons (se_v 1) (sa_nil))) (blkOk_by (own := [("_law_k", 3)]) (N := ["_law_draws_here", "_law_limit", "_law_share", "_law_k"]) (sc := defScope s_law_ascending) (by decide +kernel)) (.nm (by decide) fun _ _ _ _ _ => pg_name (i := 3) sc.nd rfl (Or.inl rfl)) (fun _ _ _ _ _ => sts_one (st_cmp op_lt lift_lt (sc_call (c_law_take.mono (by decide)) hr takes0 (sa_cons (se_v 0) (sa_cons (se_int) (sa_nil)))) (se_v 2))) (fun _ _ _ _ _ => se_v 3))))
theorem ok_law_game (T : Txt K mg Γ) : DefRun P w K mg base Γ 3 "_law_game" ["_law_draws_here", "_law_most"] m_law_game := by
  have sc := sc_law_game
  have c_law_ascending := (ok_law_ascending (P := P) (w := w) (base := base) T).call
  have c_law_take := (ok_law_take (P := P) (w := w) (base := base) T).call
  exact def_ok T.d_law_game sc_law_game (fun f cdv A outer s H E hr => ss_cons (ss_set 2 sc.nd (se_op op_addAll lift_add (se_int) (sc_call (c_law_take.mono (by decide)) hr (takes_of rfl rfl rfl rfl) (sa_cons (se_v 0) (sa_cons (se_v 1) (sa_nil)))))) (ss_cons (ss_set 3 sc.nd (se_op op_addAll lift_add (se_int) (sc_call (c_law_take.mono (by decide)) hr (takes_of rfl rfl rfl rfl) (sa_cons (se_v 0) (sa_cons (se_int) (sa_nil)))))) (ss_cons (ss_setLc (own := [("_law_k", 5)]) false 4 rfl sc.nd (sw_true rfl rfl rfl (by decide +kernel)) (si_range1 T.b_range (sa_cons (se_v 2) (sa_nil))) (blkOk_by (own := [("_law_k", 5)]) (N := ["_law_draws_here", "_law_most", "_law_count", "_law_top", "_law_owners", "_law_k", "_law_priorities", "_law_share", "_law_moves", "_law_row"]) (sc := defScope s_law_game) (by decide +kernel)) (.nm (by decide) fun _ _ _ _ _ => pg_name (i := 5) sc.nd rfl (Or.inl rfl)) (fun _ _ _ _ _ => sts_nil) (fun _ _ _ _ _ => sc_call (c_law_take.mono (by decide)) hr takes0 (sa_cons (se_v 0) (sa_cons (se_int) (sa_nil))))) (ss_cons (ss_setLc (own := [("_law_k", 5)]) false 6 rfl sc.nd (sw_true rfl rfl rfl (by decide +kernel)) (si_range1 T.b_range (sa_cons (se_v 2) (sa_nil))) (blkOk_by (own := [("_law_k", 5)]) (N := ["_law_draws_here", "_law_most", "_law_count", "_law_top", "_law_owners", "_law_k", "_law_priorities", "_law_share", "_law_moves", "_law_row"]) (sc := defScope s_law_game) (by decide +kernel)) (.nm (by decide) fun _ _ _ _ _ => pg_name (i := 5) sc.nd rfl (Or.inl rfl)) (fun _ _ _ _ _ => sts_nil) (fun _ _ _ _ _ => sc_call (c_law_take.mono (by decide)) hr takes0 (sa_cons (se_v 0) (sa_cons (se_v 3) (sa_nil))))) (ss_cons (ss_set 7 sc.nd (se_op op_addAll lift_add (se_int) (sc_call (c_law_take.mono (by decide)) hr (takes_of rfl rfl rfl rfl) (sa_cons (se_v 0) (sa_cons (se_int) (sa_nil)))))) (ss_cons (ss_set 8 sc.nd (se_lst true (sa_nil))) (ss_cons (ss_for (passes_of rfl) rfl (si_range1 T.b_range (sa_cons (se_v 2) (sa_nil))) (sg_name 5 sc.nd) (ss_cons (ss_set 9 sc.nd (sc_call (c_law_ascending.mono (by decide)) hr (takes_of rfl rfl rfl rfl) (sa_cons (se_v 0) (sa_cons (se_v 2) (sa_cons (se_v 7) (sa_nil)))))) (ss_cons (ss_if (st_cmp (op_eqD hr.units) lift_eq (sb_len T.b_len (sa_cons (se_v 9) (sa_nil))) (se_int)) (ss_one (ss_set 9 sc.nd (se_lst false (sa_cons (sc_call (c_law_take.mono (by decide)) hr (takes_of rfl rfl rfl rfl) (sa_cons (se_v 0) (sa_cons (se_v 2) (sa_nil)))) (sa_nil))))) (ss_nil)) (ss_one (ss_expr (sm_append (se_v 8) (sa_cons (se_v 9) (sa_nil)))))))) (ss_one (ss_frz 8 (ss_ret (se_tup (sa_cons (se_v 4) (sa_cons (se_v 6) (sa_cons (se_v 8) (sa_nil)))))))))))))))
theorem ok_law_flat (T : Txt K mg Γ) : DefRun P w K mg base Γ 1 "_law_flat" ["_law_rows"] m_law_flat := by
  have sc := sc_law_flat
  exact def_ok T.d_law_flat sc_law_flat (fun f cdv A outer s H E hr => ss_one (ss_ret (se_comp (own := [("_law_row", 1)]) false rfl sc.nd (si_seq (se_v 0)) (blkOk_by (own := [("_law_row", 1)]) (N := ["_law_rows", "_law_row"]) (sc := defScope s_law_flat) (by decide +kernel)) (.nm (by decide) fun _ _ _ _ _ => pg_name (i := 1) sc.nd rfl (Or.inl rfl)) (fun _ _ _ _ _ => sts_nil) (fun _ _ _ _ _ => sb_list false T.b_list (sa_cons (se_v 1) (sa_nil))))))
theorem ok_reversed_moves (T : Txt K mg Γ) : DefRun P w K mg base Γ 1 "reversed_moves" ["moves"] m_reversed_moves := by
  have sc := sc_reversed_moves
  exact def_ok T.d_reversed_moves sc_reversed_moves (fun f cdv A outer s H E hr => ss_cons (ss_setLc (own := [("_", 2)]) true 1 rfl sc.nd (sw_true rfl rfl rfl (by decide +kernel)) (si_seq (se_v 0)) (blkOk_by (own := [("_", 2)]) (N := ["moves", "back", "_", "node", "target"]) (sc := defScope s_reversed_moves) (by decide +kernel)) (.nm (by decide) fun _ _ _ _ _ => pg_name (i := 2) sc.nd rfl (Or.inl rfl)) (fun _ _ _ _ _ => sts_nil) (fun _ _ _ _ _ => se_lst true (sa_nil))) (ss_cons (ss_for (passes_of rfl) rfl (si_range1 T.b_range (sa_cons (sb_len T.b_len (sa_cons (se_v 0) (sa_nil))) (sa_nil))) (sg_name 3 sc.nd) (ss_one (ss_for (passes_of rfl) rfl (si_seq (se_ix ix_seq lift_ix (se_v 0) (se_v 3))) (sg_name 4 sc.nd) (ss_one (ss_expr (sm_append (se_ix ix_seq lift_ix (se_v 1) (se_v 4)) (sa_cons (se_v 3) (sa_nil)))))))) (ss_one (ss_frz 1 (ss_ret (se_v 1))))))
theorem ok_Game_init (T : Txt K mg Γ) : MakeOk P w K mg base Γ 2 "Game" 4 m_Game_init := by
  have sc := sc_Game_init
  have c_reversed_moves := (ok_reversed_moves (P := P) (w := w) (base := base) T).call
  exact mk_ok T.d_Game_init sc_Game_init (fun f cdv A outer s H E hr => ss_cons (ss_set 4 sc.nd (sb_len T.b_len (sa_cons (se_v 3) (sa_nil)))) (ss_cons (ss_set 5 sc.nd (se_and (se_cmp op_ge lift_ge (se_v 4) (se_int)) (se_and (se_cmp (op_eqD hr.units) lift_eq (sb_len T.b_len (sa_cons (se_v 1) (sa_nil))) (se_v 4)) (se_one (se_cmp (op_eqD hr.units) lift_eq (sb_len T.b_len (sa_cons (se_v 2) (sa_nil))) (se_v 4)))))) (ss_cons (ss_for (passes_of rfl) rfl (si_seq (se_v 1)) (sg_name 6 sc.nd) (ss_one (ss_set 5 sc.nd (se_and (se_v 5) (se_one (se_or (se_cmp (op_eqD hr.units) lift_eq (se_v 6) (se_int)) (se_one (se_cmp (op_eqD hr.units) lift_eq (se_v 6) (se_int))))))))) (ss_cons (ss_for (passes_of rfl) rfl (si_seq (se_v 2)) (sg_name 7 sc.nd) (ss_one (ss_set 5 sc.nd (se_and (se_v 5) (se_one (se_cmp op_ge lift_ge (se_v 7) (se_int))))))) (ss_cons (ss_for (passes_of rfl) rfl (si_seq (se_v 3)) (sg_name 8 sc.nd) (ss_cons (ss_set 5 sc.nd (se_and (se_v 5) (se_one (se_cmp op_gt lift_gt (sb_len T.b_len (sa_cons (se_v 8) (sa_nil))) (se_int))))) (ss_cons (ss_set 9 sc.nd (se_un un_neg lift_neg (se_int))) (ss_one (ss_for (passes_of rfl) rfl (si_seq (se_v 8)) (sg_name 10 sc.nd) (ss_cons (ss_set 5 sc.nd (se_and (se_v 5) (se_one (se_chain op_lt lift_lt op_lt lift_lt (se_v 9) (se_v 10) (se_v 4))))) (ss_one (ss_set 9 sc.nd (se_v 10))))))))) (ss_cons (ss_if (st_not (st_val (se_v 5))) (ss_one (ss_raise rfl (takes_of rfl rfl rfl rfl) PySem.F.excBase_ValueError T.x_InvalidGame.q T.x_InvalidGame.g T.x_InvalidGame.k (raises_own T.x_InvalidGame.sb T.x_InvalidGame.ty))) (ss_nil)) (ss_cons (ss_fld T.tab (se_v 0) (sb_tuple T.b_tuple (sa_cons (se_v 1) (sa_nil)))) (ss_cons (ss_fld T.tab (se_v 0) (sb_tuple T.b_tuple (sa_cons (se_v 2) (sa_nil)))) (ss_cons (ss_fld T.tab (se_v 0) (sb_tuple T.b_tuple (sa_cons (se_comp (own := [("targets", 8)]) false rfl sc.nd (si_seq (se_v 3)) (blkOk_by (own := [("targets", 8)]) (N := ["self", "owners", "priorities", "moves", "count", "valid", "owner", "priority", "targets", "last", "target"]) (sc := defScope s_Game_init) (by decide +kernel)) (.nm (by decide) fun _ _ _ _ _ => pg_name (i := 8) sc.nd rfl (Or.inl rfl)) (fun _ _ _ _ _ => sts_nil) (fun _ _ _ _ _ => sb_tuple T.b_tuple (sa_cons (se_v 8) (sa_nil)))) (sa_nil)))) (ss_one (ss_fld T.tab (se_v 0) (sc_call (c_reversed_moves.mono (by decide)) hr (takes_of rfl rfl rfl rfl) (sa_cons (se_fld T.tab (se_v 0)) (sa_nil))))))))))))))
theorem ok_chosen_moves (T : Txt K mg Γ) : DefRun P w K mg base Γ 1 "chosen_moves" ["game", "player", "choices"] m_chosen_moves := by
  have sc := sc_chosen_moves
  exact def_ok T.d_chosen_moves sc_chosen_moves (fun f cdv A outer s H E hr => ss_cons (ss_set 3 sc.nd (se_lst true (sa_nil))) (ss_cons (ss_for (passes_of rfl) rfl (si_range1 T.b_range (sa_cons (sb_len T.b_len (sa_cons (se_fld T.tab (se_v 0)) (sa_nil))) (sa_nil))) (sg_name 4 sc.nd) (ss_one (ss_if (st_cmp (op_neD hr.units) lift_ne (se_ix ix_seq lift_ix (se_fld T.tab (se_v 0)) (se_v 4)) (se_v 1)) (ss_one (ss_expr (sm_append (se_v 3) (sa_cons (sb_list false T.b_list (sa_cons (se_ix ix_seq lift_ix (se_fld T.tab (se_v 0)) (se_v 4)) (sa_nil))) (sa_nil))))) (ss_one (ss_if (st_cmp op_lt lift_lt (se_ix ix_seq lift_ix (se_v 2) (se_v 4)) (se_int)) (ss_one (ss_expr (sm_append (se_v 3) (sa_cons (se_lst false (sa_nil)) (sa_nil))))) (ss_one (ss_expr (sm_append (se_v 3) (sa_cons (se_lst false (sa_cons (se_ix ix_seq lift_ix (se_v 2) (se_v 4)) (sa_nil))) (sa_nil)))))))))) (ss_one (ss_ret (se_v 3)))))
theorem ok_reachable (T : Txt K mg Γ) : DefRun P w K mg base Γ 1 "reachable" ["moves", "starts"] m_reachable := by
  have sc := sc_reachable
  exact def_ok T.d_reachable sc_reachable (fun f cdv A outer s H E hr => ss_cons (ss_set 2 sc.nd (se_op op_mulAll lift_mul (se_lst false (sa_cons (se_bl) (sa_nil))) (sb_len T.b_len (sa_cons (se_v 0) (sa_nil))))) (ss_cons (ss_set 3 sc.nd (se_lst true (sa_nil))) (ss_cons (ss_for (passes_of rfl) rfl (si_seq (se_v 1)) (sg_name 4 sc.nd) (ss_one (ss_if (st_not (st_val (se_ix ix_seq lift_ix (se_v 2) (se_v 4)))) (ss_cons (ss_asg (se_bl) (sg_sub (se_v 2) (se_v 4) set_list lift_setL)) (ss_one (ss_expr (sm_append (se_v 3) (sa_cons (se_v 4) (sa_nil)))))) (ss_nil)))) (ss_cons (ss_while (passes_of rfl) (st_cmp op_gt lift_gt (sb_len T.b_len (sa_cons (se_v 3) (sa_nil))) (se_int)) (ss_one (ss_for (passes_of rfl) rfl (si_seq (se_ix ix_seq lift_ix (se_v 0) (sm_pop (se_v 3)))) (sg_name 5 sc.nd) (ss_one (ss_if (st_not (st_val (se_ix ix_seq lift_ix (se_v 2) (se_v 5)))) (ss_cons (ss_asg (se_bl) (sg_sub (se_v 2) (se_v 5) set_list lift_setL)) (ss_one (ss_expr (sm_append (se_v 3) (sa_cons (se_v 5) (sa_nil)))))) (ss_nil)))))) (ss_one (ss_frz 2 (ss_ret (se_v 2))))))))
theorem ok_finishing_order (T : Txt K mg Γ) : DefRun P w K mg base Γ 1 "finishing_order" ["moves"] m_finishing_order := by
  have sc := sc_finishing_order
  exact def_ok T.d_finishing_order sc_finishing_order (fun f cdv A outer s H E hr => ss_cons (ss_set 1 sc.nd (se_op op_mulAll lift_mul (se_lst false (sa_cons (se_bl) (sa_nil))) (sb_len T.b_len (sa_cons (se_v 0) (sa_nil))))) (ss_cons (ss_set 2 sc.nd (se_lst true (sa_nil))) (ss_cons (ss_for (passes_of rfl) rfl (si_range1 T.b_range (sa_cons (sb_len T.b_len (sa_cons (se_v 0) (sa_nil))) (sa_nil))) (sg_name 3 sc.nd) (ss_cons (ss_if (st_val (se_ix ix_seq lift_ix (se_v 1) (se_v 3))) (ss_one (ss_cont)) (ss_nil)) (ss_cons (ss_asg (se_bl) (sg_sub (se_v 1) (se_v 3) set_list lift_setL)) (ss_cons (ss_set 4 sc.nd (se_lst true (sa_cons (se_v 3) (sa_nil)))) (ss_cons (ss_set 5 sc.nd (se_lst true (sa_cons (se_int) (sa_nil)))) (ss_one (ss_while (passes_of rfl) (st_cmp op_gt lift_gt (sb_len T.b_len (sa_cons (se_v 4) (sa_nil))) (se_int)) (ss_cons (ss_set 6 sc.nd (se_ix ix_seq lift_ix (se_v 4) (se_un un_neg lift_neg (se_int)))) (ss_cons (ss_if (st_cmp (op_eqD hr.units) lift_eq (se_ix ix_seq lift_ix (se_v 5) (se_un un_neg lift_neg (se_int))) (sb_len T.b_len (sa_cons (se_ix ix_seq lift_ix (se_v 0) (se_v 6)) (sa_nil)))) (ss_cons (ss_expr (sm_append (se_v 2) (sa_cons (sm_pop (se_v 4)) (sa_nil)))) (ss_cons (ss_expr (sm_pop (se_v 5))) (ss_one (ss_cont)))) (ss_nil)) (ss_cons (ss_set 7 sc.nd (se_ix ix_seq lift_ix (se_ix ix_seq lift_ix (se_v 0) (se_v 6)) (se_ix ix_seq lift_ix (se_v 5) (se_un un_neg lift_neg (se_int))))) (ss_cons (ss_augS (se_v 5) (se_un un_neg lift_neg (se_int)) (se_int) ip_add lift_ipadd) (ss_one (ss_if (st_not (st_val (se_ix ix_seq lift_ix (se_v 1) (se_v 7)))) (ss_cons (ss_asg (se_bl) (sg_sub (se_v 1) (se_v 7) set_list lift_setL)) (ss_cons (ss_expr (sm_append (se_v 4) (sa_cons (se_v 7) (sa_nil)))) (ss_one (ss_expr (sm_append (se_v 5) (sa_cons (se_int) (sa_nil))))))) (ss_nil)))))))))))))) (ss_one (ss_frz 2 (ss_ret (se_v 2)))))))
theorem ok_components (T : Txt K mg Γ) : DefRun P w K mg base Γ 2 "components" ["moves"] m_components := by
  have sc := sc_components
  have c_finishing_order := (ok_finishing_order (P := P) (w := w) (base := base) T).call
  have c_reversed_moves := (ok_reversed_moves (P := P) (w := w) (base := base) T).call
  exact def_ok T.d_components sc_components (fun f cdv A outer s H E hr => ss_cons (ss_set 1 sc.nd (se_op op_mulAll lift_mul (se_lst false (sa_cons (se_un un_neg lift_neg (se_int)) (sa_nil))) (sb_len T.b_len (sa_cons (se_v 0) (sa_nil))))) (ss_cons (ss_set 2 sc.nd (sc_call (c_reversed_moves.mono (by decide)) hr (takes_of rfl rfl rfl rfl) (sa_cons (se_v 0) (sa_nil)))) (ss_cons (ss_set 3 sc.nd (se_int)) (ss_cons (ss_set 4 sc.nd (sc_call (c_finishing_order.mono (by decide)) hr (takes_of rfl rfl rfl rfl) (sa_cons (se_v 0) (sa_nil)))) (ss_cons (ss_for (passes_of rfl) rfl (si_seq (se_rev (se_v 4))) (sg_name 5 sc.nd) (ss_cons (ss_if (st_cmp op_ge lift_ge (se_ix ix_seq lift_ix (se_v 1) (se_v 5)) (se_int)) (ss_one (ss_cont)) (ss_nil)) (ss_cons (ss_asg (se_v 3) (sg_sub (se_v 1) (se_v 5) set_list lift_setL)) (ss_cons (ss_set 6 sc.nd (se_lst true (sa_cons (se_v 5) (sa_nil)))) (ss_cons (ss_while (passes_of rfl) (st_cmp op_gt lift_gt (sb_len T.b_len (sa_cons (se_v 6) (sa_nil))) (se_int)) (ss_one (ss_for (passes_of rfl) rfl (si_seq (se_ix ix_seq lift_ix (se_v 2) (sm_pop (se_v 6)))) (sg_name 7 sc.nd) (ss_one (ss_if (st_cmp op_lt lift_lt (se_ix ix_seq lift_ix (se_v 1) (se_v 7)) (se_int)) (ss_cons (ss_asg (se_v 3) (sg_sub (se_v 1) (se_v 7) set_list lift_setL)) (ss_one (ss_expr (sm_append (se_v 6) (sa_cons (se_v 7) (sa_nil)))))) (ss_nil)))))) (ss_one (ss_aug 3 sc.nd (se_int) ip_add lift_ipadd))))))) (ss_one (ss_frz 1 (ss_ret (se_v 1)))))))))
theorem ok_has_bad_cycle (T : Txt K mg Γ) : DefRun P w K mg base Γ 3 "has_bad_cycle" ["priorities", "moves", "player"] m_has_bad_cycle := by
  have sc := sc_has_bad_cycle
  have c_components := (ok_components (P := P) (w := w) (base := base) T).call
  exact def_ok T.d_has_bad_cycle sc_has_bad_cycle (fun f cdv A outer s H E hr => ss_cons (ss_for (passes_of rfl) rfl (si_seq (se_srtSet false rfl T.b_sorted T.b_set (sa_cons (se_v 0) (sa_nil)))) (sg_name 3 sc.nd) (ss_cons (ss_if (st_cmp (op_eqD hr.units) lift_eq (se_op op_mod lift_mod (se_v 3) (se_int)) (se_v 2)) (ss_one (ss_cont)) (ss_nil)) (ss_cons (ss_set 4 sc.nd (se_lst true (sa_nil))) (ss_cons (ss_for (passes_of rfl) rfl (si_range1 T.b_range (sa_cons (sb_len T.b_len (sa_cons (se_v 1) (sa_nil))) (sa_nil))) (sg_name 5 sc.nd) (ss_one (ss_if (st_cmp op_le lift_le (se_ix ix_seq lift_ix (se_v 0) (se_v 5)) (se_v 3)) (ss_one (ss_expr (sm_append (se_v 4) (sa_cons (se_comp (own := [("k", 6)]) false rfl sc.nd (si_seq (se_ix ix_seq lift_ix (se_v 1) (se_v 5))) (blkOk_by (own := [("k", 6)]) (N := ["priorities", "moves", "player", "level", "low", "position", "k", "numbers", "target"]) (sc := defScope s_has_bad_cycle) (by decide +kernel)) (.nm (by decide) fun _ _ _ _ _ => pg_name (i := 6) sc.nd rfl (Or.inl rfl)) (fun _ _ _ _ _ => sts_one (st_cmp op_le lift_le (se_ix ix_seq lift_ix (se_v 0) (se_v 6)) (se_v 3))) (fun _ _ _ _ _ => se_v 6)) (sa_nil))))) (ss_one (ss_expr (sm_append (se_v 4) (sa_cons (se_lst false (sa_nil)) (sa_nil)))))))) (ss_cons (ss_frz 4 (ss_set 7 sc.nd (sc_call (c_components.mono (by decide)) hr (takes_of rfl rfl rfl rfl) (sa_cons (se_v 4) (sa_nil))))) (ss_one (ss_for (passes_of rfl) rfl (si_range1 T.b_range (sa_cons (sb_len T.b_len (sa_cons (se_v 4) (sa_nil))) (sa_nil))) (sg_name 5 sc.nd) (ss_one (ss_if (st_cmp (op_eqD hr.units) lift_eq (se_ix ix_seq lift_ix (se_v 0) (se_v 5)) (se_v 3)) (ss_one (ss_for (passes_of rfl) rfl (si_seq (se_ix ix_seq lift_ix (se_v 4) (se_v 5))) (sg_name 8 sc.nd) (ss_one (ss_if (st_cmp (op_eqD hr.units) lift_eq (se_ix ix_seq lift_ix (se_v 7) (se_v 8)) (se_ix ix_seq lift_ix (se_v 7) (se_v 5))) (ss_one (ss_ret (se_bl))) (ss_nil))))) (ss_nil)))))))))) (ss_one (ss_ret (se_bl))))
theorem ok_choices_win (T : Txt K mg Γ) : DefRun P w K mg base Γ 4 "choices_win" ["game", "player", "choices", "position"] m_choices_win := by
  have sc := sc_choices_win
  have c_chosen_moves := (ok_chosen_moves (P := P) (w := w) (base := base) T).call
  have c_has_bad_cycle := (ok_has_bad_cycle (P := P) (w := w) (base := base) T).call
  have c_reachable := (ok_reachable (P := P) (w := w) (base := base) T).call
  exact def_ok T.d_choices_win sc_choices_win (fun f cdv A outer s H E hr => ss_cons (ss_if ((sw_or (st_cmp op_lt lift_lt (se_v 3) (se_int)) (sw_or1 (st_cmp op_ge lift_ge (se_v 3) (sb_len T.b_len (sa_cons (se_fld T.tab (se_v 0)) (sa_nil)))))).st) (ss_one (ss_raise rfl (takes_of rfl rfl rfl rfl) PySem.F.excBase_ValueError T.x_InvalidPosition.q T.x_InvalidPosition.g T.x_InvalidPosition.k (raises_own T.x_InvalidPosition.sb T.x_InvalidPosition.ty))) (ss_nil)) (ss_cons (ss_set 4 sc.nd (sc_call (c_chosen_moves.mono (by decide)) hr (takes_of rfl rfl rfl rfl) (sa_cons (se_v 0) (sa_cons (se_v 1) (sa_cons (se_v 2) (sa_nil)))))) (ss_cons (ss_set 5 sc.nd (sc_call (c_reachable.mono (by decide)) hr (takes_of rfl rfl rfl rfl) (sa_cons (se_v 4) (sa_cons (se_lst false (sa_cons (se_v 3) (sa_nil))) (sa_nil))))) (ss_cons (ss_for (passes_of rfl) rfl (si_range1 T.b_range (sa_cons (sb_len T.b_len (sa_cons (se_v 4) (sa_nil))) (sa_nil))) (sg_name 6 sc.nd) (ss_one (ss_if (st_not (st_val (se_ix ix_seq lift_ix (se_v 5) (se_v 6)))) (ss_one (ss_asg (se_lst false (sa_nil)) (sg_sub (se_v 4) (se_v 6) set_list lift_setL))) (ss_one (ss_if (st_cmp (op_eqD hr.units) lift_eq (sb_len T.b_len (sa_cons (se_ix ix_seq lift_ix (se_v 4) (se_v 6)) (sa_nil))) (se_int)) (ss_one (ss_ret (se_bl))) (ss_nil)))))) (ss_one (ss_frz 4 (ss_ret (se_not (sc_call (c_has_bad_cycle.mono (by decide)) hr (takes_of rfl rfl rfl rfl) (sa_cons (se_fld T.tab (se_v 0)) (sa_cons (se_v 4) (sa_cons (se_v 1) (sa_nil)))))))))))))
theorem ok_law_outcome (T : Txt K mg Γ) : DefRun P w K mg base Γ 5 "_law_outcome" ["_law_game_here", "_law_player", "_law_choices", "_law_position"] m_law_outcome := by
  have sc := sc_law_outcome
  have c_choices_win := (ok_choices_win (P := P) (w := w) (base := base) T).call
  exact def_ok T.d_law_outcome sc_law_outcome (fun f cdv A outer s H E hr => ss_one (ss_try rfl rfl (takes_of rfl rfl rfl rfl) (fun W' pn xe t1 t2 => ss_one (ss_ret (sc_call (c_choices_win.mono (by decide)) hr t1 (sa_cons (se_v 0) (sa_cons (se_v 1) (sa_cons (se_v 2) (sa_cons (se_v 3) (sa_nil)))))))) (.cons ⟨rfl, by decide, .inl T.x_InvalidPosition.g⟩ (fun p hp => by simp only [List.mem_cons, List.not_mem_nil, or_false] at hp; subst hp; exact T.e_InvalidPosition_InvalidPosition) (fun a oe C d pn hz hf => ss_one (ss_ret (se_non))) (.nil))))
theorem ok_law_left (T : Txt K mg Γ) : DefRun P w K mg base Γ 1 "_law_left" ["_law_owners", "_law_moves", "_law_player", "_law_choices"] m_law_left := by
  have sc := sc_law_left
  exact def_ok T.d_law_left sc_law_left (fun f cdv A outer s H E hr => ss_cons (ss_set 4 sc.nd (se_lst true (sa_nil))) (ss_cons (ss_for (passes_of rfl) rfl (si_range1 T.b_range (sa_cons (sb_len T.b_len (sa_cons (se_v 1) (sa_nil))) (sa_nil))) (sg_name 5 sc.nd) (ss_one (ss_if (st_cmp (op_neD hr.units) lift_ne (se_ix ix_seq lift_ix (se_v 0) (se_v 5)) (se_v 2)) (ss_one (ss_expr (sm_append (se_v 4) (sa_cons (sb_list false T.b_list (sa_cons (se_ix ix_seq lift_ix (se_v 1) (se_v 5)) (sa_nil))) (sa_nil))))) (ss_one (ss_if (st_cmp op_lt lift_lt (se_ix ix_seq lift_ix (se_v 3) (se_v 5)) (se_int)) (ss_one (ss_expr (sm_append (se_v 4) (sa_cons (se_lst false (sa_nil)) (sa_nil))))) (ss_one (ss_expr (sm_append (se_v 4) (sa_cons (se_lst false (sa_cons (se_ix ix_seq lift_ix (se_v 3) (se_v 5)) (sa_nil))) (sa_nil)))))))))) (ss_one (ss_frz 4 (ss_ret (se_v 4))))))
theorem ok_law_reached (T : Txt K mg Γ) : DefRun P w K mg base Γ 1 "_law_reached" ["_law_moves", "_law_starts", "_law_allowed"] m_law_reached := by
  have sc := sc_law_reached
  exact def_ok T.d_law_reached sc_law_reached (fun f cdv A outer s H E hr => ss_cons (ss_set 3 sc.nd (se_op op_mulAll lift_mul (se_lst false (sa_cons (se_bl) (sa_nil))) (sb_len T.b_len (sa_cons (se_v 0) (sa_nil))))) (ss_cons (ss_set 4 sc.nd (se_lst true (sa_nil))) (ss_cons (ss_for (passes_of rfl) rfl (si_seq (se_v 1)) (sg_name 5 sc.nd) (ss_one (ss_if ((sw_and (st_val (se_ix ix_seq lift_ix (se_v 2) (se_v 5))) (sw_and1 (st_not (st_val (se_ix ix_seq lift_ix (se_v 3) (se_v 5)))))).st) (ss_cons (ss_asg (se_bl) (sg_sub (se_v 3) (se_v 5) set_list lift_setL)) (ss_one (ss_expr (sm_append (se_v 4) (sa_cons (se_v 5) (sa_nil)))))) (ss_nil)))) (ss_cons (ss_for (passes_of rfl) rfl (si_range1 T.b_range (sa_cons (sb_len T.b_len (sa_cons (se_v 0) (sa_nil))) (sa_nil))) (sg_name 6 sc.nd) (ss_one (ss_if (st_cmp op_lt lift_lt (se_v 6) (sb_len T.b_len (sa_cons (se_v 4) (sa_nil)))) (ss_one (ss_for (passes_of rfl) rfl (si_seq (se_ix ix_seq lift_ix (se_v 0) (se_ix ix_seq lift_ix (se_v 4) (se_v 6)))) (sg_name 7 sc.nd) (ss_one (ss_if ((sw_and (st_val (se_ix ix_seq lift_ix (se_v 2) (se_v 7))) (sw_and1 (st_not (st_val (se_ix ix_seq lift_ix (se_v 3) (se_v 7)))))).st) (ss_cons (ss_asg (se_bl) (sg_sub (se_v 3) (se_v 7) set_list lift_setL)) (ss_one (ss_expr (sm_append (se_v 4) (sa_cons (se_v 7) (sa_nil)))))) (ss_nil))))) (ss_nil)))) (ss_one (ss_frz 3 (ss_ret (se_v 3))))))))
theorem ok_law_wins (T : Txt K mg Γ) : DefRun P w K mg base Γ 2 "_law_wins" ["_law_priorities", "_law_moves", "_law_player", "_law_start"] m_law_wins := by
  have sc := sc_law_wins
  have c_law_reached := (ok_law_reached (P := P) (w := w) (base := base) T).call
  exact def_ok T.d_law_wins sc_law_wins (fun f cdv A outer s H E hr => ss_cons (ss_set 4 sc.nd (sb_len T.b_len (sa_cons (se_v 1) (sa_nil)))) (ss_cons (ss_set 5 sc.nd (sc_call (c_law_reached.mono (by decide)) hr (takes_of rfl rfl rfl rfl) (sa_cons (se_v 1) (sa_cons (se_lst false (sa_cons (se_v 3) (sa_nil))) (sa_cons (se_op op_mulAll lift_mul (se_lst false (sa_cons (se_bl) (sa_nil))) (se_v 4)) (sa_nil)))))) (ss_cons (ss_for (passes_of rfl) rfl (si_range1 T.b_range (sa_cons (se_v 4) (sa_nil))) (sg_name 6 sc.nd) (ss_one (ss_if ((sw_and (st_val (se_ix ix_seq lift_ix (se_v 5) (se_v 6))) (sw_and1 (st_cmp (op_eqD hr.units) lift_eq (sb_len T.b_len (sa_cons (se_ix ix_seq lift_ix (se_v 1) (se_v 6)) (sa_nil))) (se_int)))).st) (ss_one (ss_ret (se_bl))) (ss_nil)))) (ss_cons (ss_for (passes_of rfl) rfl (si_range1 T.b_range (sa_cons (se_v 4) (sa_nil))) (sg_name 6 sc.nd) (ss_one (ss_if ((sw_and (st_val (se_ix ix_seq lift_ix (se_v 5) (se_v 6))) (sw_and1 (st_cmp (op_neD hr.units) lift_ne (se_op op_mod lift_mod (sb_int T.b_int (sa_cons (se_ix ix_seq lift_ix (se_v 0) (se_v 6)) (sa_nil))) (se_int)) (se_v 2)))).st) (ss_cons (ss_setLc (own := [("_law_j", 8)]) false 7 rfl sc.nd (sw_true rfl rfl rfl (by decide +kernel)) (si_range1 T.b_range (sa_cons (se_v 4) (sa_nil))) (blkOk_by (own := [("_law_j", 8)]) (N := ["_law_priorities", "_law_moves", "_law_player", "_law_start", "_law_count", "_law_seen", "_law_k", "_law_low", "_law_j"]) (sc := defScope s_law_wins) (by decide +kernel)) (.nm (by decide) fun _ _ _ _ _ => pg_name (i := 8) sc.nd rfl (Or.inl rfl)) (fun _ _ _ _ _ => sts_nil) (fun _ _ _ _ _ => se_cmp op_le lift_le (se_ix ix_seq lift_ix (se_v 0) (se_v 8)) (se_ix ix_seq lift_ix (se_v 0) (se_v 6)))) (ss_one (ss_if (st_val (se_ix ix_seq lift_ix (sc_call (c_law_reached.mono (by decide)) hr (takes_of rfl rfl rfl rfl) (sa_cons (se_v 1) (sa_cons (se_ix ix_seq lift_ix (se_v 1) (se_v 6)) (sa_cons (se_v 7) (sa_nil))))) (se_v 6))) (ss_one (ss_ret (se_bl))) (ss_nil)))) (ss_nil)))) (ss_one (ss_ret (se_bl)))))))
theorem ok_law (T : Txt K mg Γ) : DefRun P w K mg base Γ 6 "law" ["_law_script"] m_law := by
  have sc := sc_law
  have c_Game_init := ok_Game_init (P := P) (w := w) (base := base) T
  have c_law_draws := (ok_law_draws (P := P) (w := w) (base := base) T).call
  have c_law_flat := (ok_law_flat (P := P) (w := w) (base := base) T).call
  have c_law_game := (ok_law_game (P := P) (w := w) (base := base) T).call
  have c_law_left := (ok_law_left (P := P) (w := w) (base := base) T).call
  have c_law_outcome := (ok_law_outcome (P := P) (w := w) (base := base) T).call
  have c_law_take := (ok_law_take (P := P) (w := w) (base := base) T).call
  have c_law_wins := (ok_law_wins (P := P) (w := w) (base := base) T).call
  exact def_ok T.d_law sc_law (fun f cdv A outer s H E hr => ss_cons (ss_set 1 sc.nd (sc_call (c_law_draws.mono (by decide)) hr (takes_of rfl rfl rfl rfl) (sa_cons (se_v 0) (sa_cons (se_int) (sa_nil))))) (ss_cons (ss_asg (sc_call (c_law_game.mono (by decide)) hr (takes_of rfl rfl rfl rfl) (sa_cons (se_v 1) (sa_cons (se_int) (sa_nil)))) (sg_tup rfl (sgs_cons (sg_name 2 sc.nd) (sgs_cons (sg_name 3 sc.nd) (sgs_cons (sg_name 4 sc.nd) (sgs_nil)))))) (ss_cons (ss_set 5 sc.nd (sc_make true (c_Game_init.mono (by decide)) hr (takes_of rfl rfl rfl rfl) (sa_cons (sb_list false T.b_list (sa_cons (se_v 2) (sa_nil))) (sa_cons (sb_list false T.b_list (sa_cons (se_v 3) (sa_nil))) (sa_cons (sc_call (c_law_flat.mono (by decide)) hr (takes_of rfl rfl rfl rfl) (sa_cons (se_v 4) (sa_nil))) (sa_nil)))))) (ss_cons (ss_set 6 sc.nd (sc_call (c_law_take.mono (by decide)) hr (takes_of rfl rfl rfl rfl) (sa_cons (se_v 1) (sa_cons (se_int) (sa_nil))))) (ss_cons (ss_set 7 sc.nd (se_lst true (sa_nil))) (ss_cons (ss_set 8 sc.nd (se_lst true (sa_nil))) (ss_cons (ss_for (passes_of rfl) rfl (si_range1 T.b_range (sa_cons (sb_len T.b_len (sa_cons (se_v 4) (sa_nil))) (sa_nil))) (sg_name 9 sc.nd) (ss_cons (ss_set 10 sc.nd (se_ix ix_seq lift_ix (se_ix ix_seq lift_ix (se_v 4) (se_v 9)) (sc_call (c_law_take.mono (by decide)) hr (takes_of rfl rfl rfl rfl) (sa_cons (se_v 1) (sa_cons (sb_len T.b_len (sa_cons (se_ix ix_seq lift_ix (se_v 4) (se_v 9)) (sa_nil))) (sa_nil)))))) (ss_cons (ss_if (st_cmp (op_eqD hr.units) lift_eq (sc_call (c_law_take.mono (by decide)) hr (takes_of rfl rfl rfl rfl) (sa_cons (se_v 1) (sa_cons (se_int) (sa_nil)))) (se_int)) (ss_one (ss_set 10 sc.nd (se_un un_neg lift_neg (se_int)))) (ss_nil)) (ss_cons (ss_expr (sm_append (se_v 7) (sa_cons (se_v 10) (sa_nil)))) (ss_cons (ss_if (st_cmp (op_neD hr.units) lift_ne (se_ix ix_seq lift_ix (se_v 2) (se_v 9)) (se_v 6)) (ss_one (ss_set 10 sc.nd (se_ix ix_seq lift_ix (se_ix ix_seq lift_ix (se_v 4) (se_v 9)) (sc_call (c_law_take.mono (by decide)) hr (takes_of rfl rfl rfl rfl) (sa_cons (se_v 1) (sa_cons (sb_len T.b_len (sa_cons (se_ix ix_seq lift_ix (se_v 4) (se_v 9)) (sa_nil))) (sa_nil))))))) (ss_nil)) (ss_one (ss_expr (sm_append (se_v 8) (sa_cons (se_v 10) (sa_nil)))))))))) (ss_cons (ss_set 11 sc.nd (sc_call (c_law_take.mono (by decide)) hr (takes_of rfl rfl rfl rfl) (sa_cons (se_v 1) (sa_cons (sb_len T.b_len (sa_cons (se_v 4) (sa_nil))) (sa_nil))))) (ss_cons (ss_if (st_cmp (op_eqD hr.units) lift_eq (sc_call (c_law_take.mono (by decide)) hr (takes_of rfl rfl rfl rfl) (sa_cons (se_v 1) (sa_cons (se_int) (sa_nil)))) (se_int)) (ss_one (ss_ret (se_cmp op_isN lift_isN (sc_call (c_law_outcome.mono (by decide)) hr (takes_of rfl rfl rfl rfl) (sa_cons (se_v 5) (sa_cons (se_v 6) (sa_cons (sb_list false T.b_list (sa_cons (se_v 7) (sa_nil))) (sa_cons (se_ix ix_seq lift_ix (se_lst false (sa_cons (se_un un_neg lift_neg (se_int)) (sa_cons (sb_len T.b_len (sa_cons (se_v 4) (sa_nil))) (sa_nil)))) (sc_call (c_law_take.mono (by decide)) hr (takes_of rfl rfl rfl rfl) (sa_cons (se_v 1) (sa_cons (se_int) (sa_nil))))) (sa_nil)))))) (se_non)))) (ss_nil)) (ss_cons (ss_set 12 sc.nd (sb_list false T.b_list (sa_cons (se_v 7) (sa_nil)))) (ss_cons (ss_set 13 sc.nd (sc_call (c_law_outcome.mono (by decide)) hr (takes_of rfl rfl rfl rfl) (sa_cons (se_v 5) (sa_cons (se_v 6) (sa_cons (se_v 12) (sa_cons (se_v 11) (sa_nil))))))) (ss_cons (ss_if ((sw_or (st_not (st_val (se_isi (T := "bool") (se_v 13) T.b_isinstance T.b_bool))) (sw_or1 (st_cmp (op_neD hr.units) lift_ne (se_v 12) (se_v 7)))).st) (ss_one (ss_ret (se_bl))) (ss_nil)) (ss_cons (ss_frz 7 (ss_set 14 sc.nd (sc_call (c_law_wins.mono (by decide)) hr (takes_of rfl rfl rfl rfl) (sa_cons (se_v 3) (sa_cons (sc_call (c_law_left.mono (by decide)) hr (takes_of rfl rfl rfl rfl) (sa_cons (se_v 2) (sa_cons (se_v 4) (sa_cons (se_v 6) (sa_cons (se_v 7) (sa_nil)))))) (sa_cons (se_v 6) (sa_cons (se_v 11) (sa_nil)))))))) (ss_one (ss_ret (se_and (se_cmp (op_eqD hr.units) lift_eq (se_v 13) (se_v 14)) (se_one (se_cmp (op_eqD hr.units) lift_eq (sc_call (c_law_outcome.mono (by decide)) hr (takes_of rfl rfl rfl rfl) (sa_cons (se_v 5) (sa_cons (se_v 6) (sa_cons (sb_list false T.b_list (sa_cons (se_v 8) (sa_nil))) (sa_cons (se_v 11) (sa_nil)))))) (se_v 14)))))))))))))))))))
end
/-! ### the end -/
def gm (l : List (Str × Addr)) : Gm := ⟨fun s => (l.lookup s).getD 0, fun _ => ""⟩
theorem txt_mk {K : PySem.W.Frag} {h : Heap} {mg : Str → Option Value} (X : K.In h) (G : h.Ns mainGlobals mg)
    {C_Game : Addr}
    {f_reversed_moves : Addr} {od_reversed_moves an_reversed_moves : Option Addr} {sl_reversed_moves : Array (Option Value)} {oc_reversed_moves kV_reversed_moves dc_reversed_moves pm_reversed_moves cd_reversed_moves ct_reversed_moves : Value}
    {f_Game_init : Addr} {od_Game_init an_Game_init : Option Addr} {sl_Game_init : Array (Option Value)} {oc_Game_init kV_Game_init dc_Game_init pm_Game_init cd_Game_init ct_Game_init : Value}
    {f_law_draws : Addr} {od_law_draws an_law_draws : Option Addr} {sl_law_draws : Array (Option Value)} {oc_law_draws kV_law_draws dc_law_draws pm_law_draws cd_law_draws ct_law_draws : Value}
    {f_law_take : Addr} {od_law_take an_law_take : Option Addr} {sl_law_take : Array (Option Value)} {oc_law_take kV_law_take dc_law_take pm_law_take cd_law_take ct_law_take : Value}
    {f_law_flat : Addr} {od_law_flat an_law_flat : Option Addr} {sl_law_flat : Array (Option Value)} {oc_law_flat kV_law_flat dc_law_flat pm_law_flat cd_law_flat ct_law_flat : Value}
    {f_law_ascending : Addr} {od_law_ascending an_law_ascending : Option Addr} {sl_law_ascending : Array (Option Value)} {oc_law_ascending kV_law_ascending dc_law_ascending pm_law_ascending cd_law_ascending ct_law_ascending : Value}
    {f_law_game : Addr} {od_law_game an_law_game : Option Addr} {sl_law_game : Array (Option Value)} {oc_law_game kV_law_game dc_law_game pm_law_game cd_law_game ct_law_game : Value}
    {f_law_left : Addr} {od_law_left an_law_left : Option Addr} {sl_law_left : Array (Option Value)} {oc_law_left kV_law_left dc_law_left pm_law_left cd_law_left ct_law_left : Value}
    {f_law_reached : Addr} {od_law_reached an_law_reached : Option Addr} {sl_law_reached : Array (Option Value)} {oc_law_reached kV_law_reached dc_law_reached pm_law_reached cd_law_reached ct_law_reached : Value}
    {f_law_wins : Addr} {od_law_wins an_law_wins : Option Addr} {sl_law_wins : Array (Option Value)} {oc_law_wins kV_law_wins dc_law_wins pm_law_wins cd_law_wins ct_law_wins : Value}
    {f_reachable : Addr} {od_reachable an_reachable : Option Addr} {sl_reachable : Array (Option Value)} {oc_reachable kV_reachable dc_reachable pm_reachable cd_reachable ct_reachable : Value}
    {f_chosen_moves : Addr} {od_chosen_moves an_chosen_moves : Option Addr} {sl_chosen_moves : Array (Option Value)} {oc_chosen_moves kV_chosen_moves dc_chosen_moves pm_chosen_moves cd_chosen_moves ct_chosen_moves : Value}
    {f_finishing_order : Addr} {od_finishing_order an_finishing_order : Option Addr} {sl_finishing_order : Array (Option Value)} {oc_finishing_order kV_finishing_order dc_finishing_order pm_finishing_order cd_finishing_order ct_finishing_order : Value}
    {f_components : Addr} {od_components an_components : Option Addr} {sl_components : Array (Option Value)} {oc_components kV_components dc_components pm_components cd_components ct_components : Value}
    {f_has_bad_cycle : Addr} {od_has_bad_cycle an_has_bad_cycle : Option Addr} {sl_has_bad_cycle : Array (Option Value)} {oc_has_bad_cycle kV_has_bad_cycle dc_has_bad_cycle pm_has_bad_cycle cd_has_bad_cycle ct_has_bad_cycle : Value}
    {f_choices_win : Addr} {od_choices_win an_choices_win : Option Addr} {sl_choices_win : Array (Option Value)} {oc_choices_win kV_choices_win dc_choices_win pm_choices_win cd_choices_win ct_choices_win : Value}
    {f_law_outcome : Addr} {od_law_outcome an_law_outcome : Option Addr} {sl_law_outcome : Array (Option Value)} {oc_law_outcome kV_law_outcome dc_law_outcome pm_law_outcome cd_law_outcome ct_law_outcome : Value}
    {f_law : Addr} {od_law an_law : Option Addr} {sl_law : Array (Option Value)} {oc_law kV_law dc_law pm_law cd_law ct_law : Value}
    {C_InvalidGame : Addr}
    {C_InvalidPosition : Addr}
    (oa_Game : PySem.W.nsIn K mainGlobals "Game" = some (some (.ref C_Game)))
    (og_Game : PySem.W.plainGet K C_Game Str.empty = true)
    (oh_Game : PySem.W.hasDictIn K C_Game = true)
    (oo_Game : PySem.W.plainOver K C_Game = true)
    (os_Game : PySem.W.findIn K (.ref C_Game) "__setattr__" = some (some (.builtin "object.__setattr__")))
    (om_Game : PySem.W.makesIn K C_Game = true)
    (ok_Game : PySem.W.keepIn K (.ref C_Game) = true)
    (on_Game_owners : PySem.W.findIn K (.ref C_Game) "owners" = some none)
    (on_Game_priorities : PySem.W.findIn K (.ref C_Game) "priorities" = some none)
    (on_Game_moves : PySem.W.findIn K (.ref C_Game) "moves" = some none)
    (on_Game_sources : PySem.W.findIn K (.ref C_Game) "sources" = some none)
    (a_reversed_moves : PySem.W.nsIn K mainGlobals "reversed_moves" = some (some (.ref f_reversed_moves)))
    (l_reversed_moves : K.lookup f_reversed_moves = some ⟨oc_reversed_moves, od_reversed_moves, .func (PySem.W.fnOf "reversed_moves" "reversed_moves" (defArgs s_reversed_moves) (defBody s_reversed_moves) (defScope s_reversed_moves) .none kV_reversed_moves dc_reversed_moves pm_reversed_moves an_reversed_moves cd_reversed_moves ct_reversed_moves), sl_reversed_moves⟩)
    (c_reversed_moves : PySem.W.codeIn K cd_reversed_moves "reversed_moves" = true)
    (k_reversed_moves : PySem.W.keepIn K (.ref f_reversed_moves) = true)
    (a_Game_init : PySem.W.findIn K (.ref C_Game) "__init__" = some (some (.ref f_Game_init)))
    (l_Game_init : K.lookup f_Game_init = some ⟨oc_Game_init, od_Game_init, .func (PySem.W.fnOf "__init__" "Game.__init__" (defArgs s_Game_init) (defBody s_Game_init) (defScope s_Game_init) .none kV_Game_init dc_Game_init pm_Game_init an_Game_init cd_Game_init ct_Game_init), sl_Game_init⟩)
    (c_Game_init : PySem.W.codeIn K cd_Game_init "Game.__init__" = true)
    (k_Game_init : PySem.W.keepIn K (.ref f_Game_init) = true)
    (i_Game_init : PySem.W.isFn K (.ref f_Game_init) = true)
    (a_law_draws : PySem.W.nsIn K mainGlobals "_law_draws" = some (some (.ref f_law_draws)))
    (l_law_draws : K.lookup f_law_draws = some ⟨oc_law_draws, od_law_draws, .func (PySem.W.fnOf "_law_draws" "_law_draws" (defArgs s_law_draws) (defBody s_law_draws) (defScope s_law_draws) .none kV_law_draws dc_law_draws pm_law_draws an_law_draws cd_law_draws ct_law_draws), sl_law_draws⟩)
    (c_law_draws : PySem.W.codeIn K cd_law_draws "_law_draws" = true)
    (k_law_draws : PySem.W.keepIn K (.ref f_law_draws) = true)
    (a_law_take : PySem.W.nsIn K mainGlobals "_law_take" = some (some (.ref f_law_take)))
    (l_law_take : K.lookup f_law_take = some ⟨oc_law_take, od_law_take, .func (PySem.W.fnOf "_law_take" "_law_take" (defArgs s_law_take) (defBody s_law_take) (defScope s_law_take) .none kV_law_take dc_law_take pm_law_take an_law_take cd_law_take ct_law_take), sl_law_take⟩)
    (c_law_take : PySem.W.codeIn K cd_law_take "_law_take" = true)
    (k_law_take : PySem.W.keepIn K (.ref f_law_take) = true)
    (a_law_flat : PySem.W.nsIn K mainGlobals "_law_flat" = some (some (.ref f_law_flat)))
    (l_law_flat : K.lookup f_law_flat = some ⟨oc_law_flat, od_law_flat, .func (PySem.W.fnOf "_law_flat" "_law_flat" (defArgs s_law_flat) (defBody s_law_flat) (defScope s_law_flat) .none kV_law_flat dc_law_flat pm_law_flat an_law_flat cd_law_flat ct_law_flat), sl_law_flat⟩)
    (c_law_flat : PySem.W.codeIn K cd_law_flat "_law_flat" = true)
    (k_law_flat : PySem.W.keepIn K (.ref f_law_flat) = true)
    (a_law_ascending : PySem.W.nsIn K mainGlobals "_law_ascending" = some (some (.ref f_law_ascending)))
    (l_law_ascending : K.lookup f_law_ascending = some ⟨oc_law_ascending, od_law_ascending, .func (PySem.W.fnOf "_law_ascending" "_law_ascending" (defArgs s_law_ascending) (defBody s_law_ascending) (defScope s_law_ascending) .none kV_law_ascending dc_law_ascending pm_law_ascending an_law_ascending cd_law_ascending ct_law_ascending), sl_law_ascending⟩)
    (c_law_ascending : PySem.W.codeIn K cd_law_ascending "_law_ascending" = true)
    (k_law_ascending : PySem.W.keepIn K (.ref f_law_ascending) = true)
    (a_law_game : PySem.W.nsIn K mainGlobals "_law_game" = some (some (.ref f_law_game)))
    (l_law_game : K.lookup f_law_game = some ⟨oc_law_game, od_law_game, .func (PySem.W.fnOf "_law_game" "_law_game" (defArgs s_law_game) (defBody s_law_game) (defScope s_law_game) .none kV_law_game dc_law_game pm_law_game an_law_game cd_law_game ct_law_game), sl_law_game⟩)
    (c_law_game : PySem.W.codeIn K cd_law_game "_law_game" = true)
    (k_law_game : PySem.W.keepIn K (.ref f_law_game) = true)
    (a_law_left : PySem.W.nsIn K mainGlobals "_law_left" = some (some (.ref f_law_left)))
    (l_law_left : K.lookup f_law_left = some ⟨oc_law_left, od_law_left, .func (PySem.W.fnOf "_law_left" "_law_left" (defArgs s_law_left) (defBody s_law_left) (defScope s_law_left) .none kV_law_left dc_law_left pm_law_left an_law_left cd_law_left ct_law_left), sl_law_left⟩)
    (c_law_left : PySem.W.codeIn K cd_law_left "_law_left" = true)
    (k_law_left : PySem.W.keepIn K (.ref f_law_left) = true)
    (a_law_reached : PySem.W.nsIn K mainGlobals "_law_reached" = some (some (.ref f_law_reached)))
    (l_law_reached : K.lookup f_law_reached = some ⟨oc_law_reached, od_law_reached, .func (PySem.W.fnOf "_law_reached" "_law_reached" (defArgs s_law_reached) (defBody s_law_reached) (defScope s_law_reached) .none kV_law_reached dc_law_reached pm_law_reached an_law_reached cd_law_reached ct_law_reached), sl_law_reached⟩)
    (c_law_reached : PySem.W.codeIn K cd_law_reached "_law_reached" = true)
    (k_law_reached : PySem.W.keepIn K (.ref f_law_reached) = true)
    (a_law_wins : PySem.W.nsIn K mainGlobals "_law_wins" = some (some (.ref f_law_wins)))
    (l_law_wins : K.lookup f_law_wins = some ⟨oc_law_wins, od_law_wins, .func (PySem.W.fnOf "_law_wins" "_law_wins" (defArgs s_law_wins) (defBody s_law_wins) (defScope s_law_wins) .none kV_law_wins dc_law_wins pm_law_wins an_law_wins cd_law_wins ct_law_wins), sl_law_wins⟩)
    (c_law_wins : PySem.W.codeIn K cd_law_wins "_law_wins" = true)
    (k_law_wins : PySem.W.keepIn K (.ref f_law_wins) = true)
    (a_reachable : PySem.W.nsIn K mainGlobals "reachable" = some (some (.ref f_reachable)))
    (l_reachable : K.lookup f_reachable = some ⟨oc_reachable, od_reachable, .func (PySem.W.fnOf "reachable" "reachable" (defArgs s_reachable) (defBody s_reachable) (defScope s_reachable) .none kV_reachable dc_reachable pm_reachable an_reachable cd_reachable ct_reachable), sl_reachable⟩)
    (c_reachable : PySem.W.codeIn K cd_reachable "reachable" = true)
    (k_reachable : PySem.W.keepIn K (.ref f_reachable) = true)
    (a_chosen_moves : PySem.W.nsIn K mainGlobals "chosen_moves" = some (some (.ref f_chosen_moves)))
    (l_chosen_moves : K.lookup f_chosen_moves = some ⟨oc_chosen_moves, od_chosen_moves, .func (PySem.W.fnOf "chosen_moves" "chosen_moves" (defArgs s_chosen_moves) (defBody s_chosen_moves) (defScope s_chosen_moves) .none kV_chosen_moves dc_chosen_moves pm_chosen_moves an_chosen_moves cd_chosen_moves ct_chosen_moves), sl_chosen_moves⟩)
    (c_chosen_moves : PySem.W.codeIn K cd_chosen_moves "chosen_moves" = true)
    (k_chosen_moves : PySem.W.keepIn K (.ref f_chosen_moves) = true)
    (a_finishing_order : PySem.W.nsIn K mainGlobals "finishing_order" = some (some (.ref f_finishing_order)))
    (l_finishing_order : K.lookup f_finishing_order = some ⟨oc_finishing_order, od_finishing_order, .func (PySem.W.fnOf "finishing_order" "finishing_order" (defArgs s_finishing_order) (defBody s_finishing_order) (defScope s_finishing_order) .none kV_finishing_order dc_finishing_order pm_finishing_order an_finishing_order cd_finishing_order ct_finishing_order), sl_finishing_order⟩)
    (c_finishing_order : PySem.W.codeIn K cd_finishing_order "finishing_order" = true)
    (k_finishing_order : PySem.W.keepIn K (.ref f_finishing_order) = true)
    (a_components : PySem.W.nsIn K mainGlobals "components" = some (some (.ref f_components)))
    (l_components : K.lookup f_components = some ⟨oc_components, od_components, .func (PySem.W.fnOf "components" "components" (defArgs s_components) (defBody s_components) (defScope s_components) .none kV_components dc_components pm_components an_components cd_components ct_components), sl_components⟩)
    (c_components : PySem.W.codeIn K cd_components "components" = true)
    (k_components : PySem.W.keepIn K (.ref f_components) = true)
    (a_has_bad_cycle : PySem.W.nsIn K mainGlobals "has_bad_cycle" = some (some (.ref f_has_bad_cycle)))
    (l_has_bad_cycle : K.lookup f_has_bad_cycle = some ⟨oc_has_bad_cycle, od_has_bad_cycle, .func (PySem.W.fnOf "has_bad_cycle" "has_bad_cycle" (defArgs s_has_bad_cycle) (defBody s_has_bad_cycle) (defScope s_has_bad_cycle) .none kV_has_bad_cycle dc_has_bad_cycle pm_has_bad_cycle an_has_bad_cycle cd_has_bad_cycle ct_has_bad_cycle), sl_has_bad_cycle⟩)
    (c_has_bad_cycle : PySem.W.codeIn K cd_has_bad_cycle "has_bad_cycle" = true)
    (k_has_bad_cycle : PySem.W.keepIn K (.ref f_has_bad_cycle) = true)
    (a_choices_win : PySem.W.nsIn K mainGlobals "choices_win" = some (some (.ref f_choices_win)))
    (l_choices_win : K.lookup f_choices_win = some ⟨oc_choices_win, od_choices_win, .func (PySem.W.fnOf "choices_win" "choices_win" (defArgs s_choices_win) (defBody s_choices_win) (defScope s_choices_win) .none kV_choices_win dc_choices_win pm_choices_win an_choices_win cd_choices_win ct_choices_win), sl_choices_win⟩)
    (c_choices_win : PySem.W.codeIn K cd_choices_win "choices_win" = true)
    (k_choices_win : PySem.W.keepIn K (.ref f_choices_win) = true)
    (a_law_outcome : PySem.W.nsIn K mainGlobals "_law_outcome" = some (some (.ref f_law_outcome)))
    (l_law_outcome : K.lookup f_law_outcome = some ⟨oc_law_outcome, od_law_outcome, .func (PySem.W.fnOf "_law_outcome" "_law_outcome" (defArgs s_law_outcome) (defBody s_law_outcome) (defScope s_law_outcome) .none kV_law_outcome dc_law_outcome pm_law_outcome an_law_outcome cd_law_outcome ct_law_outcome), sl_law_outcome⟩)
    (c_law_outcome : PySem.W.codeIn K cd_law_outcome "_law_outcome" = true)
    (k_law_outcome : PySem.W.keepIn K (.ref f_law_outcome) = true)
    (a_law : PySem.W.nsIn K mainGlobals "law" = some (some (.ref f_law)))
    (l_law : K.lookup f_law = some ⟨oc_law, od_law, .func (PySem.W.fnOf "law" "law" (defArgs s_law) (defBody s_law) (defScope s_law) .none kV_law dc_law pm_law an_law cd_law ct_law), sl_law⟩)
    (c_law : PySem.W.codeIn K cd_law "law" = true)
    (k_law : PySem.W.keepIn K (.ref f_law) = true)
    (z_bool : PySem.W.nsIn K mainGlobals "bool" = some none)
    (z_int : PySem.W.nsIn K mainGlobals "int" = some none)
    (z_isinstance : PySem.W.nsIn K mainGlobals "isinstance" = some none)
    (z_len : PySem.W.nsIn K mainGlobals "len" = some none)
    (z_list : PySem.W.nsIn K mainGlobals "list" = some none)
    (z_range : PySem.W.nsIn K mainGlobals "range" = some none)
    (z_set : PySem.W.nsIn K mainGlobals "set" = some none)
    (z_sorted : PySem.W.nsIn K mainGlobals "sorted" = some none)
    (z_tuple : PySem.W.nsIn K mainGlobals "tuple" = some none)
    (xa_InvalidGame : PySem.W.nsIn K mainGlobals "InvalidGame" = some (some (.ref C_InvalidGame)))
    (xq_InvalidGame : PySem.W.excIn K C_InvalidGame [.type "ValueError", .type "Exception", .type "BaseException", .type "object"] "ValueError.__new__" = true)
    (xk_InvalidGame : PySem.W.keepIn K (.ref C_InvalidGame) = true)
    (xb_InvalidGame : PySem.W.subIn K (.ref C_InvalidGame) (.type "BaseException") = some true)
    (xt_InvalidGame : PySem.W.typeIn K (.ref C_InvalidGame) = some (.type "type"))
    (xa_InvalidPosition : PySem.W.nsIn K mainGlobals "InvalidPosition" = some (some (.ref C_InvalidPosition)))
    (xq_InvalidPosition : PySem.W.excIn K C_InvalidPosition [.type "ValueError", .type "Exception", .type "BaseException", .type "object"] "ValueError.__new__" = true)
    (xk_InvalidPosition : PySem.W.keepIn K (.ref C_InvalidPosition) = true)
    (xb_InvalidPosition : PySem.W.subIn K (.ref C_InvalidPosition) (.type "BaseException") = some true)
    (xt_InvalidPosition : PySem.W.typeIn K (.ref C_InvalidPosition) = some (.type "type"))
    (xi_InvalidPosition : PySem.W.hasDictIn K C_InvalidPosition = true)
    (xs_InvalidPosition_InvalidPosition : PySem.W.subIn K (.ref C_InvalidPosition) (.ref C_InvalidPosition) = some true) :
    Txt K mg (gm [("InvalidGame", C_InvalidGame), ("InvalidPosition", C_InvalidPosition), ("Game", C_Game)]) :=
  ⟨PySem.W.mg_none_of X G z_bool,
   PySem.W.mg_none_of X G z_int,
   PySem.W.mg_none_of X G z_isinstance,
   PySem.W.mg_none_of X G z_len,
   PySem.W.mg_none_of X G z_list,
   PySem.W.mg_none_of X G z_range,
   PySem.W.mg_none_of X G z_set,
   PySem.W.mg_none_of X G z_sorted,
   PySem.W.mg_none_of X G z_tuple,
   def_mk l_reversed_moves c_reversed_moves k_reversed_moves (PySem.W.mg_of X G a_reversed_moves) (fun us hl => match us, hl with | [_], _ => rfl),
   mkd_mk l_Game_init c_Game_init k_Game_init ⟨om_Game, a_Game_init, i_Game_init, ok_Game⟩ (PySem.W.mg_of X G oa_Game) (fun us hl => match us, hl with | [_, _, _, _], _ => rfl),
   def_mk l_law_draws c_law_draws k_law_draws (PySem.W.mg_of X G a_law_draws) (fun us hl => match us, hl with | [_, _], _ => rfl),
   def_mk l_law_take c_law_take k_law_take (PySem.W.mg_of X G a_law_take) (fun us hl => match us, hl with | [_, _], _ => rfl),
   def_mk l_law_flat c_law_flat k_law_flat (PySem.W.mg_of X G a_law_flat) (fun us hl => match us, hl with | [_], _ => rfl),
   def_mk l_law_ascending c_law_ascending k_law_ascending (PySem.W.mg_of X G a_law_ascending) (fun us hl => match us, hl with | [_, _, _], _ => rfl),
   def_mk l_law_game c_law_game k_law_game (PySem.W.mg_of X G a_law_game) (fun us hl => match us, hl with | [_, _], _ => rfl),
   def_mk l_law_left c_law_left k_law_left (PySem.W.mg_of X G a_law_left) (fun us hl => match us, hl with | [_, _, _, _], _ => rfl),
   def_mk l_law_reached c_law_reached k_law_reached (PySem.W.mg_of X G a_law_reached) (fun us hl => match us, hl with | [_, _, _], _ => rfl),
   def_mk l_law_wins c_law_wins k_law_wins (PySem.W.mg_of X G a_law_wins) (fun us hl => match us, hl with | [_, _, _, _], _ => rfl),
   def_mk l_reachable c_reachable k_reachable (PySem.W.mg_of X G a_reachable) (fun us hl => match us, hl with | [_, _], _ => rfl),
   def_mk l_chosen_moves c_chosen_moves k_chosen_moves (PySem.W.mg_of X G a_chosen_moves) (fun us hl => match us, hl with | [_, _, _], _ => rfl),
   def_mk l_finishing_order c_finishing_order k_finishing_order (PySem.W.mg_of X G a_finishing_order) (fun us hl => match us, hl with | [_], _ => rfl),
   def_mk l_components c_components k_components (PySem.W.mg_of X G a_components) (fun us hl => match us, hl with | [_], _ => rfl),
   def_mk l_has_bad_cycle c_has_bad_cycle k_has_bad_cycle (PySem.W.mg_of X G a_has_bad_cycle) (fun us hl => match us, hl with | [_, _, _], _ => rfl),
   def_mk l_choices_win c_choices_win k_choices_win (PySem.W.mg_of X G a_choices_win) (fun us hl => match us, hl with | [_, _, _, _], _ => rfl),
   def_mk l_law_outcome c_law_outcome k_law_outcome (PySem.W.mg_of X G a_law_outcome) (fun us hl => match us, hl with | [_, _, _, _], _ => rfl),
   def_mk l_law c_law k_law (PySem.W.mg_of X G a_law) (fun us hl => match us, hl with | [_], _ => rfl),
   ⟨xq_InvalidGame, PySem.W.mg_of X G xa_InvalidGame, xk_InvalidGame, xb_InvalidGame, xt_InvalidGame⟩,
   ⟨xq_InvalidPosition, PySem.W.mg_of X G xa_InvalidPosition, xk_InvalidPosition, xb_InvalidPosition, xt_InvalidPosition⟩,
   PySem.W.exm_ref xb_InvalidPosition xi_InvalidPosition xt_InvalidPosition xs_InvalidPosition_InvalidPosition,
   (tab_cons ⟨⟨og_Game, oh_Game, oo_Game, os_Game⟩, (al_cons on_Game_owners (al_cons on_Game_priorities (al_cons on_Game_moves (al_cons on_Game_sources al_nil))))⟩ tab_nil)⟩
end K35
/-! ## K35T -/
set_option Elab.async false
set_option linter.all false
set_option maxRecDepth 100000
set_option maxHeartbeats 4000000
namespace K35
open PySem PySem.Spec PyProof.Rows L2 Mn Ty
structure C_Game where
  owners : (List Int)
  priorities : (List Int)
  moves : (List (List Int))
  sources : (List (List Int))
deriving DecidableEq, Inhabited
abbrev v_Game : C_Game → MV := fun o => .ob "Game" ["owners", "priorities", "moves", "sources"] [(tV MV.int) o.owners, (tV MV.int) o.priorities, (tV (tV MV.int)) o.moves, (lV (lV MV.int)) o.sources]
structure V_law_draws where
  lcells : (List Int)
  lscript : (List Int)
  lfound : (List Int)
  lmixed : Int
  lcount : Int
  lk : Int
  lj : Int
  lcell : Int
  lagain : Int
@[reducible] def V_law_draws.put_lcells (s : V_law_draws) (v : (List Int)) : V_law_draws := { s with lcells := v }
@[reducible] def V_law_draws.put_lscript (s : V_law_draws) (v : (List Int)) : V_law_draws := { s with lscript := v }
@[reducible] def V_law_draws.put_lfound (s : V_law_draws) (v : (List Int)) : V_law_draws := { s with lfound := v }
@[reducible] def V_law_draws.put_lmixed (s : V_law_draws) (v : Int) : V_law_draws := { s with lmixed := v }
@[reducible] def V_law_draws.put_lcount (s : V_law_draws) (v : Int) : V_law_draws := { s with lcount := v }
@[reducible] def V_law_draws.put_lk (s : V_law_draws) (v : Int) : V_law_draws := { s with lk := v }
@[reducible] def V_law_draws.put_lj (s : V_law_draws) (v : Int) : V_law_draws := { s with lj := v }
@[reducible] def V_law_draws.put_lcell (s : V_law_draws) (v : Int) : V_law_draws := { s with lcell := v }
@[reducible] def V_law_draws.put_lagain (s : V_law_draws) (v : Int) : V_law_draws := { s with lagain := v }
def tb_law_draws : Nat → Slot V_law_draws
  | 0 => ⟨0, fun s => (fz (sV MV.int)) s.lscript⟩
  | 1 => ⟨1, fun s => (fz MV.int) s.lcount⟩
  | 2 => ⟨2, fun s => (own1 MV.int) s.lcells⟩
  | 3 => ⟨3, fun s => (own1 MV.int) s.lfound⟩
  | 4 => ⟨4, fun s => (fz MV.int) s.lmixed⟩
  | 5 => ⟨8, fun s => (fz MV.int) s.lagain⟩
  | 6 => ⟨7, fun s => (fz MV.int) s.lcell⟩
  | 7 => ⟨6, fun s => (fz MV.int) s.lj⟩
  | 8 => ⟨5, fun s => (fz MV.int) s.lk⟩
  | _ => ⟨0, fun _ => fz nV ()⟩
abbrev cx_law_draws : Cx V_law_draws (List Int) := ⟨tb_law_draws, 9, [], [], [], [], (own1 MV.int)⟩
theorem kp_law_draws_lcells : Keep tb_law_draws V_law_draws.put_lcells 2 [0, 1, 3, 4, 5, 6, 7, 8] := ⟨⟨Nat.ne_of_beq_eq_false rfl, fun _ _ => rfl⟩, ⟨⟨Nat.ne_of_beq_eq_false rfl, fun _ _ => rfl⟩, ⟨⟨Nat.ne_of_beq_eq_false rfl, fun _ _ => rfl⟩, ⟨⟨Nat.ne_of_beq_eq_false rfl, fun _ _ => rfl⟩, ⟨⟨Nat.ne_of_beq_eq_false rfl, fun _ _ => rfl⟩, ⟨⟨Nat.ne_of_beq_eq_false rfl, fun _ _ => rfl⟩, ⟨⟨Nat.ne_of_beq_eq_false rfl, fun _ _ => rfl⟩, ⟨⟨Nat.ne_of_beq_eq_false rfl, fun _ _ => rfl⟩, trivial⟩⟩⟩⟩⟩⟩⟩⟩
theorem kp_law_draws_lscript : Keep tb_law_draws V_law_draws.put_lscript 0 [1, 2, 3, 4, 5, 6, 7, 8] := ⟨⟨Nat.ne_of_beq_eq_false rfl, fun _ _ => rfl⟩, ⟨⟨Nat.ne_of_beq_eq_false rfl, fun _ _ => rfl⟩, ⟨⟨Nat.ne_of_beq_eq_false rfl, fun _ _ => rfl⟩, ⟨⟨Nat.ne_of_beq_eq_false rfl, fun _ _ => rfl⟩, ⟨⟨Nat.ne_of_beq_eq_false rfl, fun _ _ => rfl⟩, ⟨⟨Nat.ne_of_beq_eq_false rfl, fun _ _ => rfl⟩, ⟨⟨Nat.ne_of_beq_eq_false rfl, fun _ _ => rfl⟩, ⟨⟨Nat.ne_of_beq_eq_false rfl, fun _ _ => rfl⟩, trivial⟩⟩⟩⟩⟩⟩⟩⟩
theorem kp_law_draws_lfound : Keep tb_law_draws V_law_draws.put_lfound 3 [0, 1, 2, 4, 5, 6, 7, 8] := ⟨⟨Nat.ne_of_beq_eq_false rfl, fun _ _ => rfl⟩, ⟨⟨Nat.ne_of_beq_eq_false rfl, fun _ _ => rfl⟩, ⟨⟨Nat.ne_of_beq_eq_false rfl, fun _ _ => rfl⟩, ⟨⟨Nat.ne_of_beq_eq_false rfl, fun _ _ => rfl⟩, ⟨⟨Nat.ne_of_beq_eq_false rfl, fun _ _ => rfl⟩, ⟨⟨Nat.ne_of_beq_eq_false rfl, fun _ _ => rfl⟩, ⟨⟨Nat.ne_of_beq_eq_false rfl, fun _ _ => rfl⟩, ⟨⟨Nat.ne_of_beq_eq_false rfl, fun _ _ => rfl⟩, trivial⟩⟩⟩⟩⟩⟩⟩⟩
theorem kp_law_draws_lmixed : Keep tb_law_draws V_law_draws.put_lmixed 4 [0, 1, 2, 3, 5, 6, 7, 8] := ⟨⟨Nat.ne_of_beq_eq_false rfl, fun _ _ => rfl⟩, ⟨⟨Nat.ne_of_beq_eq_false rfl, fun _ _ => rfl⟩, ⟨⟨Nat.ne_of_beq_eq_false rfl, fun _ _ => rfl⟩, ⟨⟨Nat.ne_of_beq_eq_false rfl, fun _ _ => rfl⟩, ⟨⟨Nat.ne_of_beq_eq_false rfl, fun _ _ => rfl⟩, ⟨⟨Nat.ne_of_beq_eq_false rfl, fun _ _ => rfl⟩, ⟨⟨Nat.ne_of_beq_eq_false rfl, fun _ _ => rfl⟩, ⟨⟨Nat.ne_of_beq_eq_false rfl, fun _ _ => rfl⟩, trivial⟩⟩⟩⟩⟩⟩⟩⟩
theorem kp_law_draws_lcount : Keep tb_law_draws V_law_draws.put_lcount 1 [0, 2, 3, 4, 5, 6, 7, 8] := ⟨⟨Nat.ne_of_beq_eq_false rfl, fun _ _ => rfl⟩, ⟨⟨Nat.ne_of_beq_eq_false rfl, fun _ _ => rfl⟩, ⟨⟨Nat.ne_of_beq_eq_false rfl, fun _ _ => rfl⟩, ⟨⟨Nat.ne_of_beq_eq_false rfl, fun _ _ => rfl⟩, ⟨⟨Nat.ne_of_beq_eq_false rfl, fun _ _ => rfl⟩, ⟨⟨Nat.ne_of_beq_eq_false rfl, fun _ _ => rfl⟩, ⟨⟨Nat.ne_of_beq_eq_false rfl, fun _ _ => rfl⟩, ⟨⟨Nat.ne_of_beq_eq_false rfl, fun _ _ => rfl⟩, trivial⟩⟩⟩⟩⟩⟩⟩⟩
theorem kp_law_draws_lk : Keep tb_law_draws V_law_draws.put_lk 5 [0, 1, 2, 3, 4, 5, 6, 7] := ⟨⟨Nat.ne_of_beq_eq_false rfl, fun _ _ => rfl⟩, ⟨⟨Nat.ne_of_beq_eq_false rfl, fun _ _ => rfl⟩, ⟨⟨Nat.ne_of_beq_eq_false rfl, fun _ _ => rfl⟩, ⟨⟨Nat.ne_of_beq_eq_false rfl, fun _ _ => rfl⟩, ⟨⟨Nat.ne_of_beq_eq_false rfl, fun _ _ => rfl⟩, ⟨⟨Nat.ne_of_beq_eq_false rfl, fun _ _ => rfl⟩, ⟨⟨Nat.ne_of_beq_eq_false rfl, fun _ _ => rfl⟩, ⟨⟨Nat.ne_of_beq_eq_false rfl, fun _ _ => rfl⟩, trivial⟩⟩⟩⟩⟩⟩⟩⟩
theorem kp_law_draws_lj : Keep tb_law_draws V_law_draws.put_lj 6 [0, 1, 2, 3, 4, 5, 6, 8] := ⟨⟨Nat.ne_of_beq_eq_false rfl, fun _ _ => rfl⟩, ⟨⟨Nat.ne_of_beq_eq_false rfl, fun _ _ => rfl⟩, ⟨⟨Nat.ne_of_beq_eq_false rfl, fun _ _ => rfl⟩, ⟨⟨Nat.ne_of_beq_eq_false rfl, fun _ _ => rfl⟩, ⟨⟨Nat.ne_of_beq_eq_false rfl, fun _ _ => rfl⟩, ⟨⟨Nat.ne_of_beq_eq_false rfl, fun _ _ => rfl⟩, ⟨⟨Nat.ne_of_beq_eq_false rfl, fun _ _ => rfl⟩, ⟨⟨Nat.ne_of_beq_eq_false rfl, fun _ _ => rfl⟩, trivial⟩⟩⟩⟩⟩⟩⟩⟩
theorem kp_law_draws_lcell : Keep tb_law_draws V_law_draws.put_lcell 7 [0, 1, 2, 3, 4, 5, 7, 8] := ⟨⟨Nat.ne_of_beq_eq_false rfl, fun _ _ => rfl⟩, ⟨⟨Nat.ne_of_beq_eq_false rfl, fun _ _ => rfl⟩, ⟨⟨Nat.ne_of_beq_eq_false rfl, fun _ _ => rfl⟩, ⟨⟨Nat.ne_of_beq_eq_false rfl, fun _ _ => rfl⟩, ⟨⟨Nat.ne_of_beq_eq_false rfl, fun _ _ => rfl⟩, ⟨⟨Nat.ne_of_beq_eq_false rfl, fun _ _ => rfl⟩, ⟨⟨Nat.ne_of_beq_eq_false rfl, fun _ _ => rfl⟩, ⟨⟨Nat.ne_of_beq_eq_false rfl, fun _ _ => rfl⟩, trivial⟩⟩⟩⟩⟩⟩⟩⟩
theorem kp_law_draws_lagain : Keep tb_law_draws V_law_draws.put_lagain 8 [0, 1, 2, 3, 4, 6, 7, 8] := ⟨⟨Nat.ne_of_beq_eq_false rfl, fun _ _ => rfl⟩, ⟨⟨Nat.ne_of_beq_eq_false rfl, fun _ _ => rfl⟩, ⟨⟨Nat.ne_of_beq_eq_false rfl, fun _ _ => rfl⟩, ⟨⟨Nat.ne_of_beq_eq_false rfl, fun _ _ => rfl⟩, ⟨⟨Nat.ne_of_beq_eq_false rfl, fun _ _ => rfl⟩, ⟨⟨Nat.ne_of_beq_eq_false rfl, fun _ _ => rfl⟩, ⟨⟨Nat.ne_of_beq_eq_false rfl, fun _ _ => rfl⟩, ⟨⟨Nat.ne_of_beq_eq_false rfl, fun _ _ => rfl⟩, trivial⟩⟩⟩⟩⟩⟩⟩⟩
def F_law_draws : (Unit) → ((List Int) × Int × Unit) → X (Unit) (List Int) := yRun (fun (i : Unit) (a : (List Int) × Int × Unit) => ({ lcells := default, lscript := a.1, lfound := default, lmixed := default, lcount := a.2.1, lk := default, lj := default, lcell := default, lagain := default } : V_law_draws)) (fun s => (())) (none : Option (List Int)) (ySeq (ySet V_law_draws.put_lcells (x1 id (xV V_law_draws.lscript))) (ySeq (yIf (x2 (fun a b => if false = true then !decide (a = b) else decide (a = b)) (x1 (fun xs => (xs.length : Int)) (xV V_law_draws.lcells)) (xC (0 : Int))) (ySet V_law_draws.put_lcells (x1 (fun (x : Int × Unit) => ([x.1] : List Int)) (xCs (xC (7 : Int)) xN))) yNil) (ySeq (ySet V_law_draws.put_lfound (x1 (fun (x : Unit) => ([] : List Int)) xN)) (ySeq (ySet V_law_draws.put_lmixed (xC (12345 : Int))) (ySeq (yFor (x1o gRng1 (xCs (xV V_law_draws.lcount) xN)) V_law_draws.put_lk (ySeq (ySet V_law_draws.put_lj (x2o gMod (xV V_law_draws.lk) (x1 (fun xs => (xs.length : Int)) (xV V_law_draws.lcells)))) (ySeq (ySet V_law_draws.put_lcell (x2o gIx (xV V_law_draws.lcells) (xV V_law_draws.lj))) (ySeq (ySet V_law_draws.put_lmixed (x2o gMod (x1 (fun i : Int => i) (x2 (fun i j : Int => i + j) (x2 (fun i j : Int => i + j) (x2 (fun i j : Int => i + j) (x2o gMul (xV V_law_draws.lmixed) (xC (48271 : Int))) (x2o gMul (x2o gMod (x1 (fun i : Int => i) (xV V_law_draws.lcell)) (xC (1000003 : Int))) (xC (69621 : Int)))) (x2o gMul (xV V_law_draws.lk) (xC (7919 : Int)))) (xC (11 : Int)))) (xC (2147483647 : Int)))) (ySeq (ySet V_law_draws.put_lagain (x2o gMod (x1 (fun i : Int => i) (x2 (fun i j : Int => i + j) (x2 (fun i j : Int => i + j) (x2o gMul (xV V_law_draws.lmixed) (xV V_law_draws.lmixed)) (x2o gMul (xC (31 : Int)) (xV V_law_draws.lmixed))) (xV V_law_draws.lk))) (xC (1000003 : Int)))) (yIf (x2 (fun i j : Int => decide (j ≤ i)) (xV V_law_draws.lcell) (x2o gPow (xC (10 : Int)) (xC (18 : Int)))) (ySeq (yExpr (xMeth V_law_draws.lfound V_law_draws.put_lfound gApp (xCs (x2o gMod (x1 (fun i : Int => i) (xV V_law_draws.lcell)) (xC (1000 : Int))) xN))) (ySetI V_law_draws.lcells V_law_draws.put_lcells (x2o gDiv (xV V_law_draws.lcell) (xC (1000 : Int))) (xV V_law_draws.lj))) (yExpr (xMeth V_law_draws.lfound V_law_draws.put_lfound gApp (xCs (x2o gMod (x1 (fun i : Int => i) (xV V_law_draws.lagain)) (xC (1000 : Int))) xN))))))))) (ySeq (yExpr (xMeth V_law_draws.lfound V_law_draws.put_lfound gRev xN)) (yRet (xV V_law_draws.lfound))))))))
theorem ty_law_draws : TFun (.fr (sV MV.int) (.fr MV.int (.nil)) : PSpec (Unit) ((List Int) × Int × Unit)) m_law_draws F_law_draws (own1 MV.int) := by
  unfold m_law_draws F_law_draws
  exact tf_mk (c := cx_law_draws) (D0 := [0, 1]) (D1 := [])
   (ts_seq (ts_set (D0 := [0, 1]) 2 (tx_listO sq_s (tp_v (i := 0) rfl rfl (fun _ => rfl))) (kp_law_draws_lcells.sub rfl) (fun _ _ => rfl)) (ts_seq (ts_if (D' := [2, 0, 1]) (txt_v (tx_2 (o_eq (neg := false) dt_int) (Ty.TP.tx (tp_f1 f1_lenO (tp_v (i := 2) rfl rfl (fun _ => rfl)))) (Ty.TP.tx (tp_c (val := MV.int) rfl)))) (ts_set (D0 := [0, 1]) 2 (tx_lst (va := MV.int) (fun _ => rfl) 1 (fun _ => rfl) (txa_c (Ty.TP.tx (tp_c (val := MV.int) rfl)) (Ty.TPA.tx tpa_n))) (kp_law_draws_lcells.sub rfl) (fun _ _ => rfl)) ts_nil) (ts_seq (ts_set (D0 := [2, 0, 1]) 3 (tx_lst (va := MV.int) (fun _ => rfl) 0 (fun _ => rfl) (Ty.TPA.tx tpa_n)) (kp_law_draws_lfound.sub rfl) (fun _ _ => rfl)) (ts_seq (ts_set (D0 := [3, 2, 0, 1]) 4 (Ty.TP.tx (tp_c (val := MV.int) rfl)) (kp_law_draws_lmixed.sub rfl) (fun _ _ => rfl)) (ts_seq (ts_for (Dl := [4, 3, 2, 0, 1]) (D2 := [5, 4, 6, 7, 8, 3, 2, 0, 1]) (ti_range1 (txa_c (Ty.TP.tx (tp_v (i := 1) rfl rfl (fun _ => rfl))) (Ty.TPA.tx tpa_n))) (tg_nm (D0 := [4, 3, 2, 0, 1]) 8 (kp_law_draws_lk.sub rfl) (fun _ _ => rfl)) (ts_seq (ts_set (D0 := [8, 4, 3, 2, 0, 1]) 7 (tx_2o o_mod (Ty.TP.tx (tp_v (i := 8) rfl rfl (fun _ => rfl))) (Ty.TP.tx (tp_f1 f1_lenO (tp_v (i := 2) rfl rfl (fun _ => rfl))))) (kp_law_draws_lj.sub rfl) (fun _ _ => rfl)) (ts_seq (ts_set (D0 := [7, 8, 4, 3, 2, 0, 1]) 6 (Ty.TP.tx (tp_2o (o_ix sq_o) (tp_v (i := 2) rfl rfl (fun _ => rfl)) (tp_v (i := 7) rfl rfl (fun _ => rfl)))) (kp_law_draws_lcell.sub rfl) (fun _ _ => rfl)) (ts_seq (ts_set (D0 := [6, 7, 8, 3, 2, 0, 1]) 4 (tx_2o o_mod (Ty.TP.tx (tp_f1 (Op1.rd f1_int) (tp_2 (Op2.rd o_add) (tp_2 (Op2.rd o_add) (tp_2 (Op2.rd o_add) (tp_2o (Op2.rd o_mul) (tp_v (i := 4) rfl rfl (fun _ => rfl)) (tp_c (val := MV.int) rfl)) (tp_2o (Op2.rd o_mul) (tp_2o (Op2.rd o_mod) (tp_f1 (Op1.rd f1_int) (tp_v (i := 6) rfl rfl (fun _ => rfl))) (tp_c (val := MV.int) rfl)) (tp_c (val := MV.int) rfl))) (tp_2o (Op2.rd o_mul) (tp_v (i := 8) rfl rfl (fun _ => rfl)) (tp_c (val := MV.int) rfl))) (tp_c (val := MV.int) rfl)))) (Ty.TP.tx (tp_c (val := MV.int) rfl))) (kp_law_draws_lmixed.sub rfl) (fun _ _ => rfl)) (ts_seq (ts_set (D0 := [4, 6, 7, 8, 3, 2, 0, 1]) 5 (tx_2o o_mod (Ty.TP.tx (tp_f1 (Op1.rd f1_int) (tp_2 (Op2.rd o_add) (tp_2 (Op2.rd o_add) (tp_2o (Op2.rd o_mul) (tp_v (i := 4) rfl rfl (fun _ => rfl)) (tp_v (i := 4) rfl rfl (fun _ => rfl))) (tp_2o (Op2.rd o_mul) (tp_c (val := MV.int) rfl) (tp_v (i := 4) rfl rfl (fun _ => rfl)))) (tp_v (i := 8) rfl rfl (fun _ => rfl))))) (Ty.TP.tx (tp_c (val := MV.int) rfl))) (kp_law_draws_lagain.sub rfl) (fun _ _ => rfl)) (ts_if (D' := [5, 4, 6, 7, 8, 3, 2, 0, 1]) (txt_v (tx_2 o_ge (Ty.TP.tx (tp_v (i := 6) rfl rfl (fun _ => rfl))) (tx_2o o_pow (Ty.TP.tx (tp_c (val := MV.int) rfl)) (Ty.TP.tx (tp_c (val := MV.int) rfl))))) (ts_seq (ts_expr (tx_meth (D0 := [5, 4, 6, 7, 8, 2, 0, 1]) 3 mo_app (txa_c (tx_2o o_mod (Ty.TP.tx (tp_f1 (Op1.rd f1_int) (tp_v (i := 6) rfl rfl (fun _ => rfl)))) (Ty.TP.tx (tp_c (val := MV.int) rfl))) (Ty.TPA.tx tpa_n)) (fun _ => rfl) (fun _ _ => rfl) (kp_law_draws_lfound.sub rfl))) (ts_setI (D0 := [5, 4, 6, 7, 8, 3, 0, 1]) 2 (tx_2o o_div (Ty.TP.tx (tp_v (i := 6) rfl rfl (fun _ => rfl))) (Ty.TP.tx (tp_c (val := MV.int) rfl))) (tp_v (i := 7) rfl rfl (fun _ => rfl)) (fun _ => rfl) (fun _ _ => rfl) (kp_law_draws_lcells.sub rfl))) (ts_expr (tx_meth (D0 := [5, 4, 6, 7, 8, 2, 0, 1]) 3 mo_app (txa_c (tx_2o o_mod (Ty.TP.tx (tp_f1 (Op1.rd f1_int) (tp_v (i := 5) rfl rfl (fun _ => rfl)))) (Ty.TP.tx (tp_c (val := MV.int) rfl))) (Ty.TPA.tx tpa_n)) (fun _ => rfl) (fun _ _ => rfl) (kp_law_draws_lfound.sub rfl))))))))) (ts_seq (ts_expr (by rw [mM0_eq]; exact (tx_meth (D0 := [4, 2, 0, 1]) 3 mo_rev (Ty.TPA.tx tpa_n) (fun _ => rfl) (fun _ _ => rfl) (kp_law_draws_lfound.sub rfl)))) (ts_retO 3 (fun _ => rfl))))))))
   (fun _ _ => ⟨⟨rfl, rfl⟩, ⟨⟨rfl, rfl⟩, trivial⟩⟩) (fun _ => trivial) (fun r h => by cases h)
structure V_law_take where
  ldraws_here : (List Int)
  llimit : Int
@[reducible] def V_law_take.put_ldraws_here (s : V_law_take) (v : (List Int)) : V_law_take := { s with ldraws_here := v }
@[reducible] def V_law_take.put_llimit (s : V_law_take) (v : Int) : V_law_take := { s with llimit := v }
def tb_law_take : Nat → Slot V_law_take
  | 0 => ⟨0, fun s => (own1 MV.int) s.ldraws_here⟩
  | 1 => ⟨1, fun s => (fz MV.int) s.llimit⟩
  | _ => ⟨0, fun _ => fz nV ()⟩
abbrev cx_law_take : Cx V_law_take Int := ⟨tb_law_take, 2, [], [0], [0], [0], (fz MV.int)⟩
theorem kp_law_take_ldraws_here : Keep tb_law_take V_law_take.put_ldraws_here 0 [1] := ⟨⟨Nat.ne_of_beq_eq_false rfl, fun _ _ => rfl⟩, trivial⟩
theorem kp_law_take_llimit : Keep tb_law_take V_law_take.put_llimit 1 [0] := ⟨⟨Nat.ne_of_beq_eq_false rfl, fun _ _ => rfl⟩, trivial⟩
def F_law_take : ((List Int) × Unit) → (Int × Unit) → X ((List Int) × Unit) Int := yRun (fun (i : (List Int) × Unit) (a : Int × Unit) => ({ ldraws_here := i.1, llimit := a.1 } : V_law_take)) (fun s => (s.ldraws_here, ())) (none : Option Int) (ySeq (yIf (x2 (fun a b => if false = true then !decide (a = b) else decide (a = b)) (x1 (fun xs => (xs.length : Int)) (xV V_law_take.ldraws_here)) (xC (0 : Int))) (yRet (xC (0 : Int))) yNil) (yRet (x2o gMod (x1 (fun i : Int => i) (xMeth V_law_take.ldraws_here V_law_take.put_ldraws_here gPop xN)) (xV V_law_take.llimit))))
theorem ty_law_take : TFun (.io (own1 MV.int) (.fr MV.int (.nil)) : PSpec ((List Int) × Unit) (Int × Unit)) m_law_take F_law_take (fz MV.int) := by
  unfold m_law_take F_law_take
  exact tf_mk (c := cx_law_take) (D0 := [0, 1]) (D1 := [0])
   (ts_seq (ts_if (D' := [0, 1]) (D1 := [0, 1]) (txt_v (tx_2 (o_eq (neg := false) dt_int) (Ty.TP.tx (tp_f1 f1_lenO (tp_v (i := 0) rfl rfl (fun _ => rfl)))) (Ty.TP.tx (tp_c (val := MV.int) rfl)))) (ts_ret (Ty.TP.tx (tp_c (val := MV.int) rfl))) ts_nil) (ts_ret (tx_2o o_mod (tx_f1 f1_int (by rw [mM0_eq]; exact (tx_meth (D0 := [1]) 0 mo_pop (Ty.TPA.tx tpa_n) (fun _ => rfl) (fun _ _ => rfl) (kp_law_take_ldraws_here.sub rfl)))) (Ty.TP.tx (tp_v (i := 1) rfl rfl (fun _ => rfl))))))
   (fun _ _ => ⟨⟨rfl, rfl⟩, ⟨⟨rfl, rfl⟩, trivial⟩⟩) (fun _ => ⟨⟨rfl, rfl⟩, trivial⟩) (fun r h => by cases h)
structure V_law_ascending where
  llimit : Int
  lk_c0 : Int
  ldraws_here : (List Int)
  lshare : Int
@[reducible] def V_law_ascending.put_llimit (s : V_law_ascending) (v : Int) : V_law_ascending := { s with llimit := v }
@[reducible] def V_law_ascending.put_lk_c0 (s : V_law_ascending) (v : Int) : V_law_ascending := { s with lk_c0 := v }
@[reducible] def V_law_ascending.put_ldraws_here (s : V_law_ascending) (v : (List Int)) : V_law_ascending := { s with ldraws_here := v }
@[reducible] def V_law_ascending.put_lshare (s : V_law_ascending) (v : Int) : V_law_ascending := { s with lshare := v }
def tb_law_ascending : Nat → Slot V_law_ascending
  | 0 => ⟨0, fun s => (own1 MV.int) s.ldraws_here⟩
  | 1 => ⟨1, fun s => (fz MV.int) s.llimit⟩
  | 2 => ⟨2, fun s => (fz MV.int) s.lshare⟩
  | 3 => ⟨3, fun s => (fz MV.int) s.lk_c0⟩
  | _ => ⟨0, fun _ => fz nV ()⟩
abbrev cx_law_ascending : Cx V_law_ascending (List Int) := ⟨tb_law_ascending, 4, [], [0], [0], [0], (fz (lV MV.int))⟩
theorem kp_law_ascending_llimit : Keep tb_law_ascending V_law_ascending.put_llimit 1 [0, 2, 3] := ⟨⟨Nat.ne_of_beq_eq_false rfl, fun _ _ => rfl⟩, ⟨⟨Nat.ne_of_beq_eq_false rfl, fun _ _ => rfl⟩, ⟨⟨Nat.ne_of_beq_eq_false rfl, fun _ _ => rfl⟩, trivial⟩⟩⟩
theorem kp_law_ascending_lk_c0 : Keep tb_law_ascending V_law_ascending.put_lk_c0 3 [0, 1, 2] := ⟨⟨Nat.ne_of_beq_eq_false rfl, fun _ _ => rfl⟩, ⟨⟨Nat.ne_of_beq_eq_false rfl, fun _ _ => rfl⟩, ⟨⟨Nat.ne_of_beq_eq_false rfl, fun _ _ => rfl⟩, trivial⟩⟩⟩
theorem kp_law_ascending_ldraws_here : Keep tb_law_ascending V_law_ascending.put_ldraws_here 0 [1, 2, 3] := ⟨⟨Nat.ne_of_beq_eq_false rfl, fun _ _ => rfl⟩, ⟨⟨Nat.ne_of_beq_eq_false rfl, fun _ _ => rfl⟩, ⟨⟨Nat.ne_of_beq_eq_false rfl, fun _ _ => rfl⟩, trivial⟩⟩⟩
theorem kp_law_ascending_lshare : Keep tb_law_ascending V_law_ascending.put_lshare 2 [0, 1, 3] := ⟨⟨Nat.ne_of_beq_eq_false rfl, fun _ _ => rfl⟩, ⟨⟨Nat.ne_of_beq_eq_false rfl, fun _ _ => rfl⟩, ⟨⟨Nat.ne_of_beq_eq_false rfl, fun _ _ => rfl⟩, trivial⟩⟩⟩
def F_law_ascending : ((List Int) × Unit) → (Int × Int × Unit) → X ((List Int) × Unit) (List Int) := yRun (fun (i : (List Int) × Unit) (a : Int × Int × Unit) => ({ llimit := a.1, lk_c0 := default, ldraws_here := i.1, lshare := a.2.1 } : V_law_ascending)) (fun s => (s.ldraws_here, ())) (none : Option (List Int)) (yRet (xComp (x1o gRng1 (xCs (xV V_law_ascending.llimit) xN)) V_law_ascending.put_lk_c0 (x2 (fun i j : Int => decide (i < j)) (xCall F_law_take (fun s => (V_law_ascending.ldraws_here s, ())) (fun s a => V_law_ascending.put_ldraws_here s a.1) (xCs (xC (10 : Int)) (xC ()))) (xV V_law_ascending.lshare)) (xV V_law_ascending.lk_c0)))
theorem ty_law_ascending : TFun (.io (own1 MV.int) (.fr MV.int (.fr MV.int (.nil))) : PSpec ((List Int) × Unit) (Int × Int × Unit)) m_law_ascending F_law_ascending (fz (lV MV.int)) := by
  unfold m_law_ascending F_law_ascending
  exact tf_mk (c := cx_law_ascending) (D0 := [0, 1, 2]) (D1 := [0])
   (ts_ret (tx_comp (ti_range1 (txa_c (Ty.TP.tx (tp_v (i := 1) rfl rfl (fun _ => rfl))) (Ty.TPA.tx tpa_n))) (tg_nm (D0 := [0, 1, 2]) 3 (kp_law_ascending_lk_c0.sub rfl) (fun _ _ => rfl)) (txt_v (tx_2 o_lt (tx_callK1 (D0 := [3, 1, 2]) 0 ty_law_take (txp_i (txp_f (Ty.TP.tx (tp_c (val := MV.int) rfl)) txp_n)) (fun _ => ⟨rfl, trivial⟩) (fun _ _ => ⟨rfl, trivial⟩) (kp_law_ascending_ldraws_here.sub rfl)) (Ty.TP.tx (tp_v (i := 2) rfl rfl (fun _ => rfl))))) (Ty.TP.tx (tp_v (i := 3) rfl rfl (fun _ => rfl)))))
   (fun _ _ => ⟨⟨rfl, rfl⟩, ⟨⟨rfl, rfl⟩, ⟨⟨rfl, rfl⟩, trivial⟩⟩⟩) (fun _ => ⟨⟨rfl, rfl⟩, trivial⟩) (fun r h => by cases h)
structure V_law_game where
  lcount : Int
  ldraws_here : (List Int)
  lmost : Int
  ltop : Int
  lowners : (List Int)
  lk_c0 : Int
  lpriorities : (List Int)
  lk_c1 : Int
  lshare : Int
  lmoves : (List (List Int))
  lk : Int
  lrow : (List Int)
@[reducible] def V_law_game.put_lcount (s : V_law_game) (v : Int) : V_law_game := { s with lcount := v }
@[reducible] def V_law_game.put_ldraws_here (s : V_law_game) (v : (List Int)) : V_law_game := { s with ldraws_here := v }
@[reducible] def V_law_game.put_lmost (s : V_law_game) (v : Int) : V_law_game := { s with lmost := v }
@[reducible] def V_law_game.put_ltop (s : V_law_game) (v : Int) : V_law_game := { s with ltop := v }
@[reducible] def V_law_game.put_lowners (s : V_law_game) (v : (List Int)) : V_law_game := { s with lowners := v }
@[reducible] def V_law_game.put_lk_c0 (s : V_law_game) (v : Int) : V_law_game := { s with lk_c0 := v }
@[reducible] def V_law_game.put_lpriorities (s : V_law_game) (v : (List Int)) : V_law_game := { s with lpriorities := v }
@[reducible] def V_law_game.put_lk_c1 (s : V_law_game) (v : Int) : V_law_game := { s with lk_c1 := v }
@[reducible] def V_law_game.put_lshare (s : V_law_game) (v : Int) : V_law_game := { s with lshare := v }
@[reducible] def V_law_game.put_lmoves (s : V_law_game) (v : (List (List Int))) : V_law_game := { s with lmoves := v }
@[reducible] def V_law_game.put_lk (s : V_law_game) (v : Int) : V_law_game := { s with lk := v }
@[reducible] def V_law_game.put_lrow (s : V_law_game) (v : (List Int)) : V_law_game := { s with lrow := v }
def tb_law_game : Nat → Slot V_law_game
  | 0 => ⟨0, fun s => (own1 MV.int) s.ldraws_here⟩
  | 1 => ⟨1, fun s => (fz MV.int) s.lmost⟩
  | 2 => ⟨2, fun s => (fz MV.int) s.lcount⟩
  | 3 => ⟨3, fun s => (fz MV.int) s.ltop⟩
  | 4 => ⟨4, fun s => (fz (lV MV.int)) s.lowners⟩
  | 5 => ⟨5, fun s => (fz MV.int) s.lk_c0⟩
  | 6 => ⟨6, fun s => (fz (lV MV.int)) s.lpriorities⟩
  | 7 => ⟨5, fun s => (fz MV.int) s.lk_c1⟩
  | 8 => ⟨7, fun s => (fz MV.int) s.lshare⟩
  | 9 => ⟨8, fun s => (own1 (lV MV.int)) s.lmoves⟩
  | 10 => ⟨9, fun s => (fz (lV MV.int)) s.lrow⟩
  | 11 => ⟨5, fun s => (fz MV.int) s.lk⟩
  | 12 => ⟨8, fun s => (fz (lV (lV MV.int))) s.lmoves⟩
  | _ => ⟨0, fun _ => fz nV ()⟩
abbrev cx_law_game : Cx V_law_game ((List Int) × (List Int) × (List (List Int))) := ⟨tb_law_game, 10, [], [0], [0], [0], (fz (p3 (lV MV.int) (lV MV.int) (lV (lV MV.int))))⟩
theorem kp_law_game_lcount : Keep tb_law_game V_law_game.put_lcount 2 [0, 1, 3, 4, 5, 6, 7, 8, 9, 10, 11, 12] := ⟨⟨Nat.ne_of_beq_eq_false rfl, fun _ _ => rfl⟩, ⟨⟨Nat.ne_of_beq_eq_false rfl, fun _ _ => rfl⟩, ⟨⟨Nat.ne_of_beq_eq_false rfl, fun _ _ => rfl⟩, ⟨⟨Nat.ne_of_beq_eq_false rfl, fun _ _ => rfl⟩, ⟨⟨Nat.ne_of_beq_eq_false rfl, fun _ _ => rfl⟩, ⟨⟨Nat.ne_of_beq_eq_false rfl, fun _ _ => rfl⟩, ⟨⟨Nat.ne_of_beq_eq_false rfl, fun _ _ => rfl⟩, ⟨⟨Nat.ne_of_beq_eq_false rfl, fun _ _ => rfl⟩, ⟨⟨Nat.ne_of_beq_eq_false rfl, fun _ _ => rfl⟩, ⟨⟨Nat.ne_of_beq_eq_false rfl, fun _ _ => rfl⟩, ⟨⟨Nat.ne_of_beq_eq_false rfl, fun _ _ => rfl⟩, ⟨⟨Nat.ne_of_beq_eq_false rfl, fun _ _ => rfl⟩, trivial⟩⟩⟩⟩⟩⟩⟩⟩⟩⟩⟩⟩
theorem kp_law_game_ldraws_here : Keep tb_law_game V_law_game.put_ldraws_here 0 [1, 2, 3, 4, 5, 6, 7, 8, 9, 10, 11, 12] := ⟨⟨Nat.ne_of_beq_eq_false rfl, fun _ _ => rfl⟩, ⟨⟨Nat.ne_of_beq_eq_false rfl, fun _ _ => rfl⟩, ⟨⟨Nat.ne_of_beq_eq_false rfl, fun _ _ => rfl⟩, ⟨⟨Nat.ne_of_beq_eq_false rfl, fun _ _ => rfl⟩, ⟨⟨Nat.ne_of_beq_eq_false rfl, fun _ _ => rfl⟩, ⟨⟨Nat.ne_of_beq_eq_false rfl, fun _ _ => rfl⟩, ⟨⟨Nat.ne_of_beq_eq_false rfl, fun _ _ => rfl⟩, ⟨⟨Nat.ne_of_beq_eq_false rfl, fun _ _ => rfl⟩, ⟨⟨Nat.ne_of_beq_eq_false rfl, fun _ _ => rfl⟩, ⟨⟨Nat.ne_of_beq_eq_false rfl, fun _ _ => rfl⟩, ⟨⟨Nat.ne_of_beq_eq_false rfl, fun _ _ => rfl⟩, ⟨⟨Nat.ne_of_beq_eq_false rfl, fun _ _ => rfl⟩, trivial⟩⟩⟩⟩⟩⟩⟩⟩⟩⟩⟩⟩
theorem kp_law_game_lmost : Keep tb_law_game V_law_game.put_lmost 1 [0, 2, 3, 4, 5, 6, 7, 8, 9, 10, 11, 12] := ⟨⟨Nat.ne_of_beq_eq_false rfl, fun _ _ => rfl⟩, ⟨⟨Nat.ne_of_beq_eq_false rfl, fun _ _ => rfl⟩, ⟨⟨Nat.ne_of_beq_eq_false rfl, fun _ _ => rfl⟩, ⟨⟨Nat.ne_of_beq_eq_false rfl, fun _ _ => rfl⟩, ⟨⟨Nat.ne_of_beq_eq_false rfl, fun _ _ => rfl⟩, ⟨⟨Nat.ne_of_beq_eq_false rfl, fun _ _ => rfl⟩, ⟨⟨Nat.ne_of_beq_eq_false rfl, fun _ _ => rfl⟩, ⟨⟨Nat.ne_of_beq_eq_false rfl, fun _ _ => rfl⟩, ⟨⟨Nat.ne_of_beq_eq_false rfl, fun _ _ => rfl⟩, ⟨⟨Nat.ne_of_beq_eq_false rfl, fun _ _ => rfl⟩, ⟨⟨Nat.ne_of_beq_eq_false rfl, fun _ _ => rfl⟩, ⟨⟨Nat.ne_of_beq_eq_false rfl, fun _ _ => rfl⟩, trivial⟩⟩⟩⟩⟩⟩⟩⟩⟩⟩⟩⟩
theorem kp_law_game_ltop : Keep tb_law_game V_law_game.put_ltop 3 [0, 1, 2, 4, 5, 6, 7, 8, 9, 10, 11, 12] := ⟨⟨Nat.ne_of_beq_eq_false rfl, fun _ _ => rfl⟩, ⟨⟨Nat.ne_of_beq_eq_false rfl, fun _ _ => rfl⟩, ⟨⟨Nat.ne_of_beq_eq_false rfl, fun _ _ => rfl⟩, ⟨⟨Nat.ne_of_beq_eq_false rfl, fun _ _ => rfl⟩, ⟨⟨Nat.ne_of_beq_eq_false rfl, fun _ _ => rfl⟩, ⟨⟨Nat.ne_of_beq_eq_false rfl, fun _ _ => rfl⟩, ⟨⟨Nat.ne_of_beq_eq_false rfl, fun _ _ => rfl⟩, ⟨⟨Nat.ne_of_beq_eq_false rfl, fun _ _ => rfl⟩, ⟨⟨Nat.ne_of_beq_eq_false rfl, fun _ _ => rfl⟩, ⟨⟨Nat.ne_of_beq_eq_false rfl, fun _ _ => rfl⟩, ⟨⟨Nat.ne_of_beq_eq_false rfl, fun _ _ => rfl⟩, ⟨⟨Nat.ne_of_beq_eq_false rfl, fun _ _ => rfl⟩, trivial⟩⟩⟩⟩⟩⟩⟩⟩⟩⟩⟩⟩
theorem kp_law_game_lowners : Keep tb_law_game V_law_game.put_lowners 4 [0, 1, 2, 3, 5, 6, 7, 8, 9, 10, 11, 12] := ⟨⟨Nat.ne_of_beq_eq_false rfl, fun _ _ => rfl⟩, ⟨⟨Nat.ne_of_beq_eq_false rfl, fun _ _ => rfl⟩, ⟨⟨Nat.ne_of_beq_eq_false rfl, fun _ _ => rfl⟩, ⟨⟨Nat.ne_of_beq_eq_false rfl, fun _ _ => rfl⟩, ⟨⟨Nat.ne_of_beq_eq_false rfl, fun _ _ => rfl⟩, ⟨⟨Nat.ne_of_beq_eq_false rfl, fun _ _ => rfl⟩, ⟨⟨Nat.ne_of_beq_eq_false rfl, fun _ _ => rfl⟩, ⟨⟨Nat.ne_of_beq_eq_false rfl, fun _ _ => rfl⟩, ⟨⟨Nat.ne_of_beq_eq_false rfl, fun _ _ => rfl⟩, ⟨⟨Nat.ne_of_beq_eq_false rfl, fun _ _ => rfl⟩, ⟨⟨Nat.ne_of_beq_eq_false rfl, fun _ _ => rfl⟩, ⟨⟨Nat.ne_of_beq_eq_false rfl, fun _ _ => rfl⟩, trivial⟩⟩⟩⟩⟩⟩⟩⟩⟩⟩⟩⟩
theorem kp_law_game_lk_c0 : Keep tb_law_game V_law_game.put_lk_c0 5 [0, 1, 2, 3, 4, 6, 8, 9, 10, 12] := ⟨⟨Nat.ne_of_beq_eq_false rfl, fun _ _ => rfl⟩, ⟨⟨Nat.ne_of_beq_eq_false rfl, fun _ _ => rfl⟩, ⟨⟨Nat.ne_of_beq_eq_false rfl, fun _ _ => rfl⟩, ⟨⟨Nat.ne_of_beq_eq_false rfl, fun _ _ => rfl⟩, ⟨⟨Nat.ne_of_beq_eq_false rfl, fun _ _ => rfl⟩, ⟨⟨Nat.ne_of_beq_eq_false rfl, fun _ _ => rfl⟩, ⟨⟨Nat.ne_of_beq_eq_false rfl, fun _ _ => rfl⟩, ⟨⟨Nat.ne_of_beq_eq_false rfl, fun _ _ => rfl⟩, ⟨⟨Nat.ne_of_beq_eq_false rfl, fun _ _ => rfl⟩, ⟨⟨Nat.ne_of_beq_eq_false rfl, fun _ _ => rfl⟩, trivial⟩⟩⟩⟩⟩⟩⟩⟩⟩⟩
theorem kp_law_game_lpriorities : Keep tb_law_game V_law_game.put_lpriorities 6 [0, 1, 2, 3, 4, 5, 7, 8, 9, 10, 11, 12] := ⟨⟨Nat.ne_of_beq_eq_false rfl, fun _ _ => rfl⟩, ⟨⟨Nat.ne_of_beq_eq_false rfl, fun _ _ => rfl⟩, ⟨⟨Nat.ne_of_beq_eq_false rfl, fun _ _ => rfl⟩, ⟨⟨Nat.ne_of_beq_eq_false rfl, fun _ _ => rfl⟩, ⟨⟨Nat.ne_of_beq_eq_false rfl, fun _ _ => rfl⟩, ⟨⟨Nat.ne_of_beq_eq_false rfl, fun _ _ => rfl⟩, ⟨⟨Nat.ne_of_beq_eq_false rfl, fun _ _ => rfl⟩, ⟨⟨Nat.ne_of_beq_eq_false rfl, fun _ _ => rfl⟩, ⟨⟨Nat.ne_of_beq_eq_false rfl, fun _ _ => rfl⟩, ⟨⟨Nat.ne_of_beq_eq_false rfl, fun _ _ => rfl⟩, ⟨⟨Nat.ne_of_beq_eq_false rfl, fun _ _ => rfl⟩, ⟨⟨Nat.ne_of_beq_eq_false rfl, fun _ _ => rfl⟩, trivial⟩⟩⟩⟩⟩⟩⟩⟩⟩⟩⟩⟩
theorem kp_law_game_lk_c1 : Keep tb_law_game V_law_game.put_lk_c1 5 [0, 1, 2, 3, 4, 6, 8, 9, 10, 12] := ⟨⟨Nat.ne_of_beq_eq_false rfl, fun _ _ => rfl⟩, ⟨⟨Nat.ne_of_beq_eq_false rfl, fun _ _ => rfl⟩, ⟨⟨Nat.ne_of_beq_eq_false rfl, fun _ _ => rfl⟩, ⟨⟨Nat.ne_of_beq_eq_false rfl, fun _ _ => rfl⟩, ⟨⟨Nat.ne_of_beq_eq_false rfl, fun _ _ => rfl⟩, ⟨⟨Nat.ne_of_beq_eq_false rfl, fun _ _ => rfl⟩, ⟨⟨Nat.ne_of_beq_eq_false rfl, fun _ _ => rfl⟩, ⟨⟨Nat.ne_of_beq_eq_false rfl, fun _ _ => rfl⟩, ⟨⟨Nat.ne_of_beq_eq_false rfl, fun _ _ => rfl⟩, ⟨⟨Nat.ne_of_beq_eq_false rfl, fun _ _ => rfl⟩, trivial⟩⟩⟩⟩⟩⟩⟩⟩⟩⟩
theorem kp_law_game_lshare : Keep tb_law_game V_law_game.put_lshare 7 [0, 1, 2, 3, 4, 5, 6, 7, 9, 10, 11, 12] := ⟨⟨Nat.ne_of_beq_eq_false rfl, fun _ _ => rfl⟩, ⟨⟨Nat.ne_of_beq_eq_false rfl, fun _ _ => rfl⟩, ⟨⟨Nat.ne_of_beq_eq_false rfl, fun _ _ => rfl⟩, ⟨⟨Nat.ne_of_beq_eq_false rfl, fun _ _ => rfl⟩, ⟨⟨Nat.ne_of_beq_eq_false rfl, fun _ _ => rfl⟩, ⟨⟨Nat.ne_of_beq_eq_false rfl, fun _ _ => rfl⟩, ⟨⟨Nat.ne_of_beq_eq_false rfl, fun _ _ => rfl⟩, ⟨⟨Nat.ne_of_beq_eq_false rfl, fun _ _ => rfl⟩, ⟨⟨Nat.ne_of_beq_eq_false rfl, fun _ _ => rfl⟩, ⟨⟨Nat.ne_of_beq_eq_false rfl, fun _ _ => rfl⟩, ⟨⟨Nat.ne_of_beq_eq_false rfl, fun _ _ => rfl⟩, ⟨⟨Nat.ne_of_beq_eq_false rfl, fun _ _ => rfl⟩, trivial⟩⟩⟩⟩⟩⟩⟩⟩⟩⟩⟩⟩
theorem kp_law_game_lmoves : Keep tb_law_game V_law_game.put_lmoves 8 [0, 1, 2, 3, 4, 5, 6, 7, 8, 10, 11] := ⟨⟨Nat.ne_of_beq_eq_false rfl, fun _ _ => rfl⟩, ⟨⟨Nat.ne_of_beq_eq_false rfl, fun _ _ => rfl⟩, ⟨⟨Nat.ne_of_beq_eq_false rfl, fun _ _ => rfl⟩, ⟨⟨Nat.ne_of_beq_eq_false rfl, fun _ _ => rfl⟩, ⟨⟨Nat.ne_of_beq_eq_false rfl, fun _ _ => rfl⟩, ⟨⟨Nat.ne_of_beq_eq_false rfl, fun _ _ => rfl⟩, ⟨⟨Nat.ne_of_beq_eq_false rfl, fun _ _ => rfl⟩, ⟨⟨Nat.ne_of_beq_eq_false rfl, fun _ _ => rfl⟩, ⟨⟨Nat.ne_of_beq_eq_false rfl, fun _ _ => rfl⟩, ⟨⟨Nat.ne_of_beq_eq_false rfl, fun _ _ => rfl⟩, ⟨⟨Nat.ne_of_beq_eq_false rfl, fun _ _ => rfl⟩, trivial⟩⟩⟩⟩⟩⟩⟩⟩⟩⟩⟩
theorem kp_law_game_lk : Keep tb_law_game V_law_game.put_lk 5 [0, 1, 2, 3, 4, 6, 8, 9, 10, 12] := ⟨⟨Nat.ne_of_beq_eq_false rfl, fun _ _ => rfl⟩, ⟨⟨Nat.ne_of_beq_eq_false rfl, fun _ _ => rfl⟩, ⟨⟨Nat.ne_of_beq_eq_false rfl, fun _ _ => rfl⟩, ⟨⟨Nat.ne_of_beq_eq_false rfl, fun _ _ => rfl⟩, ⟨⟨Nat.ne_of_beq_eq_false rfl, fun _ _ => rfl⟩, ⟨⟨Nat.ne_of_beq_eq_false rfl, fun _ _ => rfl⟩, ⟨⟨Nat.ne_of_beq_eq_false rfl, fun _ _ => rfl⟩, ⟨⟨Nat.ne_of_beq_eq_false rfl, fun _ _ => rfl⟩, ⟨⟨Nat.ne_of_beq_eq_false rfl, fun _ _ => rfl⟩, ⟨⟨Nat.ne_of_beq_eq_false rfl, fun _ _ => rfl⟩, trivial⟩⟩⟩⟩⟩⟩⟩⟩⟩⟩
theorem kp_law_game_lrow : Keep tb_law_game V_law_game.put_lrow 9 [0, 1, 2, 3, 4, 5, 6, 7, 8, 9, 11, 12] := ⟨⟨Nat.ne_of_beq_eq_false rfl, fun _ _ => rfl⟩, ⟨⟨Nat.ne_of_beq_eq_false rfl, fun _ _ => rfl⟩, ⟨⟨Nat.ne_of_beq_eq_false rfl, fun _ _ => rfl⟩, ⟨⟨Nat.ne_of_beq_eq_false rfl, fun _ _ => rfl⟩, ⟨⟨Nat.ne_of_beq_eq_false rfl, fun _ _ => rfl⟩, ⟨⟨Nat.ne_of_beq_eq_false rfl, fun _ _ => rfl⟩, ⟨⟨Nat.ne_of_beq_eq_false rfl, fun _ _ => rfl⟩, ⟨⟨Nat.ne_of_beq_eq_false rfl, fun _ _ => rfl⟩, ⟨⟨Nat.ne_of_beq_eq_false rfl, fun _ _ => rfl⟩, ⟨⟨Nat.ne_of_beq_eq_false rfl, fun _ _ => rfl⟩, ⟨⟨Nat.ne_of_beq_eq_false rfl, fun _ _ => rfl⟩, ⟨⟨Nat.ne_of_beq_eq_false rfl, fun _ _ => rfl⟩, trivial⟩⟩⟩⟩⟩⟩⟩⟩⟩⟩⟩⟩
def F_law_game : ((List Int) × Unit) → (Int × Unit) → X ((List Int) × Unit) ((List Int) × (List Int) × (List (List Int))) := yRun (fun (i : (List Int) × Unit) (a : Int × Unit) => ({ lcount := default, ldraws_here := i.1, lmost := a.1, ltop := default, lowners := default, lk_c0 := default, lpriorities := default, lk_c1 := default, lshare := default, lmoves := default, lk := default, lrow := default } : V_law_game)) (fun s => (s.ldraws_here, ())) (none : Option ((List Int) × (List Int) × (List (List Int)))) (ySeq (ySet V_law_game.put_lcount (x2 (fun i j : Int => i + j) (xC (1 : Int)) (xCall F_law_take (fun s => (V_law_game.ldraws_here s, ())) (fun s a => V_law_game.put_ldraws_here s a.1) (xCs (xV V_law_game.lmost) (xC ()))))) (ySeq (ySet V_law_game.put_ltop (x2 (fun i j : Int => i + j) (xC (1 : Int)) (xCall F_law_take (fun s => (V_law_game.ldraws_here s, ())) (fun s a => V_law_game.put_ldraws_here s a.1) (xCs (xC (5 : Int)) (xC ()))))) (ySeq (ySet V_law_game.put_lowners (xComp (x1o gRng1 (xCs (xV V_law_game.lcount) xN)) V_law_game.put_lk_c0 xYes (xCall F_law_take (fun s => (V_law_game.ldraws_here s, ())) (fun s a => V_law_game.put_ldraws_here s a.1) (xCs (xC (2 : Int)) (xC ()))))) (ySeq (ySet V_law_game.put_lpriorities (xComp (x1o gRng1 (xCs (xV V_law_game.lcount) xN)) V_law_game.put_lk_c1 xYes (xCall F_law_take (fun s => (V_law_game.ldraws_here s, ())) (fun s a => V_law_game.put_ldraws_here s a.1) (xCs (xV V_law_game.ltop) (xC ()))))) (ySeq (ySet V_law_game.put_lshare (x2 (fun i j : Int => i + j) (xC (2 : Int)) (xCall F_law_take (fun s => (V_law_game.ldraws_here s, ())) (fun s a => V_law_game.put_ldraws_here s a.1) (xCs (xC (4 : Int)) (xC ()))))) (ySeq (ySet V_law_game.put_lmoves (x1 (fun (x : Unit) => ([] : List (List Int))) xN)) (ySeq (yFor (x1o gRng1 (xCs (xV V_law_game.lcount) xN)) V_law_game.put_lk (ySeq (ySet V_law_game.put_lrow (xCall F_law_ascending (fun s => (V_law_game.ldraws_here s, ())) (fun s a => V_law_game.put_ldraws_here s a.1) (xCs (xV V_law_game.lcount) (xCs (xV V_law_game.lshare) (xC ()))))) (ySeq (yIf (x2 (fun a b => if false = true then !decide (a = b) else decide (a = b)) (x1 (fun xs => (xs.length : Int)) (xV V_law_game.lrow)) (xC (0 : Int))) (ySet V_law_game.put_lrow (x1 (fun (x : Int × Unit) => ([x.1] : List Int)) (xCs (xCall F_law_take (fun s => (V_law_game.ldraws_here s, ())) (fun s a => V_law_game.put_ldraws_here s a.1) (xCs (xV V_law_game.lcount) (xC ()))) xN))) yNil) (yExpr (xMeth V_law_game.lmoves V_law_game.put_lmoves gApp (xCs (xV V_law_game.lrow) xN)))))) (yRet (x1 (fun (x : (List Int) × (List Int) × (List (List Int)) × Unit) => (x.1, x.2.1, x.2.2.1)) (xCs (xV V_law_game.lowners) (xCs (xV V_law_game.lpriorities) (xCs (xV V_law_game.lmoves) xN))))))))))))
theorem ty_law_game : TFun (.io (own1 MV.int) (.fr MV.int (.nil)) : PSpec ((List Int) × Unit) (Int × Unit)) m_law_game F_law_game (fz (p3 (lV MV.int) (lV MV.int) (lV (lV MV.int)))) := by
  unfold m_law_game F_law_game
  exact tf_mk (c := cx_law_game) (D0 := [0, 1]) (D1 := [0])
   (ts_seq (ts_set (D0 := [0, 1]) 2 (tx_2 o_add (Ty.TP.tx (tp_c (val := MV.int) rfl)) (tx_callK1 (D0 := [1]) 0 ty_law_take (txp_i (txp_f (Ty.TP.tx (tp_v (i := 1) rfl rfl (fun _ => rfl))) txp_n)) (fun _ => ⟨rfl, trivial⟩) (fun _ _ => ⟨rfl, trivial⟩) (kp_law_game_ldraws_here.sub rfl))) (kp_law_game_lcount.sub rfl) (fun _ _ => rfl)) (ts_seq (ts_set (D0 := [2, 0, 1]) 3 (tx_2 o_add (Ty.TP.tx (tp_c (val := MV.int) rfl)) (tx_callK1 (D0 := [2, 1]) 0 ty_law_take (txp_i (txp_f (Ty.TP.tx (tp_c (val := MV.int) rfl)) txp_n)) (fun _ => ⟨rfl, trivial⟩) (fun _ _ => ⟨rfl, trivial⟩) (kp_law_game_ldraws_here.sub rfl))) (kp_law_game_ltop.sub rfl) (fun _ _ => rfl)) (ts_seq (ts_set (D0 := [3, 2, 0, 1]) 4 (tx_comp (ti_range1 (txa_c (Ty.TP.tx (tp_v (i := 2) rfl rfl (fun _ => rfl))) (Ty.TPA.tx tpa_n))) (tg_nm (D0 := [3, 2, 0, 1]) 5 (kp_law_game_lk_c0.sub rfl) (fun _ _ => rfl)) txt_yes (tx_callK1 (D0 := [5, 3, 2, 1]) 0 ty_law_take (txp_i (txp_f (Ty.TP.tx (tp_c (val := MV.int) rfl)) txp_n)) (fun _ => ⟨rfl, trivial⟩) (fun _ _ => ⟨rfl, trivial⟩) (kp_law_game_ldraws_here.sub rfl))) (kp_law_game_lowners.sub rfl) (fun _ _ => rfl)) (ts_seq (ts_set (D0 := [4, 3, 2, 0, 1]) 6 (tx_comp (ti_range1 (txa_c (Ty.TP.tx (tp_v (i := 2) rfl rfl (fun _ => rfl))) (Ty.TPA.tx tpa_n))) (tg_nm (D0 := [4, 3, 2, 0, 1]) 7 (kp_law_game_lk_c1.sub rfl) (fun _ _ => rfl)) txt_yes (tx_callK1 (D0 := [7, 4, 3, 2, 1]) 0 ty_law_take (txp_i (txp_f (Ty.TP.tx (tp_v (i := 3) rfl rfl (fun _ => rfl))) txp_n)) (fun _ => ⟨rfl, trivial⟩) (fun _ _ => ⟨rfl, trivial⟩) (kp_law_game_ldraws_here.sub rfl))) (kp_law_game_lpriorities.sub rfl) (fun _ _ => rfl)) (ts_seq (ts_set (D0 := [6, 4, 3, 2, 0, 1]) 8 (tx_2 o_add (Ty.TP.tx (tp_c (val := MV.int) rfl)) (tx_callK1 (D0 := [6, 4, 3, 2, 1]) 0 ty_law_take (txp_i (txp_f (Ty.TP.tx (tp_c (val := MV.int) rfl)) txp_n)) (fun _ => ⟨rfl, trivial⟩) (fun _ _ => ⟨rfl, trivial⟩) (kp_law_game_ldraws_here.sub rfl))) (kp_law_game_lshare.sub rfl) (fun _ _ => rfl)) (ts_seq (ts_set (D0 := [8, 6, 4, 3, 2, 0, 1]) 9 (tx_lst (va := (lV MV.int)) (fun _ => rfl) 0 (fun _ => rfl) (Ty.TPA.tx tpa_n)) (kp_law_game_lmoves.sub rfl) (fun _ _ => rfl)) (ts_seq (ts_for (Dl := [9, 8, 6, 4, 3, 2, 0, 1]) (D2 := [10, 11, 9, 8, 6, 4, 3, 2, 0, 1]) (ti_range1 (txa_c (Ty.TP.tx (tp_v (i := 2) rfl rfl (fun _ => rfl))) (Ty.TPA.tx tpa_n))) (tg_nm (D0 := [9, 8, 6, 4, 3, 2, 0, 1]) 11 (kp_law_game_lk.sub rfl) (fun _ _ => rfl)) (ts_seq (ts_set (D0 := [11, 9, 8, 6, 4, 3, 2, 0, 1]) 10 (tx_callK1 (D0 := [11, 9, 8, 6, 4, 3, 2, 1]) 0 ty_law_ascending (txp_i (txp_f (Ty.TP.tx (tp_v (i := 2) rfl rfl (fun _ => rfl))) (txp_f (Ty.TP.tx (tp_v (i := 8) rfl rfl (fun _ => rfl))) txp_n))) (fun _ => ⟨rfl, trivial⟩) (fun _ _ => ⟨rfl, trivial⟩) (kp_law_game_ldraws_here.sub rfl)) (kp_law_game_lrow.sub rfl) (fun _ _ => rfl)) (ts_seq (ts_if (D' := [10, 11, 9, 8, 6, 4, 3, 2, 0, 1]) (txt_v (tx_2 (o_eq (neg := false) dt_int) (Ty.TP.tx (tp_f1 f1_lenL (tp_v (i := 10) rfl rfl (fun _ => rfl)))) (Ty.TP.tx (tp_c (val := MV.int) rfl)))) (ts_set (D0 := [11, 9, 8, 6, 4, 3, 2, 0, 1]) 10 (tx_a (oa_lst (vc := (lV MV.int)) (t := (fun (x : Int × Unit) => ([x.1] : List Int))) (fun _ => rfl) 1 (fun _ => rfl)) (txa_c (tx_callK1 (D0 := [10, 11, 9, 8, 6, 4, 3, 2, 1]) 0 ty_law_take (txp_i (txp_f (Ty.TP.tx (tp_v (i := 2) rfl rfl (fun _ => rfl))) txp_n)) (fun _ => ⟨rfl, trivial⟩) (fun _ _ => ⟨rfl, trivial⟩) (kp_law_game_ldraws_here.sub rfl)) (Ty.TPA.tx tpa_n))) (kp_law_game_lrow.sub rfl) (fun _ _ => rfl)) ts_nil) (ts_expr (tx_meth (D0 := [10, 11, 8, 6, 4, 3, 2, 0, 1]) 9 mo_app (txa_c (Ty.TP.tx (tp_v (i := 10) rfl rfl (fun _ => rfl))) (Ty.TPA.tx tpa_n)) (fun _ => rfl) (fun _ _ => rfl) (kp_law_game_lmoves.sub rfl)))))) (ts_frz (D0 := [8, 6, 4, 3, 2, 0, 1]) 9 12 (ts_ret (tx_a (oa_tup (vc := (p3 (lV MV.int) (lV MV.int) (lV (lV MV.int)))) (t := (fun (x : (List Int) × (List Int) × (List (List Int)) × Unit) => (x.1, x.2.1, x.2.2.1))) (fun _ => rfl) 3 (fun _ => rfl)) (txa_c (Ty.TP.tx (tp_v (i := 4) rfl rfl (fun _ => rfl))) (txa_c (Ty.TP.tx (tp_v (i := 6) rfl rfl (fun _ => rfl))) (txa_c (Ty.TP.tx (tp_v (i := 12) rfl rfl (fun _ => rfl))) (Ty.TPA.tx tpa_n)))))) (fun _ => frz_1 fix_l) rfl rfl (kp_law_game_lmoves.sub rfl : Keep _ _ _ [8, 6, 4, 3, 2, 0, 1]).same))))))))
   (fun _ _ => ⟨⟨rfl, rfl⟩, ⟨⟨rfl, rfl⟩, trivial⟩⟩) (fun _ => ⟨⟨rfl, rfl⟩, trivial⟩) (fun r h => by cases h)
structure V_law_flat where
  lrows : (List (List Int))
  lrow_c0 : (List Int)
@[reducible] def V_law_flat.put_lrows (s : V_law_flat) (v : (List (List Int))) : V_law_flat := { s with lrows := v }
@[reducible] def V_law_flat.put_lrow_c0 (s : V_law_flat) (v : (List Int)) : V_law_flat := { s with lrow_c0 := v }
def tb_law_flat : Nat → Slot V_law_flat
  | 0 => ⟨0, fun s => (fz (lV (lV MV.int))) s.lrows⟩
  | 1 => ⟨1, fun s => (fz (lV MV.int)) s.lrow_c0⟩
  | _ => ⟨0, fun _ => fz nV ()⟩
abbrev cx_law_flat : Cx V_law_flat (List (List Int)) := ⟨tb_law_flat, 2, [], [], [], [], (fz (lV (lV MV.int)))⟩
theorem kp_law_flat_lrows : Keep tb_law_flat V_law_flat.put_lrows 0 [1] := ⟨⟨Nat.ne_of_beq_eq_false rfl, fun _ _ => rfl⟩, trivial⟩
theorem kp_law_flat_lrow_c0 : Keep tb_law_flat V_law_flat.put_lrow_c0 1 [0] := ⟨⟨Nat.ne_of_beq_eq_false rfl, fun _ _ => rfl⟩, trivial⟩
def F_law_flat : (Unit) → ((List (List Int)) × Unit) → X (Unit) (List (List Int)) := yRun (fun (i : Unit) (a : (List (List Int)) × Unit) => ({ lrows := a.1, lrow_c0 := default } : V_law_flat)) (fun s => (())) (none : Option (List (List Int))) (yRet (xComp (xV V_law_flat.lrows) V_law_flat.put_lrow_c0 xYes (x1 (fun xs => xs) (xV V_law_flat.lrow_c0))))
theorem ty_law_flat : TFun (.fr (lV (lV MV.int)) (.nil) : PSpec (Unit) ((List (List Int)) × Unit)) m_law_flat F_law_flat (fz (lV (lV MV.int))) := by
  unfold m_law_flat F_law_flat
  exact tf_mk (c := cx_law_flat) (D0 := [0]) (D1 := [])
   (ts_ret (tx_comp (ti_l (Ty.TP.tx (tp_v (i := 0) rfl rfl (fun _ => rfl)))) (tg_nm (D0 := [0]) 1 (kp_law_flat_lrow_c0.sub rfl) (fun _ _ => rfl)) txt_yes (Ty.TP.tx (tp_f1 (f1_list sq_l) (tp_v (i := 1) rfl rfl (fun _ => rfl))))))
   (fun _ _ => ⟨⟨rfl, rfl⟩, trivial⟩) (fun _ => trivial) (fun r h => by cases h)
structure V_reversed_moves where
  back : (List (List Int))
  moves : (List (List Int))
  c0 : (List Int)
  node : Int
  target : Int
@[reducible] def V_reversed_moves.put_back (s : V_reversed_moves) (v : (List (List Int))) : V_reversed_moves := { s with back := v }
@[reducible] def V_reversed_moves.put_moves (s : V_reversed_moves) (v : (List (List Int))) : V_reversed_moves := { s with moves := v }
@[reducible] def V_reversed_moves.put_c0 (s : V_reversed_moves) (v : (List Int)) : V_reversed_moves := { s with c0 := v }
@[reducible] def V_reversed_moves.put_node (s : V_reversed_moves) (v : Int) : V_reversed_moves := { s with node := v }
@[reducible] def V_reversed_moves.put_target (s : V_reversed_moves) (v : Int) : V_reversed_moves := { s with target := v }
def tb_reversed_moves : Nat → Slot V_reversed_moves
  | 0 => ⟨0, fun s => (fz (tV (tV MV.int))) s.moves⟩
  | 1 => ⟨1, fun s => (own2 MV.int) s.back⟩
  | 2 => ⟨2, fun s => (fz (tV MV.int)) s.c0⟩
  | 3 => ⟨3, fun s => (fz MV.int) s.node⟩
  | 4 => ⟨4, fun s => (fz MV.int) s.target⟩
  | 5 => ⟨1, fun s => (fz (lV (lV MV.int))) s.back⟩
  | _ => ⟨0, fun _ => fz nV ()⟩
abbrev cx_reversed_moves : Cx V_reversed_moves (List (List Int)) := ⟨tb_reversed_moves, 5, [], [], [], [], (fz (lV (lV MV.int)))⟩
theorem kp_reversed_moves_back : Keep tb_reversed_moves V_reversed_moves.put_back 1 [0, 2, 3, 4] := ⟨⟨Nat.ne_of_beq_eq_false rfl, fun _ _ => rfl⟩, ⟨⟨Nat.ne_of_beq_eq_false rfl, fun _ _ => rfl⟩, ⟨⟨Nat.ne_of_beq_eq_false rfl, fun _ _ => rfl⟩, ⟨⟨Nat.ne_of_beq_eq_false rfl, fun _ _ => rfl⟩, trivial⟩⟩⟩⟩
theorem kp_reversed_moves_moves : Keep tb_reversed_moves V_reversed_moves.put_moves 0 [1, 2, 3, 4, 5] := ⟨⟨Nat.ne_of_beq_eq_false rfl, fun _ _ => rfl⟩, ⟨⟨Nat.ne_of_beq_eq_false rfl, fun _ _ => rfl⟩, ⟨⟨Nat.ne_of_beq_eq_false rfl, fun _ _ => rfl⟩, ⟨⟨Nat.ne_of_beq_eq_false rfl, fun _ _ => rfl⟩, ⟨⟨Nat.ne_of_beq_eq_false rfl, fun _ _ => rfl⟩, trivial⟩⟩⟩⟩⟩
theorem kp_reversed_moves_c0 : Keep tb_reversed_moves V_reversed_moves.put_c0 2 [0, 1, 3, 4, 5] := ⟨⟨Nat.ne_of_beq_eq_false rfl, fun _ _ => rfl⟩, ⟨⟨Nat.ne_of_beq_eq_false rfl, fun _ _ => rfl⟩, ⟨⟨Nat.ne_of_beq_eq_false rfl, fun _ _ => rfl⟩, ⟨⟨Nat.ne_of_beq_eq_false rfl, fun _ _ => rfl⟩, ⟨⟨Nat.ne_of_beq_eq_false rfl, fun _ _ => rfl⟩, trivial⟩⟩⟩⟩⟩
theorem kp_reversed_moves_node : Keep tb_reversed_moves V_reversed_moves.put_node 3 [0, 1, 2, 4, 5] := ⟨⟨Nat.ne_of_beq_eq_false rfl, fun _ _ => rfl⟩, ⟨⟨Nat.ne_of_beq_eq_false rfl, fun _ _ => rfl⟩, ⟨⟨Nat.ne_of_beq_eq_false rfl, fun _ _ => rfl⟩, ⟨⟨Nat.ne_of_beq_eq_false rfl, fun _ _ => rfl⟩, ⟨⟨Nat.ne_of_beq_eq_false rfl, fun _ _ => rfl⟩, trivial⟩⟩⟩⟩⟩
theorem kp_reversed_moves_target : Keep tb_reversed_moves V_reversed_moves.put_target 4 [0, 1, 2, 3, 5] := ⟨⟨Nat.ne_of_beq_eq_false rfl, fun _ _ => rfl⟩, ⟨⟨Nat.ne_of_beq_eq_false rfl, fun _ _ => rfl⟩, ⟨⟨Nat.ne_of_beq_eq_false rfl, fun _ _ => rfl⟩, ⟨⟨Nat.ne_of_beq_eq_false rfl, fun _ _ => rfl⟩, ⟨⟨Nat.ne_of_beq_eq_false rfl, fun _ _ => rfl⟩, trivial⟩⟩⟩⟩⟩
def F_reversed_moves : (Unit) → ((List (List Int)) × Unit) → X (Unit) (List (List Int)) := yRun (fun (i : Unit) (a : (List (List Int)) × Unit) => ({ back := default, moves := a.1, c0 := default, node := default, target := default } : V_reversed_moves)) (fun s => (())) (none : Option (List (List Int))) (ySeq (ySet V_reversed_moves.put_back (x1 id (xComp (xV V_reversed_moves.moves) V_reversed_moves.put_c0 xYes (x1 (fun (x : Unit) => ([] : List Int)) xN)))) (ySeq (yFor (x1o gRng1 (xCs (x1 (fun xs => (xs.length : Int)) (xV V_reversed_moves.moves)) xN)) V_reversed_moves.put_node (yFor (x2o gIx (xV V_reversed_moves.moves) (xV V_reversed_moves.node)) V_reversed_moves.put_target (yExpr (xMeth2 V_reversed_moves.back V_reversed_moves.put_back gApp (xV V_reversed_moves.target) (xCs (xV V_reversed_moves.node) xN))))) (yRet (xV V_reversed_moves.back))))
theorem ty_reversed_moves : TFun (.fr (tV (tV MV.int)) (.nil) : PSpec (Unit) ((List (List Int)) × Unit)) m_reversed_moves F_reversed_moves (fz (lV (lV MV.int))) := by
  unfold m_reversed_moves F_reversed_moves
  exact tf_mk (c := cx_reversed_moves) (D0 := [0]) (D1 := [])
   (ts_seq (ts_set (D0 := [0]) 1 (tx_comp2 (ti_t (Ty.TP.tx (tp_v (i := 0) rfl rfl (fun _ => rfl)))) (tg_nm (D0 := [0]) 2 (kp_reversed_moves_c0.sub rfl) (fun _ _ => rfl)) txt_yes (tx_lst (va := MV.int) (fun _ => rfl) 0 (fun _ => rfl) (Ty.TPA.tx tpa_n))) (kp_reversed_moves_back.sub rfl) (fun _ _ => rfl)) (ts_seq (ts_for (Dl := [1, 0]) (D2 := [3, 1, 0]) (ti_range1 (txa_c (Ty.TP.tx (tp_f1 f1_lenT (tp_v (i := 0) rfl rfl (fun _ => rfl)))) (Ty.TPA.tx tpa_n))) (tg_nm (D0 := [1, 0]) 3 (kp_reversed_moves_node.sub rfl) (fun _ _ => rfl)) (ts_for (Dl := [3, 1, 0]) (D2 := [4, 3, 1, 0]) (ti_t (tx_2o (o_ixF sq_t) (Ty.TP.tx (tp_v (i := 0) rfl rfl (fun _ => rfl))) (Ty.TP.tx (tp_v (i := 3) rfl rfl (fun _ => rfl))))) (tg_nm (D0 := [3, 1, 0]) 4 (kp_reversed_moves_target.sub rfl) (fun _ _ => rfl)) (ts_expr (tx_meth2 (D0 := [4, 3, 0]) 1 mo_app (tp_v (i := 4) rfl rfl (fun _ => rfl)) (tpa_c (tp_v (i := 3) rfl rfl (fun _ => rfl)) tpa_n) (fun _ => rfl) (fun _ _ => rfl) (kp_reversed_moves_back.sub rfl))))) (ts_frz (D0 := [0]) 1 5 (ts_ret (Ty.TP.tx (tp_v (i := 5) rfl rfl (fun _ => rfl)))) (fun _ => frz_2 fix_int) rfl rfl (kp_reversed_moves_back.sub rfl : Keep _ _ _ [0]).same)))
   (fun _ _ => ⟨⟨rfl, rfl⟩, trivial⟩) (fun _ => trivial) (fun r h => by cases h)
structure V_Game_init where
  count : Int
  moves : (List (List Int))
  valid : Bool
  owners : (List Int)
  priorities : (List Int)
  owner : Int
  priority : Int
  targets : (List Int)
  last : Int
  target : Int
  self_owners : (List Int)
  self_priorities : (List Int)
  self_moves : (List (List Int))
  targets_c0 : (List Int)
  self_sources : (List (List Int))
@[reducible] def V_Game_init.put_count (s : V_Game_init) (v : Int) : V_Game_init := { s with count := v }
@[reducible] def V_Game_init.put_moves (s : V_Game_init) (v : (List (List Int))) : V_Game_init := { s with moves := v }
@[reducible] def V_Game_init.put_valid (s : V_Game_init) (v : Bool) : V_Game_init := { s with valid := v }
@[reducible] def V_Game_init.put_owners (s : V_Game_init) (v : (List Int)) : V_Game_init := { s with owners := v }
@[reducible] def V_Game_init.put_priorities (s : V_Game_init) (v : (List Int)) : V_Game_init := { s with priorities := v }
@[reducible] def V_Game_init.put_owner (s : V_Game_init) (v : Int) : V_Game_init := { s with owner := v }
@[reducible] def V_Game_init.put_priority (s : V_Game_init) (v : Int) : V_Game_init := { s with priority := v }
@[reducible] def V_Game_init.put_targets (s : V_Game_init) (v : (List Int)) : V_Game_init := { s with targets := v }
@[reducible] def V_Game_init.put_last (s : V_Game_init) (v : Int) : V_Game_init := { s with last := v }
@[reducible] def V_Game_init.put_target (s : V_Game_init) (v : Int) : V_Game_init := { s with target := v }
@[reducible] def V_Game_init.put_self_owners (s : V_Game_init) (v : (List Int)) : V_Game_init := { s with self_owners := v }
@[reducible] def V_Game_init.put_self_priorities (s : V_Game_init) (v : (List Int)) : V_Game_init := { s with self_priorities := v }
@[reducible] def V_Game_init.put_self_moves (s : V_Game_init) (v : (List (List Int))) : V_Game_init := { s with self_moves := v }
@[reducible] def V_Game_init.put_targets_c0 (s : V_Game_init) (v : (List Int)) : V_Game_init := { s with targets_c0 := v }
@[reducible] def V_Game_init.put_self_sources (s : V_Game_init) (v : (List (List Int))) : V_Game_init := { s with self_sources := v }
def tb_Game_init : Nat → Slot V_Game_init
  | 0 => ⟨0, fun s => insP "Game" [] []⟩
  | 1 => ⟨1, fun s => (fz (lV MV.int)) s.owners⟩
  | 2 => ⟨2, fun s => (fz (lV MV.int)) s.priorities⟩
  | 3 => ⟨3, fun s => (fz (lV (lV MV.int))) s.moves⟩
  | 4 => ⟨4, fun s => (fz MV.int) s.count⟩
  | 5 => ⟨5, fun s => (fz MV.bl) s.valid⟩
  | 6 => ⟨6, fun s => (fz MV.int) s.owner⟩
  | 7 => ⟨7, fun s => (fz MV.int) s.priority⟩
  | 8 => ⟨9, fun s => (fz MV.int) s.last⟩
  | 9 => ⟨8, fun s => (fz (lV MV.int)) s.targets⟩
  | 10 => ⟨10, fun s => (fz MV.int) s.target⟩
  | 11 => ⟨0, fun s => insP "Game" ["owners"] [(tV MV.int) s.self_owners]⟩
  | 12 => ⟨0, fun s => insP "Game" ["owners", "priorities"] [(tV MV.int) s.self_owners, (tV MV.int) s.self_priorities]⟩
  | 13 => ⟨0, fun s => insP "Game" ["owners", "priorities", "moves"] [(tV MV.int) s.self_owners, (tV MV.int) s.self_priorities, (tV (tV MV.int)) s.self_moves]⟩
  | 14 => ⟨8, fun s => (fz (lV MV.int)) s.targets_c0⟩
  | 15 => ⟨0, fun s => insP "Game" ["owners", "priorities", "moves", "sources"] [(tV MV.int) s.self_owners, (tV MV.int) s.self_priorities, (tV (tV MV.int)) s.self_moves, (lV (lV MV.int)) s.self_sources]⟩
  | _ => ⟨0, fun _ => fz nV ()⟩
abbrev cx_Game_init : Cx V_Game_init Unit := ⟨tb_Game_init, 11, [], [], [], [0], (fz nV)⟩
theorem kp_Game_init_count : Keep tb_Game_init V_Game_init.put_count 4 [0, 1, 2, 3, 5, 6, 7, 8, 9, 10, 11, 12, 13, 14, 15] := ⟨⟨Nat.ne_of_beq_eq_false rfl, fun _ _ => rfl⟩, ⟨⟨Nat.ne_of_beq_eq_false rfl, fun _ _ => rfl⟩, ⟨⟨Nat.ne_of_beq_eq_false rfl, fun _ _ => rfl⟩, ⟨⟨Nat.ne_of_beq_eq_false rfl, fun _ _ => rfl⟩, ⟨⟨Nat.ne_of_beq_eq_false rfl, fun _ _ => rfl⟩, ⟨⟨Nat.ne_of_beq_eq_false rfl, fun _ _ => rfl⟩, ⟨⟨Nat.ne_of_beq_eq_false rfl, fun _ _ => rfl⟩, ⟨⟨Nat.ne_of_beq_eq_false rfl, fun _ _ => rfl⟩, ⟨⟨Nat.ne_of_beq_eq_false rfl, fun _ _ => rfl⟩, ⟨⟨Nat.ne_of_beq_eq_false rfl, fun _ _ => rfl⟩, ⟨⟨Nat.ne_of_beq_eq_false rfl, fun _ _ => rfl⟩, ⟨⟨Nat.ne_of_beq_eq_false rfl, fun _ _ => rfl⟩, ⟨⟨Nat.ne_of_beq_eq_false rfl, fun _ _ => rfl⟩, ⟨⟨Nat.ne_of_beq_eq_false rfl, fun _ _ => rfl⟩, ⟨⟨Nat.ne_of_beq_eq_false rfl, fun _ _ => rfl⟩, trivial⟩⟩⟩⟩⟩⟩⟩⟩⟩⟩⟩⟩⟩⟩⟩
theorem kp_Game_init_moves : Keep tb_Game_init V_Game_init.put_moves 3 [0, 1, 2, 4, 5, 6, 7, 8, 9, 10, 11, 12, 13, 14, 15] := ⟨⟨Nat.ne_of_beq_eq_false rfl, fun _ _ => rfl⟩, ⟨⟨Nat.ne_of_beq_eq_false rfl, fun _ _ => rfl⟩, ⟨⟨Nat.ne_of_beq_eq_false rfl, fun _ _ => rfl⟩, ⟨⟨Nat.ne_of_beq_eq_false rfl, fun _ _ => rfl⟩, ⟨⟨Nat.ne_of_beq_eq_false rfl, fun _ _ => rfl⟩, ⟨⟨Nat.ne_of_beq_eq_false rfl, fun _ _ => rfl⟩, ⟨⟨Nat.ne_of_beq_eq_false rfl, fun _ _ => rfl⟩, ⟨⟨Nat.ne_of_beq_eq_false rfl, fun _ _ => rfl⟩, ⟨⟨Nat.ne_of_beq_eq_false rfl, fun _ _ => rfl⟩, ⟨⟨Nat.ne_of_beq_eq_false rfl, fun _ _ => rfl⟩, ⟨⟨Nat.ne_of_beq_eq_false rfl, fun _ _ => rfl⟩, ⟨⟨Nat.ne_of_beq_eq_false rfl, fun _ _ => rfl⟩, ⟨⟨Nat.ne_of_beq_eq_false rfl, fun _ _ => rfl⟩, ⟨⟨Nat.ne_of_beq_eq_false rfl, fun _ _ => rfl⟩, ⟨⟨Nat.ne_of_beq_eq_false rfl, fun _ _ => rfl⟩, trivial⟩⟩⟩⟩⟩⟩⟩⟩⟩⟩⟩⟩⟩⟩⟩
theorem kp_Game_init_valid : Keep tb_Game_init V_Game_init.put_valid 5 [0, 1, 2, 3, 4, 6, 7, 8, 9, 10, 11, 12, 13, 14, 15] := ⟨⟨Nat.ne_of_beq_eq_false rfl, fun _ _ => rfl⟩, ⟨⟨Nat.ne_of_beq_eq_false rfl, fun _ _ => rfl⟩, ⟨⟨Nat.ne_of_beq_eq_false rfl, fun _ _ => rfl⟩, ⟨⟨Nat.ne_of_beq_eq_false rfl, fun _ _ => rfl⟩, ⟨⟨Nat.ne_of_beq_eq_false rfl, fun _ _ => rfl⟩, ⟨⟨Nat.ne_of_beq_eq_false rfl, fun _ _ => rfl⟩, ⟨⟨Nat.ne_of_beq_eq_false rfl, fun _ _ => rfl⟩, ⟨⟨Nat.ne_of_beq_eq_false rfl, fun _ _ => rfl⟩, ⟨⟨Nat.ne_of_beq_eq_false rfl, fun _ _ => rfl⟩, ⟨⟨Nat.ne_of_beq_eq_false rfl, fun _ _ => rfl⟩, ⟨⟨Nat.ne_of_beq_eq_false rfl, fun _ _ => rfl⟩, ⟨⟨Nat.ne_of_beq_eq_false rfl, fun _ _ => rfl⟩, ⟨⟨Nat.ne_of_beq_eq_false rfl, fun _ _ => rfl⟩, ⟨⟨Nat.ne_of_beq_eq_false rfl, fun _ _ => rfl⟩, ⟨⟨Nat.ne_of_beq_eq_false rfl, fun _ _ => rfl⟩, trivial⟩⟩⟩⟩⟩⟩⟩⟩⟩⟩⟩⟩⟩⟩⟩
theorem kp_Game_init_owners : Keep tb_Game_init V_Game_init.put_owners 1 [0, 2, 3, 4, 5, 6, 7, 8, 9, 10, 11, 12, 13, 14, 15] := ⟨⟨Nat.ne_of_beq_eq_false rfl, fun _ _ => rfl⟩, ⟨⟨Nat.ne_of_beq_eq_false rfl, fun _ _ => rfl⟩, ⟨⟨Nat.ne_of_beq_eq_false rfl, fun _ _ => rfl⟩, ⟨⟨Nat.ne_of_beq_eq_false rfl, fun _ _ => rfl⟩, ⟨⟨Nat.ne_of_beq_eq_false rfl, fun _ _ => rfl⟩, ⟨⟨Nat.ne_of_beq_eq_false rfl, fun _ _ => rfl⟩, ⟨⟨Nat.ne_of_beq_eq_false rfl, fun _ _ => rfl⟩, ⟨⟨Nat.ne_of_beq_eq_false rfl, fun _ _ => rfl⟩, ⟨⟨Nat.ne_of_beq_eq_false rfl, fun _ _ => rfl⟩, ⟨⟨Nat.ne_of_beq_eq_false rfl, fun _ _ => rfl⟩, ⟨⟨Nat.ne_of_beq_eq_false rfl, fun _ _ => rfl⟩, ⟨⟨Nat.ne_of_beq_eq_false rfl, fun _ _ => rfl⟩, ⟨⟨Nat.ne_of_beq_eq_false rfl, fun _ _ => rfl⟩, ⟨⟨Nat.ne_of_beq_eq_false rfl, fun _ _ => rfl⟩, ⟨⟨Nat.ne_of_beq_eq_false rfl, fun _ _ => rfl⟩, trivial⟩⟩⟩⟩⟩⟩⟩⟩⟩⟩⟩⟩⟩⟩⟩
theorem kp_Game_init_priorities : Keep tb_Game_init V_Game_init.put_priorities 2 [0, 1, 3, 4, 5, 6, 7, 8, 9, 10, 11, 12, 13, 14, 15] := ⟨⟨Nat.ne_of_beq_eq_false rfl, fun _ _ => rfl⟩, ⟨⟨Nat.ne_of_beq_eq_false rfl, fun _ _ => rfl⟩, ⟨⟨Nat.ne_of_beq_eq_false rfl, fun _ _ => rfl⟩, ⟨⟨Nat.ne_of_beq_eq_false rfl, fun _ _ => rfl⟩, ⟨⟨Nat.ne_of_beq_eq_false rfl, fun _ _ => rfl⟩, ⟨⟨Nat.ne_of_beq_eq_false rfl, fun _ _ => rfl⟩, ⟨⟨Nat.ne_of_beq_eq_false rfl, fun _ _ => rfl⟩, ⟨⟨Nat.ne_of_beq_eq_false rfl, fun _ _ => rfl⟩, ⟨⟨Nat.ne_of_beq_eq_false rfl, fun _ _ => rfl⟩, ⟨⟨Nat.ne_of_beq_eq_false rfl, fun _ _ => rfl⟩, ⟨⟨Nat.ne_of_beq_eq_false rfl, fun _ _ => rfl⟩, ⟨⟨Nat.ne_of_beq_eq_false rfl, fun _ _ => rfl⟩, ⟨⟨Nat.ne_of_beq_eq_false rfl, fun _ _ => rfl⟩, ⟨⟨Nat.ne_of_beq_eq_false rfl, fun _ _ => rfl⟩, ⟨⟨Nat.ne_of_beq_eq_false rfl, fun _ _ => rfl⟩, trivial⟩⟩⟩⟩⟩⟩⟩⟩⟩⟩⟩⟩⟩⟩⟩
theorem kp_Game_init_owner : Keep tb_Game_init V_Game_init.put_owner 6 [0, 1, 2, 3, 4, 5, 7, 8, 9, 10, 11, 12, 13, 14, 15] := ⟨⟨Nat.ne_of_beq_eq_false rfl, fun _ _ => rfl⟩, ⟨⟨Nat.ne_of_beq_eq_false rfl, fun _ _ => rfl⟩, ⟨⟨Nat.ne_of_beq_eq_false rfl, fun _ _ => rfl⟩, ⟨⟨Nat.ne_of_beq_eq_false rfl, fun _ _ => rfl⟩, ⟨⟨Nat.ne_of_beq_eq_false rfl, fun _ _ => rfl⟩, ⟨⟨Nat.ne_of_beq_eq_false rfl, fun _ _ => rfl⟩, ⟨⟨Nat.ne_of_beq_eq_false rfl, fun _ _ => rfl⟩, ⟨⟨Nat.ne_of_beq_eq_false rfl, fun _ _ => rfl⟩, ⟨⟨Nat.ne_of_beq_eq_false rfl, fun _ _ => rfl⟩, ⟨⟨Nat.ne_of_beq_eq_false rfl, fun _ _ => rfl⟩, ⟨⟨Nat.ne_of_beq_eq_false rfl, fun _ _ => rfl⟩, ⟨⟨Nat.ne_of_beq_eq_false rfl, fun _ _ => rfl⟩, ⟨⟨Nat.ne_of_beq_eq_false rfl, fun _ _ => rfl⟩, ⟨⟨Nat.ne_of_beq_eq_false rfl, fun _ _ => rfl⟩, ⟨⟨Nat.ne_of_beq_eq_false rfl, fun _ _ => rfl⟩, trivial⟩⟩⟩⟩⟩⟩⟩⟩⟩⟩⟩⟩⟩⟩⟩
theorem kp_Game_init_priority : Keep tb_Game_init V_Game_init.put_priority 7 [0, 1, 2, 3, 4, 5, 6, 8, 9, 10, 11, 12, 13, 14, 15] := ⟨⟨Nat.ne_of_beq_eq_false rfl, fun _ _ => rfl⟩, ⟨⟨Nat.ne_of_beq_eq_false rfl, fun _ _ => rfl⟩, ⟨⟨Nat.ne_of_beq_eq_false rfl, fun _ _ => rfl⟩, ⟨⟨Nat.ne_of_beq_eq_false rfl, fun _ _ => rfl⟩, ⟨⟨Nat.ne_of_beq_eq_false rfl, fun _ _ => rfl⟩, ⟨⟨Nat.ne_of_beq_eq_false rfl, fun _ _ => rfl⟩, ⟨⟨Nat.ne_of_beq_eq_false rfl, fun _ _ => rfl⟩, ⟨⟨Nat.ne_of_beq_eq_false rfl, fun _ _ => rfl⟩, ⟨⟨Nat.ne_of_beq_eq_false rfl, fun _ _ => rfl⟩, ⟨⟨Nat.ne_of_beq_eq_false rfl, fun _ _ => rfl⟩, ⟨⟨Nat.ne_of_beq_eq_false rfl, fun _ _ => rfl⟩, ⟨⟨Nat.ne_of_beq_eq_false rfl, fun _ _ => rfl⟩, ⟨⟨Nat.ne_of_beq_eq_false rfl, fun _ _ => rfl⟩, ⟨⟨Nat.ne_of_beq_eq_false rfl, fun _ _ => rfl⟩, ⟨⟨Nat.ne_of_beq_eq_false rfl, fun _ _ => rfl⟩, trivial⟩⟩⟩⟩⟩⟩⟩⟩⟩⟩⟩⟩⟩⟩⟩
theorem kp_Game_init_targets : Keep tb_Game_init V_Game_init.put_targets 8 [0, 1, 2, 3, 4, 5, 6, 7, 8, 10, 11, 12, 13, 15] := ⟨⟨Nat.ne_of_beq_eq_false rfl, fun _ _ => rfl⟩, ⟨⟨Nat.ne_of_beq_eq_false rfl, fun _ _ => rfl⟩, ⟨⟨Nat.ne_of_beq_eq_false rfl, fun _ _ => rfl⟩, ⟨⟨Nat.ne_of_beq_eq_false rfl, fun _ _ => rfl⟩, ⟨⟨Nat.ne_of_beq_eq_false rfl, fun _ _ => rfl⟩, ⟨⟨Nat.ne_of_beq_eq_false rfl, fun _ _ => rfl⟩, ⟨⟨Nat.ne_of_beq_eq_false rfl, fun _ _ => rfl⟩, ⟨⟨Nat.ne_of_beq_eq_false rfl, fun _ _ => rfl⟩, ⟨⟨Nat.ne_of_beq_eq_false rfl, fun _ _ => rfl⟩, ⟨⟨Nat.ne_of_beq_eq_false rfl, fun _ _ => rfl⟩, ⟨⟨Nat.ne_of_beq_eq_false rfl, fun _ _ => rfl⟩, ⟨⟨Nat.ne_of_beq_eq_false rfl, fun _ _ => rfl⟩, ⟨⟨Nat.ne_of_beq_eq_false rfl, fun _ _ => rfl⟩, ⟨⟨Nat.ne_of_beq_eq_false rfl, fun _ _ => rfl⟩, trivial⟩⟩⟩⟩⟩⟩⟩⟩⟩⟩⟩⟩⟩⟩
theorem kp_Game_init_last : Keep tb_Game_init V_Game_init.put_last 9 [0, 1, 2, 3, 4, 5, 6, 7, 9, 10, 11, 12, 13, 14, 15] := ⟨⟨Nat.ne_of_beq_eq_false rfl, fun _ _ => rfl⟩, ⟨⟨Nat.ne_of_beq_eq_false rfl, fun _ _ => rfl⟩, ⟨⟨Nat.ne_of_beq_eq_false rfl, fun _ _ => rfl⟩, ⟨⟨Nat.ne_of_beq_eq_false rfl, fun _ _ => rfl⟩, ⟨⟨Nat.ne_of_beq_eq_false rfl, fun _ _ => rfl⟩, ⟨⟨Nat.ne_of_beq_eq_false rfl, fun _ _ => rfl⟩, ⟨⟨Nat.ne_of_beq_eq_false rfl, fun _ _ => rfl⟩, ⟨⟨Nat.ne_of_beq_eq_false rfl, fun _ _ => rfl⟩, ⟨⟨Nat.ne_of_beq_eq_false rfl, fun _ _ => rfl⟩, ⟨⟨Nat.ne_of_beq_eq_false rfl, fun _ _ => rfl⟩, ⟨⟨Nat.ne_of_beq_eq_false rfl, fun _ _ => rfl⟩, ⟨⟨Nat.ne_of_beq_eq_false rfl, fun _ _ => rfl⟩, ⟨⟨Nat.ne_of_beq_eq_false rfl, fun _ _ => rfl⟩, ⟨⟨Nat.ne_of_beq_eq_false rfl, fun _ _ => rfl⟩, ⟨⟨Nat.ne_of_beq_eq_false rfl, fun _ _ => rfl⟩, trivial⟩⟩⟩⟩⟩⟩⟩⟩⟩⟩⟩⟩⟩⟩⟩
theorem kp_Game_init_target : Keep tb_Game_init V_Game_init.put_target 10 [0, 1, 2, 3, 4, 5, 6, 7, 8, 9, 11, 12, 13, 14, 15] := ⟨⟨Nat.ne_of_beq_eq_false rfl, fun _ _ => rfl⟩, ⟨⟨Nat.ne_of_beq_eq_false rfl, fun _ _ => rfl⟩, ⟨⟨Nat.ne_of_beq_eq_false rfl, fun _ _ => rfl⟩, ⟨⟨Nat.ne_of_beq_eq_false rfl, fun _ _ => rfl⟩, ⟨⟨Nat.ne_of_beq_eq_false rfl, fun _ _ => rfl⟩, ⟨⟨Nat.ne_of_beq_eq_false rfl, fun _ _ => rfl⟩, ⟨⟨Nat.ne_of_beq_eq_false rfl, fun _ _ => rfl⟩, ⟨⟨Nat.ne_of_beq_eq_false rfl, fun _ _ => rfl⟩, ⟨⟨Nat.ne_of_beq_eq_false rfl, fun _ _ => rfl⟩, ⟨⟨Nat.ne_of_beq_eq_false rfl, fun _ _ => rfl⟩, ⟨⟨Nat.ne_of_beq_eq_false rfl, fun _ _ => rfl⟩, ⟨⟨Nat.ne_of_beq_eq_false rfl, fun _ _ => rfl⟩, ⟨⟨Nat.ne_of_beq_eq_false rfl, fun _ _ => rfl⟩, ⟨⟨Nat.ne_of_beq_eq_false rfl, fun _ _ => rfl⟩, ⟨⟨Nat.ne_of_beq_eq_false rfl, fun _ _ => rfl⟩, trivial⟩⟩⟩⟩⟩⟩⟩⟩⟩⟩⟩⟩⟩⟩⟩
theorem kp_Game_init_self_owners : Keep tb_Game_init V_Game_init.put_self_owners 999 [0, 1, 2, 3, 4, 5, 6, 7, 8, 9, 10, 14] := ⟨⟨Nat.ne_of_beq_eq_false rfl, fun _ _ => rfl⟩, ⟨⟨Nat.ne_of_beq_eq_false rfl, fun _ _ => rfl⟩, ⟨⟨Nat.ne_of_beq_eq_false rfl, fun _ _ => rfl⟩, ⟨⟨Nat.ne_of_beq_eq_false rfl, fun _ _ => rfl⟩, ⟨⟨Nat.ne_of_beq_eq_false rfl, fun _ _ => rfl⟩, ⟨⟨Nat.ne_of_beq_eq_false rfl, fun _ _ => rfl⟩, ⟨⟨Nat.ne_of_beq_eq_false rfl, fun _ _ => rfl⟩, ⟨⟨Nat.ne_of_beq_eq_false rfl, fun _ _ => rfl⟩, ⟨⟨Nat.ne_of_beq_eq_false rfl, fun _ _ => rfl⟩, ⟨⟨Nat.ne_of_beq_eq_false rfl, fun _ _ => rfl⟩, ⟨⟨Nat.ne_of_beq_eq_false rfl, fun _ _ => rfl⟩, ⟨⟨Nat.ne_of_beq_eq_false rfl, fun _ _ => rfl⟩, trivial⟩⟩⟩⟩⟩⟩⟩⟩⟩⟩⟩⟩
theorem kp_Game_init_self_priorities : Keep tb_Game_init V_Game_init.put_self_priorities 999 [0, 1, 2, 3, 4, 5, 6, 7, 8, 9, 10, 11, 14] := ⟨⟨Nat.ne_of_beq_eq_false rfl, fun _ _ => rfl⟩, ⟨⟨Nat.ne_of_beq_eq_false rfl, fun _ _ => rfl⟩, ⟨⟨Nat.ne_of_beq_eq_false rfl, fun _ _ => rfl⟩, ⟨⟨Nat.ne_of_beq_eq_false rfl, fun _ _ => rfl⟩, ⟨⟨Nat.ne_of_beq_eq_false rfl, fun _ _ => rfl⟩, ⟨⟨Nat.ne_of_beq_eq_false rfl, fun _ _ => rfl⟩, ⟨⟨Nat.ne_of_beq_eq_false rfl, fun _ _ => rfl⟩, ⟨⟨Nat.ne_of_beq_eq_false rfl, fun _ _ => rfl⟩, ⟨⟨Nat.ne_of_beq_eq_false rfl, fun _ _ => rfl⟩, ⟨⟨Nat.ne_of_beq_eq_false rfl, fun _ _ => rfl⟩, ⟨⟨Nat.ne_of_beq_eq_false rfl, fun _ _ => rfl⟩, ⟨⟨Nat.ne_of_beq_eq_false rfl, fun _ _ => rfl⟩, ⟨⟨Nat.ne_of_beq_eq_false rfl, fun _ _ => rfl⟩, trivial⟩⟩⟩⟩⟩⟩⟩⟩⟩⟩⟩⟩⟩
theorem kp_Game_init_self_moves : Keep tb_Game_init V_Game_init.put_self_moves 999 [0, 1, 2, 3, 4, 5, 6, 7, 8, 9, 10, 11, 12, 14] := ⟨⟨Nat.ne_of_beq_eq_false rfl, fun _ _ => rfl⟩, ⟨⟨Nat.ne_of_beq_eq_false rfl, fun _ _ => rfl⟩, ⟨⟨Nat.ne_of_beq_eq_false rfl, fun _ _ => rfl⟩, ⟨⟨Nat.ne_of_beq_eq_false rfl, fun _ _ => rfl⟩, ⟨⟨Nat.ne_of_beq_eq_false rfl, fun _ _ => rfl⟩, ⟨⟨Nat.ne_of_beq_eq_false rfl, fun _ _ => rfl⟩, ⟨⟨Nat.ne_of_beq_eq_false rfl, fun _ _ => rfl⟩, ⟨⟨Nat.ne_of_beq_eq_false rfl, fun _ _ => rfl⟩, ⟨⟨Nat.ne_of_beq_eq_false rfl, fun _ _ => rfl⟩, ⟨⟨Nat.ne_of_beq_eq_false rfl, fun _ _ => rfl⟩, ⟨⟨Nat.ne_of_beq_eq_false rfl, fun _ _ => rfl⟩, ⟨⟨Nat.ne_of_beq_eq_false rfl, fun _ _ => rfl⟩, ⟨⟨Nat.ne_of_beq_eq_false rfl, fun _ _ => rfl⟩, ⟨⟨Nat.ne_of_beq_eq_false rfl, fun _ _ => rfl⟩, trivial⟩⟩⟩⟩⟩⟩⟩⟩⟩⟩⟩⟩⟩⟩
theorem kp_Game_init_targets_c0 : Keep tb_Game_init V_Game_init.put_targets_c0 8 [0, 1, 2, 3, 4, 5, 6, 7, 8, 10, 11, 12, 13, 15] := ⟨⟨Nat.ne_of_beq_eq_false rfl, fun _ _ => rfl⟩, ⟨⟨Nat.ne_of_beq_eq_false rfl, fun _ _ => rfl⟩, ⟨⟨Nat.ne_of_beq_eq_false rfl, fun _ _ => rfl⟩, ⟨⟨Nat.ne_of_beq_eq_false rfl, fun _ _ => rfl⟩, ⟨⟨Nat.ne_of_beq_eq_false rfl, fun _ _ => rfl⟩, ⟨⟨Nat.ne_of_beq_eq_false rfl, fun _ _ => rfl⟩, ⟨⟨Nat.ne_of_beq_eq_false rfl, fun _ _ => rfl⟩, ⟨⟨Nat.ne_of_beq_eq_false rfl, fun _ _ => rfl⟩, ⟨⟨Nat.ne_of_beq_eq_false rfl, fun _ _ => rfl⟩, ⟨⟨Nat.ne_of_beq_eq_false rfl, fun _ _ => rfl⟩, ⟨⟨Nat.ne_of_beq_eq_false rfl, fun _ _ => rfl⟩, ⟨⟨Nat.ne_of_beq_eq_false rfl, fun _ _ => rfl⟩, ⟨⟨Nat.ne_of_beq_eq_false rfl, fun _ _ => rfl⟩, ⟨⟨Nat.ne_of_beq_eq_false rfl, fun _ _ => rfl⟩, trivial⟩⟩⟩⟩⟩⟩⟩⟩⟩⟩⟩⟩⟩⟩
theorem kp_Game_init_self_sources : Keep tb_Game_init V_Game_init.put_self_sources 999 [0, 1, 2, 3, 4, 5, 6, 7, 8, 9, 10, 11, 12, 13, 14] := ⟨⟨Nat.ne_of_beq_eq_false rfl, fun _ _ => rfl⟩, ⟨⟨Nat.ne_of_beq_eq_false rfl, fun _ _ => rfl⟩, ⟨⟨Nat.ne_of_beq_eq_false rfl, fun _ _ => rfl⟩, ⟨⟨Nat.ne_of_beq_eq_false rfl, fun _ _ => rfl⟩, ⟨⟨Nat.ne_of_beq_eq_false rfl, fun _ _ => rfl⟩, ⟨⟨Nat.ne_of_beq_eq_false rfl, fun _ _ => rfl⟩, ⟨⟨Nat.ne_of_beq_eq_false rfl, fun _ _ => rfl⟩, ⟨⟨Nat.ne_of_beq_eq_false rfl, fun _ _ => rfl⟩, ⟨⟨Nat.ne_of_beq_eq_false rfl, fun _ _ => rfl⟩, ⟨⟨Nat.ne_of_beq_eq_false rfl, fun _ _ => rfl⟩, ⟨⟨Nat.ne_of_beq_eq_false rfl, fun _ _ => rfl⟩, ⟨⟨Nat.ne_of_beq_eq_false rfl, fun _ _ => rfl⟩, ⟨⟨Nat.ne_of_beq_eq_false rfl, fun _ _ => rfl⟩, ⟨⟨Nat.ne_of_beq_eq_false rfl, fun _ _ => rfl⟩, ⟨⟨Nat.ne_of_beq_eq_false rfl, fun _ _ => rfl⟩, trivial⟩⟩⟩⟩⟩⟩⟩⟩⟩⟩⟩⟩⟩⟩⟩
theorem kp_Game_init_SELF : Keep tb_Game_init (fun (s : V_Game_init) (_ : Unit) => s) 0 [1, 2, 3, 4, 5, 6, 7, 8, 9, 10, 14] := ⟨⟨Nat.ne_of_beq_eq_false rfl, fun _ _ => rfl⟩, ⟨⟨Nat.ne_of_beq_eq_false rfl, fun _ _ => rfl⟩, ⟨⟨Nat.ne_of_beq_eq_false rfl, fun _ _ => rfl⟩, ⟨⟨Nat.ne_of_beq_eq_false rfl, fun _ _ => rfl⟩, ⟨⟨Nat.ne_of_beq_eq_false rfl, fun _ _ => rfl⟩, ⟨⟨Nat.ne_of_beq_eq_false rfl, fun _ _ => rfl⟩, ⟨⟨Nat.ne_of_beq_eq_false rfl, fun _ _ => rfl⟩, ⟨⟨Nat.ne_of_beq_eq_false rfl, fun _ _ => rfl⟩, ⟨⟨Nat.ne_of_beq_eq_false rfl, fun _ _ => rfl⟩, ⟨⟨Nat.ne_of_beq_eq_false rfl, fun _ _ => rfl⟩, ⟨⟨Nat.ne_of_beq_eq_false rfl, fun _ _ => rfl⟩, trivial⟩⟩⟩⟩⟩⟩⟩⟩⟩⟩⟩
def F_Game_init : (List Int) × (List Int) × (List (List Int)) × Unit → X Unit C_Game := yInit (fun (a : (List Int) × (List Int) × (List (List Int)) × Unit) => ({ count := default, moves := a.2.2.1, valid := default, owners := a.1, priorities := a.2.1, owner := default, priority := default, targets := default, last := default, target := default, self_owners := default, self_priorities := default, self_moves := default, targets_c0 := default, self_sources := default } : V_Game_init)) (fun s => (⟨s.self_owners, s.self_priorities, s.self_moves, s.self_sources⟩ : C_Game)) (ySeq (ySet V_Game_init.put_count (x1 (fun xs => (xs.length : Int)) (xV V_Game_init.moves))) (ySeq (ySet V_Game_init.put_valid (xAnd (x2 (fun i j : Int => decide (j ≤ i)) (xV V_Game_init.count) (xC (1 : Int))) (xAnd (x2 (fun a b => if false = true then !decide (a = b) else decide (a = b)) (x1 (fun xs => (xs.length : Int)) (xV V_Game_init.owners)) (xV V_Game_init.count)) (x2 (fun a b => if false = true then !decide (a = b) else decide (a = b)) (x1 (fun xs => (xs.length : Int)) (xV V_Game_init.priorities)) (xV V_Game_init.count))))) (ySeq (yFor (xV V_Game_init.owners) V_Game_init.put_owner (ySet V_Game_init.put_valid (xAnd (xV V_Game_init.valid) (xOr (x2 (fun a b => if false = true then !decide (a = b) else decide (a = b)) (xV V_Game_init.owner) (xC (0 : Int))) (x2 (fun a b => if false = true then !decide (a = b) else decide (a = b)) (xV V_Game_init.owner) (xC (1 : Int))))))) (ySeq (yFor (xV V_Game_init.priorities) V_Game_init.put_priority (ySet V_Game_init.put_valid (xAnd (xV V_Game_init.valid) (x2 (fun i j : Int => decide (j ≤ i)) (xV V_Game_init.priority) (xC (0 : Int)))))) (ySeq (yFor (xV V_Game_init.moves) V_Game_init.put_targets (ySeq (ySet V_Game_init.put_valid (xAnd (xV V_Game_init.valid) (x2 (fun i j : Int => decide (j < i)) (x1 (fun xs => (xs.length : Int)) (xV V_Game_init.targets)) (xC (0 : Int))))) (ySeq (ySet V_Game_init.put_last (x1 (fun i : Int => -i) (xC (1 : Int)))) (yFor (xV V_Game_init.targets) V_Game_init.put_target (ySeq (ySet V_Game_init.put_valid (xAnd (xV V_Game_init.valid) (xCh (fun i j => some ((fun i j : Int => decide (i < j)) i j)) (fun i j => some ((fun i j : Int => decide (i < j)) i j)) (xV V_Game_init.last) (xV V_Game_init.target) (xV V_Game_init.count)))) (ySet V_Game_init.put_last (xV V_Game_init.target))))))) (ySeq (yIf (xNot (xV V_Game_init.valid)) (yRaise "InvalidGame") yNil) (ySeq (ySet V_Game_init.put_self_owners (x1 (fun xs => xs) (xV V_Game_init.owners))) (ySeq (ySet V_Game_init.put_self_priorities (x1 (fun xs => xs) (xV V_Game_init.priorities))) (ySeq (ySet V_Game_init.put_self_moves (x1 (fun xs => xs) (xComp (xV V_Game_init.moves) V_Game_init.put_targets_c0 xYes (x1 (fun xs => xs) (xV V_Game_init.targets_c0))))) (ySet V_Game_init.put_self_sources (xCall F_reversed_moves (fun _ => ()) (fun s _ => s) (xCs (xV V_Game_init.self_moves) (xC ())))))))))))))
theorem ty_Game_init : TMk "Game" m_Game_init (fun (a : (List Int) × (List Int) × (List (List Int)) × Unit) => [(lV MV.int) a.1, (lV MV.int) a.2.1, (lV (lV MV.int)) a.2.2.1]) F_Game_init v_Game := by
  unfold m_Game_init F_Game_init
  exact tmk_mk (c := cx_Game_init) (ps := .fr (lV MV.int) (.fr (lV MV.int) (.fr (lV (lV MV.int)) (.nil)))) (D0 := [0, 1, 2, 3]) (D1 := [15, 5, 4, 1, 2, 3]) (xs := fun s => [(tV MV.int) s.self_owners, (tV MV.int) s.self_priorities, (tV (tV MV.int)) s.self_moves, (lV (lV MV.int)) s.self_sources]) 15
   (ts_seq (ts_set (D0 := [0, 1, 2, 3]) 4 (Ty.TP.tx (tp_f1 f1_lenL (tp_v (i := 3) rfl rfl (fun _ => rfl)))) (kp_Game_init_count.sub rfl) (fun _ _ => rfl)) (ts_seq (ts_set (D0 := [4, 0, 1, 2, 3]) 5 (tx_and (tx_2 o_ge (Ty.TP.tx (tp_v (i := 4) rfl rfl (fun _ => rfl))) (Ty.TP.tx (tp_c (val := MV.int) rfl))) (tx_and (tx_2 (o_eq (neg := false) dt_int) (Ty.TP.tx (tp_f1 f1_lenL (tp_v (i := 1) rfl rfl (fun _ => rfl)))) (Ty.TP.tx (tp_v (i := 4) rfl rfl (fun _ => rfl)))) (tx_2 (o_eq (neg := false) dt_int) (Ty.TP.tx (tp_f1 f1_lenL (tp_v (i := 2) rfl rfl (fun _ => rfl)))) (Ty.TP.tx (tp_v (i := 4) rfl rfl (fun _ => rfl)))))) (kp_Game_init_valid.sub rfl) (fun _ _ => rfl)) (ts_seq (ts_for (Dl := [5, 4, 0, 1, 2, 3]) (D2 := [5, 6, 4, 0, 1, 2, 3]) (ti_l (Ty.TP.tx (tp_v (i := 1) rfl rfl (fun _ => rfl)))) (tg_nm (D0 := [5, 4, 0, 1, 2, 3]) 6 (kp_Game_init_owner.sub rfl) (fun _ _ => rfl)) (ts_set (D0 := [6, 4, 0, 1, 2, 3]) 5 (tx_and (Ty.TP.tx (tp_v (i := 5) rfl rfl (fun _ => rfl))) (tx_or (tx_2 (o_eq (neg := false) dt_int) (Ty.TP.tx (tp_v (i := 6) rfl rfl (fun _ => rfl))) (Ty.TP.tx (tp_c (val := MV.int) rfl))) (tx_2 (o_eq (neg := false) dt_int) (Ty.TP.tx (tp_v (i := 6) rfl rfl (fun _ => rfl))) (Ty.TP.tx (tp_c (val := MV.int) rfl))))) (kp_Game_init_valid.sub rfl) (fun _ _ => rfl))) (ts_seq (ts_for (Dl := [5, 4, 0, 1, 2, 3]) (D2 := [5, 7, 4, 0, 1, 2, 3]) (ti_l (Ty.TP.tx (tp_v (i := 2) rfl rfl (fun _ => rfl)))) (tg_nm (D0 := [5, 4, 0, 1, 2, 3]) 7 (kp_Game_init_priority.sub rfl) (fun _ _ => rfl)) (ts_set (D0 := [7, 4, 0, 1, 2, 3]) 5 (tx_and (Ty.TP.tx (tp_v (i := 5) rfl rfl (fun _ => rfl))) (tx_2 o_ge (Ty.TP.tx (tp_v (i := 7) rfl rfl (fun _ => rfl))) (Ty.TP.tx (tp_c (val := MV.int) rfl)))) (kp_Game_init_valid.sub rfl) (fun _ _ => rfl))) (ts_seq (ts_for (Dl := [5, 4, 0, 1, 2, 3]) (D2 := [8, 5, 9, 4, 0, 1, 2, 3]) (ti_l (Ty.TP.tx (tp_v (i := 3) rfl rfl (fun _ => rfl)))) (tg_nm (D0 := [5, 4, 0, 1, 2, 3]) 9 (kp_Game_init_targets.sub rfl) (fun _ _ => rfl)) (ts_seq (ts_set (D0 := [9, 4, 0, 1, 2, 3]) 5 (tx_and (Ty.TP.tx (tp_v (i := 5) rfl rfl (fun _ => rfl))) (tx_2 o_gt (Ty.TP.tx (tp_f1 f1_lenL (tp_v (i := 9) rfl rfl (fun _ => rfl)))) (Ty.TP.tx (tp_c (val := MV.int) rfl)))) (kp_Game_init_valid.sub rfl) (fun _ _ => rfl)) (ts_seq (ts_set (D0 := [5, 9, 4, 0, 1, 2, 3]) 8 (tx_1 o_neg (Ty.TP.tx (tp_c (val := MV.int) rfl))) (kp_Game_init_last.sub rfl) (fun _ _ => rfl)) (ts_for (Dl := [8, 5, 9, 4, 0, 1, 2, 3]) (D2 := [8, 5, 10, 9, 4, 0, 1, 2, 3]) (ti_l (Ty.TP.tx (tp_v (i := 9) rfl rfl (fun _ => rfl)))) (tg_nm (D0 := [8, 5, 9, 4, 0, 1, 2, 3]) 10 (kp_Game_init_target.sub rfl) (fun _ _ => rfl)) (ts_seq (ts_set (D0 := [10, 8, 9, 4, 0, 1, 2, 3]) 5 (tx_and (Ty.TP.tx (tp_v (i := 5) rfl rfl (fun _ => rfl))) (tx_ch o_lt o_lt (Ty.TP.tx (tp_v (i := 8) rfl rfl (fun _ => rfl))) (Ty.TP.tx (tp_v (i := 10) rfl rfl (fun _ => rfl))) (Ty.TP.tx (tp_v (i := 4) rfl rfl (fun _ => rfl))))) (kp_Game_init_valid.sub rfl) (fun _ _ => rfl)) (ts_set (D0 := [5, 10, 9, 4, 0, 1, 2, 3]) 8 (Ty.TP.tx (tp_v (i := 10) rfl rfl (fun _ => rfl))) (kp_Game_init_last.sub rfl) (fun _ _ => rfl))))))) (ts_seq (ts_if (D' := [5, 4, 0, 1, 2, 3]) (D1 := [5, 4, 0, 1, 2, 3]) (txt_not (txt_v (Ty.TP.tx (tp_v (i := 5) rfl rfl (fun _ => rfl))))) ts_raise ts_nil) (ts_seq (ts_fld (D0 := [5, 4, 1, 2, 3]) 0 11 (Ty.TP.tx (tp_f1 (Op1.rd f1_tupL) (tp_v (i := 1) rfl rfl (fun _ => rfl)))) (fun _ => rfl) (fun _ _ => rfl) (by decide +kernel) (by decide +kernel) (by decide) (kp_Game_init_self_owners.sub rfl) (kp_Game_init_SELF.sub rfl : Keep _ _ 0 [5, 4, 1, 2, 3]).same) (ts_seq (ts_fld (D0 := [5, 4, 1, 2, 3]) 11 12 (Ty.TP.tx (tp_f1 (Op1.rd f1_tupL) (tp_v (i := 2) rfl rfl (fun _ => rfl)))) (fun _ => rfl) (fun _ _ => rfl) (by decide +kernel) (by decide +kernel) (by decide) (kp_Game_init_self_priorities.sub rfl) (kp_Game_init_SELF.sub rfl : Keep _ _ 0 [5, 4, 1, 2, 3]).same) (ts_seq (ts_fld (D0 := [5, 4, 1, 2, 3]) 12 13 (tx_f1 f1_tupL (tx_comp (ti_l (Ty.TP.tx (tp_v (i := 3) rfl rfl (fun _ => rfl)))) (tg_nm (D0 := [12, 5, 4, 1, 2, 3]) 14 (kp_Game_init_targets_c0.sub rfl) (fun _ _ => rfl)) txt_yes (Ty.TP.tx (tp_f1 (Op1.rd f1_tupL) (tp_v (i := 14) rfl rfl (fun _ => rfl)))))) (fun _ => rfl) (fun _ _ => rfl) (by decide +kernel) (by decide +kernel) (by decide) (kp_Game_init_self_moves.sub rfl) (kp_Game_init_SELF.sub rfl : Keep _ _ 0 [5, 4, 1, 2, 3]).same) (ts_fld (D0 := [5, 4, 1, 2, 3]) 13 15 (tx_call ty_reversed_moves (txp_f (Ty.TP.tx (tp_self 13 (fun _ => rfl) (by decide +kernel) (fun _ => rfl))) txp_n)) (fun _ => rfl) (fun _ _ => rfl) (by decide +kernel) (by decide +kernel) (by decide) (kp_Game_init_self_sources.sub rfl) (kp_Game_init_SELF.sub rfl : Keep _ _ 0 [5, 4, 1, 2, 3]).same))))))))))
   (fun _ => ⟨⟨rfl, rfl⟩, ⟨⟨rfl, rfl⟩, ⟨⟨rfl, rfl⟩, ⟨⟨rfl, rfl⟩, trivial⟩⟩⟩⟩) (fun _ _ => ⟨_, rfl, ⟨_, rfl, ⟨_, rfl, ⟨rfl, rfl⟩⟩⟩⟩) (fun _ => rfl) (fun _ => rfl)
structure V_chosen_moves where
  moves : (List (List Int))
  game : C_Game
  position : Int
  player : Int
  choices : (List Int)
@[reducible] def V_chosen_moves.put_moves (s : V_chosen_moves) (v : (List (List Int))) : V_chosen_moves := { s with moves := v }
@[reducible] def V_chosen_moves.put_game (s : V_chosen_moves) (v : C_Game) : V_chosen_moves := { s with game := v }
@[reducible] def V_chosen_moves.put_position (s : V_chosen_moves) (v : Int) : V_chosen_moves := { s with position := v }
@[reducible] def V_chosen_moves.put_player (s : V_chosen_moves) (v : Int) : V_chosen_moves := { s with player := v }
@[reducible] def V_chosen_moves.put_choices (s : V_chosen_moves) (v : (List Int)) : V_chosen_moves := { s with choices := v }
def tb_chosen_moves : Nat → Slot V_chosen_moves
  | 0 => ⟨0, fun s => (fz v_Game) s.game⟩
  | 1 => ⟨1, fun s => (fz MV.int) s.player⟩
  | 2 => ⟨2, fun s => (fz (lV MV.int)) s.choices⟩
  | 3 => ⟨3, fun s => (own1 (lV MV.int)) s.moves⟩
  | 4 => ⟨4, fun s => (fz MV.int) s.position⟩
  | _ => ⟨0, fun _ => fz nV ()⟩
abbrev cx_chosen_moves : Cx V_chosen_moves (List (List Int)) := ⟨tb_chosen_moves, 5, [], [], [], [], (own1 (lV MV.int))⟩
theorem kp_chosen_moves_moves : Keep tb_chosen_moves V_chosen_moves.put_moves 3 [0, 1, 2, 4] := ⟨⟨Nat.ne_of_beq_eq_false rfl, fun _ _ => rfl⟩, ⟨⟨Nat.ne_of_beq_eq_false rfl, fun _ _ => rfl⟩, ⟨⟨Nat.ne_of_beq_eq_false rfl, fun _ _ => rfl⟩, ⟨⟨Nat.ne_of_beq_eq_false rfl, fun _ _ => rfl⟩, trivial⟩⟩⟩⟩
theorem kp_chosen_moves_game : Keep tb_chosen_moves V_chosen_moves.put_game 0 [1, 2, 3, 4] := ⟨⟨Nat.ne_of_beq_eq_false rfl, fun _ _ => rfl⟩, ⟨⟨Nat.ne_of_beq_eq_false rfl, fun _ _ => rfl⟩, ⟨⟨Nat.ne_of_beq_eq_false rfl, fun _ _ => rfl⟩, ⟨⟨Nat.ne_of_beq_eq_false rfl, fun _ _ => rfl⟩, trivial⟩⟩⟩⟩
theorem kp_chosen_moves_position : Keep tb_chosen_moves V_chosen_moves.put_position 4 [0, 1, 2, 3] := ⟨⟨Nat.ne_of_beq_eq_false rfl, fun _ _ => rfl⟩, ⟨⟨Nat.ne_of_beq_eq_false rfl, fun _ _ => rfl⟩, ⟨⟨Nat.ne_of_beq_eq_false rfl, fun _ _ => rfl⟩, ⟨⟨Nat.ne_of_beq_eq_false rfl, fun _ _ => rfl⟩, trivial⟩⟩⟩⟩
theorem kp_chosen_moves_player : Keep tb_chosen_moves V_chosen_moves.put_player 1 [0, 2, 3, 4] := ⟨⟨Nat.ne_of_beq_eq_false rfl, fun _ _ => rfl⟩, ⟨⟨Nat.ne_of_beq_eq_false rfl, fun _ _ => rfl⟩, ⟨⟨Nat.ne_of_beq_eq_false rfl, fun _ _ => rfl⟩, ⟨⟨Nat.ne_of_beq_eq_false rfl, fun _ _ => rfl⟩, trivial⟩⟩⟩⟩
theorem kp_chosen_moves_choices : Keep tb_chosen_moves V_chosen_moves.put_choices 2 [0, 1, 3, 4] := ⟨⟨Nat.ne_of_beq_eq_false rfl, fun _ _ => rfl⟩, ⟨⟨Nat.ne_of_beq_eq_false rfl, fun _ _ => rfl⟩, ⟨⟨Nat.ne_of_beq_eq_false rfl, fun _ _ => rfl⟩, ⟨⟨Nat.ne_of_beq_eq_false rfl, fun _ _ => rfl⟩, trivial⟩⟩⟩⟩
def F_chosen_moves : (Unit) → (C_Game × Int × (List Int) × Unit) → X (Unit) (List (List Int)) := yRun (fun (i : Unit) (a : C_Game × Int × (List Int) × Unit) => ({ moves := default, game := a.1, position := default, player := a.2.1, choices := a.2.2.1 } : V_chosen_moves)) (fun s => (())) (none : Option (List (List Int))) (ySeq (ySet V_chosen_moves.put_moves (x1 (fun (x : Unit) => ([] : List (List Int))) xN)) (ySeq (yFor (x1o gRng1 (xCs (x1 (fun xs => (xs.length : Int)) (x1 C_Game.moves (xV V_chosen_moves.game))) xN)) V_chosen_moves.put_position (yIf (x2 (fun a b => if true = true then !decide (a = b) else decide (a = b)) (x2o gIx (x1 C_Game.owners (xV V_chosen_moves.game)) (xV V_chosen_moves.position)) (xV V_chosen_moves.player)) (yExpr (xMeth V_chosen_moves.moves V_chosen_moves.put_moves gApp (xCs (x1 (fun xs => xs) (x2o gIx (x1 C_Game.moves (xV V_chosen_moves.game)) (xV V_chosen_moves.position))) xN))) (yIf (x2 (fun i j : Int => decide (i < j)) (x2o gIx (xV V_chosen_moves.choices) (xV V_chosen_moves.position)) (xC (0 : Int))) (yExpr (xMeth V_chosen_moves.moves V_chosen_moves.put_moves gApp (xCs (x1 (fun (x : Unit) => ([] : List Int)) xN) xN))) (yExpr (xMeth V_chosen_moves.moves V_chosen_moves.put_moves gApp (xCs (x1 (fun (x : Int × Unit) => ([x.1] : List Int)) (xCs (x2o gIx (xV V_chosen_moves.choices) (xV V_chosen_moves.position)) xN)) xN)))))) (yRet (xV V_chosen_moves.moves))))
theorem ty_chosen_moves : TFun (.fr v_Game (.fr MV.int (.fr (lV MV.int) (.nil))) : PSpec (Unit) (C_Game × Int × (List Int) × Unit)) m_chosen_moves F_chosen_moves (own1 (lV MV.int)) := by
  unfold m_chosen_moves F_chosen_moves
  exact tf_mk (c := cx_chosen_moves) (D0 := [0, 1, 2]) (D1 := [])
   (ts_seq (ts_set (D0 := [0, 1, 2]) 3 (tx_lst (va := (lV MV.int)) (fun _ => rfl) 0 (fun _ => rfl) (Ty.TPA.tx tpa_n)) (kp_chosen_moves_moves.sub rfl) (fun _ _ => rfl)) (ts_seq (ts_for (Dl := [3, 0, 1, 2]) (D2 := [4, 3, 0, 1, 2]) (ti_range1 (txa_c (Ty.TP.tx (tp_f1 f1_lenT (tp_1 (Op1.rd (o_fld (vb := (tV (tV MV.int))) (pr := C_Game.moves) (fun _ _ => f_fldT rfl (by decide +kernel) rfl))) (tp_v (i := 0) rfl rfl (fun _ => rfl))))) (Ty.TPA.tx tpa_n))) (tg_nm (D0 := [3, 0, 1, 2]) 4 (kp_chosen_moves_position.sub rfl) (fun _ _ => rfl)) (ts_if (D' := [4, 3, 0, 1, 2]) (txt_v (tx_2 (o_eq (neg := true) dt_int) (tx_2o (o_ixF sq_t) (tx_1 (o_fld (vb := (tV MV.int)) (pr := C_Game.owners) (fun _ _ => f_fldT rfl (by decide +kernel) rfl)) (Ty.TP.tx (tp_v (i := 0) rfl rfl (fun _ => rfl)))) (Ty.TP.tx (tp_v (i := 4) rfl rfl (fun _ => rfl)))) (Ty.TP.tx (tp_v (i := 1) rfl rfl (fun _ => rfl))))) (ts_expr (tx_meth (D0 := [4, 0, 1, 2]) 3 mo_app (txa_c (Ty.TP.tx (tp_f1 (f1_list sq_t) (tp_2o (o_ix sq_t) (tp_1 (Op1.rd (o_fld (vb := (tV (tV MV.int))) (pr := C_Game.moves) (fun _ _ => f_fldT rfl (by decide +kernel) rfl))) (tp_v (i := 0) rfl rfl (fun _ => rfl))) (tp_v (i := 4) rfl rfl (fun _ => rfl))))) (Ty.TPA.tx tpa_n)) (fun _ => rfl) (fun _ _ => rfl) (kp_chosen_moves_moves.sub rfl))) (ts_if (D' := [4, 3, 0, 1, 2]) (txt_v (tx_2 o_lt (tx_2o (o_ixF sq_l) (Ty.TP.tx (tp_v (i := 2) rfl rfl (fun _ => rfl))) (Ty.TP.tx (tp_v (i := 4) rfl rfl (fun _ => rfl)))) (Ty.TP.tx (tp_c (val := MV.int) rfl)))) (ts_expr (tx_meth (D0 := [4, 0, 1, 2]) 3 mo_app (txa_c (tx_a (oa_lst (vc := (lV MV.int)) (t := (fun (x : Unit) => ([] : List Int))) (fun _ => rfl) 0 (fun _ => rfl)) (Ty.TPA.tx tpa_n)) (Ty.TPA.tx tpa_n)) (fun _ => rfl) (fun _ _ => rfl) (kp_chosen_moves_moves.sub rfl))) (ts_expr (tx_meth (D0 := [4, 0, 1, 2]) 3 mo_app (txa_c (tx_a (oa_lst (vc := (lV MV.int)) (t := (fun (x : Int × Unit) => ([x.1] : List Int))) (fun _ => rfl) 1 (fun _ => rfl)) (txa_c (tx_2o (o_ixF sq_l) (Ty.TP.tx (tp_v (i := 2) rfl rfl (fun _ => rfl))) (Ty.TP.tx (tp_v (i := 4) rfl rfl (fun _ => rfl)))) (Ty.TPA.tx tpa_n))) (Ty.TPA.tx tpa_n)) (fun _ => rfl) (fun _ _ => rfl) (kp_chosen_moves_moves.sub rfl)))))) (ts_retO 3 (fun _ => rfl))))
   (fun _ _ => ⟨⟨rfl, rfl⟩, ⟨⟨rfl, rfl⟩, ⟨⟨rfl, rfl⟩, trivial⟩⟩⟩) (fun _ => trivial) (fun r h => by cases h)
structure V_reachable where
  seen : (List Bool)
  moves : (List (List Int))
  stack : (List Int)
  starts : (List Int)
  node : Int
  target : Int
@[reducible] def V_reachable.put_seen (s : V_reachable) (v : (List Bool)) : V_reachable := { s with seen := v }
@[reducible] def V_reachable.put_moves (s : V_reachable) (v : (List (List Int))) : V_reachable := { s with moves := v }
@[reducible] def V_reachable.put_stack (s : V_reachable) (v : (List Int)) : V_reachable := { s with stack := v }
@[reducible] def V_reachable.put_starts (s : V_reachable) (v : (List Int)) : V_reachable := { s with starts := v }
@[reducible] def V_reachable.put_node (s : V_reachable) (v : Int) : V_reachable := { s with node := v }
@[reducible] def V_reachable.put_target (s : V_reachable) (v : Int) : V_reachable := { s with target := v }
def tb_reachable : Nat → Slot V_reachable
  | 0 => ⟨0, fun s => (own1 (lV MV.int)) s.moves⟩
  | 1 => ⟨1, fun s => (fz (lV MV.int)) s.starts⟩
  | 2 => ⟨2, fun s => (own1 MV.bl) s.seen⟩
  | 3 => ⟨3, fun s => (own1 MV.int) s.stack⟩
  | 4 => ⟨4, fun s => (fz MV.int) s.node⟩
  | 5 => ⟨5, fun s => (fz MV.int) s.target⟩
  | 6 => ⟨2, fun s => (fz (lV MV.bl)) s.seen⟩
  | _ => ⟨0, fun _ => fz nV ()⟩
abbrev cx_reachable : Cx V_reachable (List Bool) := ⟨tb_reachable, 6, [], [0], [0], [0], (fz (lV MV.bl))⟩
theorem kp_reachable_seen : Keep tb_reachable V_reachable.put_seen 2 [0, 1, 3, 4, 5] := ⟨⟨Nat.ne_of_beq_eq_false rfl, fun _ _ => rfl⟩, ⟨⟨Nat.ne_of_beq_eq_false rfl, fun _ _ => rfl⟩, ⟨⟨Nat.ne_of_beq_eq_false rfl, fun _ _ => rfl⟩, ⟨⟨Nat.ne_of_beq_eq_false rfl, fun _ _ => rfl⟩, ⟨⟨Nat.ne_of_beq_eq_false rfl, fun _ _ => rfl⟩, trivial⟩⟩⟩⟩⟩
theorem kp_reachable_moves : Keep tb_reachable V_reachable.put_moves 0 [1, 2, 3, 4, 5, 6] := ⟨⟨Nat.ne_of_beq_eq_false rfl, fun _ _ => rfl⟩, ⟨⟨Nat.ne_of_beq_eq_false rfl, fun _ _ => rfl⟩, ⟨⟨Nat.ne_of_beq_eq_false rfl, fun _ _ => rfl⟩, ⟨⟨Nat.ne_of_beq_eq_false rfl, fun _ _ => rfl⟩, ⟨⟨Nat.ne_of_beq_eq_false rfl, fun _ _ => rfl⟩, ⟨⟨Nat.ne_of_beq_eq_false rfl, fun _ _ => rfl⟩, trivial⟩⟩⟩⟩⟩⟩
theorem kp_reachable_stack : Keep tb_reachable V_reachable.put_stack 3 [0, 1, 2, 4, 5, 6] := ⟨⟨Nat.ne_of_beq_eq_false rfl, fun _ _ => rfl⟩, ⟨⟨Nat.ne_of_beq_eq_false rfl, fun _ _ => rfl⟩, ⟨⟨Nat.ne_of_beq_eq_false rfl, fun _ _ => rfl⟩, ⟨⟨Nat.ne_of_beq_eq_false rfl, fun _ _ => rfl⟩, ⟨⟨Nat.ne_of_beq_eq_false rfl, fun _ _ => rfl⟩, ⟨⟨Nat.ne_of_beq_eq_false rfl, fun _ _ => rfl⟩, trivial⟩⟩⟩⟩⟩⟩
theorem kp_reachable_starts : Keep tb_reachable V_reachable.put_starts 1 [0, 2, 3, 4, 5, 6] := ⟨⟨Nat.ne_of_beq_eq_false rfl, fun _ _ => rfl⟩, ⟨⟨Nat.ne_of_beq_eq_false rfl, fun _ _ => rfl⟩, ⟨⟨Nat.ne_of_beq_eq_false rfl, fun _ _ => rfl⟩, ⟨⟨Nat.ne_of_beq_eq_false rfl, fun _ _ => rfl⟩, ⟨⟨Nat.ne_of_beq_eq_false rfl, fun _ _ => rfl⟩, ⟨⟨Nat.ne_of_beq_eq_false rfl, fun _ _ => rfl⟩, trivial⟩⟩⟩⟩⟩⟩
theorem kp_reachable_node : Keep tb_reachable V_reachable.put_node 4 [0, 1, 2, 3, 5, 6] := ⟨⟨Nat.ne_of_beq_eq_false rfl, fun _ _ => rfl⟩, ⟨⟨Nat.ne_of_beq_eq_false rfl, fun _ _ => rfl⟩, ⟨⟨Nat.ne_of_beq_eq_false rfl, fun _ _ => rfl⟩, ⟨⟨Nat.ne_of_beq_eq_false rfl, fun _ _ => rfl⟩, ⟨⟨Nat.ne_of_beq_eq_false rfl, fun _ _ => rfl⟩, ⟨⟨Nat.ne_of_beq_eq_false rfl, fun _ _ => rfl⟩, trivial⟩⟩⟩⟩⟩⟩
theorem kp_reachable_target : Keep tb_reachable V_reachable.put_target 5 [0, 1, 2, 3, 4, 6] := ⟨⟨Nat.ne_of_beq_eq_false rfl, fun _ _ => rfl⟩, ⟨⟨Nat.ne_of_beq_eq_false rfl, fun _ _ => rfl⟩, ⟨⟨Nat.ne_of_beq_eq_false rfl, fun _ _ => rfl⟩, ⟨⟨Nat.ne_of_beq_eq_false rfl, fun _ _ => rfl⟩, ⟨⟨Nat.ne_of_beq_eq_false rfl, fun _ _ => rfl⟩, ⟨⟨Nat.ne_of_beq_eq_false rfl, fun _ _ => rfl⟩, trivial⟩⟩⟩⟩⟩⟩
def F_reachable : ((List (List Int)) × Unit) → ((List Int) × Unit) → X ((List (List Int)) × Unit) (List Bool) := yRun (fun (i : (List (List Int)) × Unit) (a : (List Int) × Unit) => ({ seen := default, moves := i.1, stack := default, starts := a.1, node := default, target := default } : V_reachable)) (fun s => (s.moves, ())) (none : Option (List Bool)) (ySeq (ySet V_reachable.put_seen (x1 id (x2o gRep (x1 (fun (x : Bool × Unit) => ([x.1] : List Bool)) (xCs (xC false) xN)) (x1 (fun xs => (xs.length : Int)) (xV V_reachable.moves))))) (ySeq (ySet V_reachable.put_stack (x1 (fun (x : Unit) => ([] : List Int)) xN)) (ySeq (yFor (xV V_reachable.starts) V_reachable.put_node (yIf (xNot (x2o gIx (xV V_reachable.seen) (xV V_reachable.node))) (ySeq (ySetI V_reachable.seen V_reachable.put_seen (xC true) (xV V_reachable.node)) (yExpr (xMeth V_reachable.stack V_reachable.put_stack gApp (xCs (xV V_reachable.node) xN)))) yNil)) (ySeq (yWhile (x2 (fun i j : Int => decide (j < i)) (x1 (fun xs => (xs.length : Int)) (xV V_reachable.stack)) (xC (0 : Int))) (yFor (xIxV V_reachable.moves (xMeth V_reachable.stack V_reachable.put_stack gPop xN)) V_reachable.put_target (yIf (xNot (x2o gIx (xV V_reachable.seen) (xV V_reachable.target))) (ySeq (ySetI V_reachable.seen V_reachable.put_seen (xC true) (xV V_reachable.target)) (yExpr (xMeth V_reachable.stack V_reachable.put_stack gApp (xCs (xV V_reachable.target) xN)))) yNil)) big) (yRet (xV V_reachable.seen))))))
theorem ty_reachable : TFun (.io (own1 (lV MV.int)) (.fr (lV MV.int) (.nil)) : PSpec ((List (List Int)) × Unit) ((List Int) × Unit)) m_reachable F_reachable (fz (lV MV.bl)) := by
  unfold m_reachable F_reachable
  exact tf_mk (c := cx_reachable) (D0 := [0, 1]) (D1 := [0])
   (ts_seq (ts_set (D0 := [0, 1]) 2 (tx_new2 (o_repG lw_l) (tp_a (oa_lst (vc := (lV MV.bl)) (t := (fun (x : Bool × Unit) => ([x.1] : List Bool))) (fun _ => rfl) 1 (fun _ => rfl)) (tpa_c (tp_c (val := MV.bl) rfl) tpa_n)) (tp_f1 f1_lenO (tp_v (i := 0) rfl rfl (fun _ => rfl)))) (kp_reachable_seen.sub rfl) (fun _ _ => rfl)) (ts_seq (ts_set (D0 := [2, 0, 1]) 3 (tx_lst (va := MV.int) (fun _ => rfl) 0 (fun _ => rfl) (Ty.TPA.tx tpa_n)) (kp_reachable_stack.sub rfl) (fun _ _ => rfl)) (ts_seq (ts_for (Dl := [3, 2, 0, 1]) (D2 := [4, 3, 2, 0, 1]) (ti_l (Ty.TP.tx (tp_v (i := 1) rfl rfl (fun _ => rfl)))) (tg_nm (D0 := [3, 2, 0, 1]) 4 (kp_reachable_node.sub rfl) (fun _ _ => rfl)) (ts_if (D' := [4, 3, 2, 0, 1]) (txt_not (txt_v (Ty.TP.tx (tp_2o (o_ix sq_o) (tp_v (i := 2) rfl rfl (fun _ => rfl)) (tp_v (i := 4) rfl rfl (fun _ => rfl)))))) (ts_seq (ts_setI (D0 := [4, 3, 0, 1]) 2 (Ty.TP.tx (tp_c (val := MV.bl) rfl)) (tp_v (i := 4) rfl rfl (fun _ => rfl)) (fun _ => rfl) (fun _ _ => rfl) (kp_reachable_seen.sub rfl)) (ts_expr (tx_meth (D0 := [4, 2, 0, 1]) 3 mo_app (txa_c (Ty.TP.tx (tp_v (i := 4) rfl rfl (fun _ => rfl))) (Ty.TPA.tx tpa_n)) (fun _ => rfl) (fun _ _ => rfl) (kp_reachable_stack.sub rfl)))) ts_nil)) (ts_seq (ts_while (Dl := [3, 2, 0, 1]) (D2 := [3, 2, 0, 1]) (txt_v (tx_2 o_gt (Ty.TP.tx (tp_f1 f1_lenO (tp_v (i := 3) rfl rfl (fun _ => rfl)))) (Ty.TP.tx (tp_c (val := MV.int) rfl)))) (ts_for (Dl := [3, 2, 0, 1]) (D2 := [5, 3, 2, 0, 1]) (ti_l (tx_ixV (i := 0) rfl rfl (fun _ => rfl) (by rw [mM0_eq]; exact (tx_meth (D0 := [2, 0, 1]) 3 mo_pop (Ty.TPA.tx tpa_n) (fun _ => rfl) (fun _ _ => rfl) (kp_reachable_stack.sub rfl))))) (tg_nm (D0 := [3, 2, 0, 1]) 5 (kp_reachable_target.sub rfl) (fun _ _ => rfl)) (ts_if (D' := [5, 3, 2, 0, 1]) (txt_not (txt_v (Ty.TP.tx (tp_2o (o_ix sq_o) (tp_v (i := 2) rfl rfl (fun _ => rfl)) (tp_v (i := 5) rfl rfl (fun _ => rfl)))))) (ts_seq (ts_setI (D0 := [5, 3, 0, 1]) 2 (Ty.TP.tx (tp_c (val := MV.bl) rfl)) (tp_v (i := 5) rfl rfl (fun _ => rfl)) (fun _ => rfl) (fun _ _ => rfl) (kp_reachable_seen.sub rfl)) (ts_expr (tx_meth (D0 := [5, 2, 0, 1]) 3 mo_app (txa_c (Ty.TP.tx (tp_v (i := 5) rfl rfl (fun _ => rfl))) (Ty.TPA.tx tpa_n)) (fun _ => rfl) (fun _ _ => rfl) (kp_reachable_stack.sub rfl)))) ts_nil))) (ts_frz (D0 := [3, 0, 1]) 2 6 (ts_ret (Ty.TP.tx (tp_v (i := 6) rfl rfl (fun _ => rfl)))) (fun _ => frz_1 fix_bl) rfl rfl (kp_reachable_seen.sub rfl : Keep _ _ _ [3, 0, 1]).same)))))
   (fun _ _ => ⟨⟨rfl, rfl⟩, ⟨⟨rfl, rfl⟩, trivial⟩⟩) (fun _ => ⟨⟨rfl, rfl⟩, trivial⟩) (fun r h => by cases h)
structure V_reversed_moves_2 where
  back : (List (List Int))
  moves : (List (List Int))
  c0 : (List Int)
  node : Int
  target : Int
@[reducible] def V_reversed_moves_2.put_back (s : V_reversed_moves_2) (v : (List (List Int))) : V_reversed_moves_2 := { s with back := v }
@[reducible] def V_reversed_moves_2.put_moves (s : V_reversed_moves_2) (v : (List (List Int))) : V_reversed_moves_2 := { s with moves := v }
@[reducible] def V_reversed_moves_2.put_c0 (s : V_reversed_moves_2) (v : (List Int)) : V_reversed_moves_2 := { s with c0 := v }
@[reducible] def V_reversed_moves_2.put_node (s : V_reversed_moves_2) (v : Int) : V_reversed_moves_2 := { s with node := v }
@[reducible] def V_reversed_moves_2.put_target (s : V_reversed_moves_2) (v : Int) : V_reversed_moves_2 := { s with target := v }
def tb_reversed_moves_2 : Nat → Slot V_reversed_moves_2
  | 0 => ⟨0, fun s => (fz (lV (lV MV.int))) s.moves⟩
  | 1 => ⟨1, fun s => (own2 MV.int) s.back⟩
  | 2 => ⟨2, fun s => (fz (lV MV.int)) s.c0⟩
  | 3 => ⟨3, fun s => (fz MV.int) s.node⟩
  | 4 => ⟨4, fun s => (fz MV.int) s.target⟩
  | 5 => ⟨1, fun s => (fz (lV (lV MV.int))) s.back⟩
  | _ => ⟨0, fun _ => fz nV ()⟩
abbrev cx_reversed_moves_2 : Cx V_reversed_moves_2 (List (List Int)) := ⟨tb_reversed_moves_2, 5, [], [], [], [], (fz (lV (lV MV.int)))⟩
theorem kp_reversed_moves_2_back : Keep tb_reversed_moves_2 V_reversed_moves_2.put_back 1 [0, 2, 3, 4] := ⟨⟨Nat.ne_of_beq_eq_false rfl, fun _ _ => rfl⟩, ⟨⟨Nat.ne_of_beq_eq_false rfl, fun _ _ => rfl⟩, ⟨⟨Nat.ne_of_beq_eq_false rfl, fun _ _ => rfl⟩, ⟨⟨Nat.ne_of_beq_eq_false rfl, fun _ _ => rfl⟩, trivial⟩⟩⟩⟩
theorem kp_reversed_moves_2_moves : Keep tb_reversed_moves_2 V_reversed_moves_2.put_moves 0 [1, 2, 3, 4, 5] := ⟨⟨Nat.ne_of_beq_eq_false rfl, fun _ _ => rfl⟩, ⟨⟨Nat.ne_of_beq_eq_false rfl, fun _ _ => rfl⟩, ⟨⟨Nat.ne_of_beq_eq_false rfl, fun _ _ => rfl⟩, ⟨⟨Nat.ne_of_beq_eq_false rfl, fun _ _ => rfl⟩, ⟨⟨Nat.ne_of_beq_eq_false rfl, fun _ _ => rfl⟩, trivial⟩⟩⟩⟩⟩
theorem kp_reversed_moves_2_c0 : Keep tb_reversed_moves_2 V_reversed_moves_2.put_c0 2 [0, 1, 3, 4, 5] := ⟨⟨Nat.ne_of_beq_eq_false rfl, fun _ _ => rfl⟩, ⟨⟨Nat.ne_of_beq_eq_false rfl, fun _ _ => rfl⟩, ⟨⟨Nat.ne_of_beq_eq_false rfl, fun _ _ => rfl⟩, ⟨⟨Nat.ne_of_beq_eq_false rfl, fun _ _ => rfl⟩, ⟨⟨Nat.ne_of_beq_eq_false rfl, fun _ _ => rfl⟩, trivial⟩⟩⟩⟩⟩
theorem kp_reversed_moves_2_node : Keep tb_reversed_moves_2 V_reversed_moves_2.put_node 3 [0, 1, 2, 4, 5] := ⟨⟨Nat.ne_of_beq_eq_false rfl, fun _ _ => rfl⟩, ⟨⟨Nat.ne_of_beq_eq_false rfl, fun _ _ => rfl⟩, ⟨⟨Nat.ne_of_beq_eq_false rfl, fun _ _ => rfl⟩, ⟨⟨Nat.ne_of_beq_eq_false rfl, fun _ _ => rfl⟩, ⟨⟨Nat.ne_of_beq_eq_false rfl, fun _ _ => rfl⟩, trivial⟩⟩⟩⟩⟩
theorem kp_reversed_moves_2_target : Keep tb_reversed_moves_2 V_reversed_moves_2.put_target 4 [0, 1, 2, 3, 5] := ⟨⟨Nat.ne_of_beq_eq_false rfl, fun _ _ => rfl⟩, ⟨⟨Nat.ne_of_beq_eq_false rfl, fun _ _ => rfl⟩, ⟨⟨Nat.ne_of_beq_eq_false rfl, fun _ _ => rfl⟩, ⟨⟨Nat.ne_of_beq_eq_false rfl, fun _ _ => rfl⟩, ⟨⟨Nat.ne_of_beq_eq_false rfl, fun _ _ => rfl⟩, trivial⟩⟩⟩⟩⟩
def F_reversed_moves_2 : (Unit) → ((List (List Int)) × Unit) → X (Unit) (List (List Int)) := yRun (fun (i : Unit) (a : (List (List Int)) × Unit) => ({ back := default, moves := a.1, c0 := default, node := default, target := default } : V_reversed_moves_2)) (fun s => (())) (none : Option (List (List Int))) (ySeq (ySet V_reversed_moves_2.put_back (x1 id (xComp (xV V_reversed_moves_2.moves) V_reversed_moves_2.put_c0 xYes (x1 (fun (x : Unit) => ([] : List Int)) xN)))) (ySeq (yFor (x1o gRng1 (xCs (x1 (fun xs => (xs.length : Int)) (xV V_reversed_moves_2.moves)) xN)) V_reversed_moves_2.put_node (yFor (x2o gIx (xV V_reversed_moves_2.moves) (xV V_reversed_moves_2.node)) V_reversed_moves_2.put_target (yExpr (xMeth2 V_reversed_moves_2.back V_reversed_moves_2.put_back gApp (xV V_reversed_moves_2.target) (xCs (xV V_reversed_moves_2.node) xN))))) (yRet (xV V_reversed_moves_2.back))))
theorem ty_reversed_moves_2 : TFun (.fr (lV (lV MV.int)) (.nil) : PSpec (Unit) ((List (List Int)) × Unit)) m_reversed_moves F_reversed_moves_2 (fz (lV (lV MV.int))) := by
  unfold m_reversed_moves F_reversed_moves_2
  exact tf_mk (c := cx_reversed_moves_2) (D0 := [0]) (D1 := [])
   (ts_seq (ts_set (D0 := [0]) 1 (tx_comp2 (ti_l (Ty.TP.tx (tp_v (i := 0) rfl rfl (fun _ => rfl)))) (tg_nm (D0 := [0]) 2 (kp_reversed_moves_2_c0.sub rfl) (fun _ _ => rfl)) txt_yes (tx_lst (va := MV.int) (fun _ => rfl) 0 (fun _ => rfl) (Ty.TPA.tx tpa_n))) (kp_reversed_moves_2_back.sub rfl) (fun _ _ => rfl)) (ts_seq (ts_for (Dl := [1, 0]) (D2 := [3, 1, 0]) (ti_range1 (txa_c (Ty.TP.tx (tp_f1 f1_lenL (tp_v (i := 0) rfl rfl (fun _ => rfl)))) (Ty.TPA.tx tpa_n))) (tg_nm (D0 := [1, 0]) 3 (kp_reversed_moves_2_node.sub rfl) (fun _ _ => rfl)) (ts_for (Dl := [3, 1, 0]) (D2 := [4, 3, 1, 0]) (ti_l (tx_2o (o_ixF sq_l) (Ty.TP.tx (tp_v (i := 0) rfl rfl (fun _ => rfl))) (Ty.TP.tx (tp_v (i := 3) rfl rfl (fun _ => rfl))))) (tg_nm (D0 := [3, 1, 0]) 4 (kp_reversed_moves_2_target.sub rfl) (fun _ _ => rfl)) (ts_expr (tx_meth2 (D0 := [4, 3, 0]) 1 mo_app (tp_v (i := 4) rfl rfl (fun _ => rfl)) (tpa_c (tp_v (i := 3) rfl rfl (fun _ => rfl)) tpa_n) (fun _ => rfl) (fun _ _ => rfl) (kp_reversed_moves_2_back.sub rfl))))) (ts_frz (D0 := [0]) 1 5 (ts_ret (Ty.TP.tx (tp_v (i := 5) rfl rfl (fun _ => rfl)))) (fun _ => frz_2 fix_int) rfl rfl (kp_reversed_moves_2_back.sub rfl : Keep _ _ _ [0]).same)))
   (fun _ _ => ⟨⟨rfl, rfl⟩, trivial⟩) (fun _ => trivial) (fun r h => by cases h)
structure V_finishing_order where
  seen : (List Bool)
  moves : (List (List Int))
  order : (List Int)
  root : Int
  path : (List Int)
  places : (List Int)
  node : Int
  target : Int
@[reducible] def V_finishing_order.put_seen (s : V_finishing_order) (v : (List Bool)) : V_finishing_order := { s with seen := v }
@[reducible] def V_finishing_order.put_moves (s : V_finishing_order) (v : (List (List Int))) : V_finishing_order := { s with moves := v }
@[reducible] def V_finishing_order.put_order (s : V_finishing_order) (v : (List Int)) : V_finishing_order := { s with order := v }
@[reducible] def V_finishing_order.put_root (s : V_finishing_order) (v : Int) : V_finishing_order := { s with root := v }
@[reducible] def V_finishing_order.put_path (s : V_finishing_order) (v : (List Int)) : V_finishing_order := { s with path := v }
@[reducible] def V_finishing_order.put_places (s : V_finishing_order) (v : (List Int)) : V_finishing_order := { s with places := v }
@[reducible] def V_finishing_order.put_node (s : V_finishing_order) (v : Int) : V_finishing_order := { s with node := v }
@[reducible] def V_finishing_order.put_target (s : V_finishing_order) (v : Int) : V_finishing_order := { s with target := v }
def tb_finishing_order : Nat → Slot V_finishing_order
  | 0 => ⟨0, fun s => (fz (lV (lV MV.int))) s.moves⟩
  | 1 => ⟨1, fun s => (own1 MV.bl) s.seen⟩
  | 2 => ⟨2, fun s => (own1 MV.int) s.order⟩
  | 3 => ⟨5, fun s => (own1 MV.int) s.places⟩
  | 4 => ⟨4, fun s => (own1 MV.int) s.path⟩
  | 5 => ⟨3, fun s => (fz MV.int) s.root⟩
  | 6 => ⟨7, fun s => (fz MV.int) s.target⟩
  | 7 => ⟨6, fun s => (fz MV.int) s.node⟩
  | 8 => ⟨2, fun s => (fz (lV MV.int)) s.order⟩
  | _ => ⟨0, fun _ => fz nV ()⟩
abbrev cx_finishing_order : Cx V_finishing_order (List Int) := ⟨tb_finishing_order, 8, [], [], [], [], (fz (lV MV.int))⟩
theorem kp_finishing_order_seen : Keep tb_finishing_order V_finishing_order.put_seen 1 [0, 2, 3, 4, 5, 6, 7, 8] := ⟨⟨Nat.ne_of_beq_eq_false rfl, fun _ _ => rfl⟩, ⟨⟨Nat.ne_of_beq_eq_false rfl, fun _ _ => rfl⟩, ⟨⟨Nat.ne_of_beq_eq_false rfl, fun _ _ => rfl⟩, ⟨⟨Nat.ne_of_beq_eq_false rfl, fun _ _ => rfl⟩, ⟨⟨Nat.ne_of_beq_eq_false rfl, fun _ _ => rfl⟩, ⟨⟨Nat.ne_of_beq_eq_false rfl, fun _ _ => rfl⟩, ⟨⟨Nat.ne_of_beq_eq_false rfl, fun _ _ => rfl⟩, ⟨⟨Nat.ne_of_beq_eq_false rfl, fun _ _ => rfl⟩, trivial⟩⟩⟩⟩⟩⟩⟩⟩
theorem kp_finishing_order_moves : Keep tb_finishing_order V_finishing_order.put_moves 0 [1, 2, 3, 4, 5, 6, 7, 8] := ⟨⟨Nat.ne_of_beq_eq_false rfl, fun _ _ => rfl⟩, ⟨⟨Nat.ne_of_beq_eq_false rfl, fun _ _ => rfl⟩, ⟨⟨Nat.ne_of_beq_eq_false rfl, fun _ _ => rfl⟩, ⟨⟨Nat.ne_of_beq_eq_false rfl, fun _ _ => rfl⟩, ⟨⟨Nat.ne_of_beq_eq_false rfl, fun _ _ => rfl⟩, ⟨⟨Nat.ne_of_beq_eq_false rfl, fun _ _ => rfl⟩, ⟨⟨Nat.ne_of_beq_eq_false rfl, fun _ _ => rfl⟩, ⟨⟨Nat.ne_of_beq_eq_false rfl, fun _ _ => rfl⟩, trivial⟩⟩⟩⟩⟩⟩⟩⟩
theorem kp_finishing_order_order : Keep tb_finishing_order V_finishing_order.put_order 2 [0, 1, 3, 4, 5, 6, 7] := ⟨⟨Nat.ne_of_beq_eq_false rfl, fun _ _ => rfl⟩, ⟨⟨Nat.ne_of_beq_eq_false rfl, fun _ _ => rfl⟩, ⟨⟨Nat.ne_of_beq_eq_false rfl, fun _ _ => rfl⟩, ⟨⟨Nat.ne_of_beq_eq_false rfl, fun _ _ => rfl⟩, ⟨⟨Nat.ne_of_beq_eq_false rfl, fun _ _ => rfl⟩, ⟨⟨Nat.ne_of_beq_eq_false rfl, fun _ _ => rfl⟩, ⟨⟨Nat.ne_of_beq_eq_false rfl, fun _ _ => rfl⟩, trivial⟩⟩⟩⟩⟩⟩⟩
theorem kp_finishing_order_root : Keep tb_finishing_order V_finishing_order.put_root 3 [0, 1, 2, 3, 4, 6, 7, 8] := ⟨⟨Nat.ne_of_beq_eq_false rfl, fun _ _ => rfl⟩, ⟨⟨Nat.ne_of_beq_eq_false rfl, fun _ _ => rfl⟩, ⟨⟨Nat.ne_of_beq_eq_false rfl, fun _ _ => rfl⟩, ⟨⟨Nat.ne_of_beq_eq_false rfl, fun _ _ => rfl⟩, ⟨⟨Nat.ne_of_beq_eq_false rfl, fun _ _ => rfl⟩, ⟨⟨Nat.ne_of_beq_eq_false rfl, fun _ _ => rfl⟩, ⟨⟨Nat.ne_of_beq_eq_false rfl, fun _ _ => rfl⟩, ⟨⟨Nat.ne_of_beq_eq_false rfl, fun _ _ => rfl⟩, trivial⟩⟩⟩⟩⟩⟩⟩⟩
theorem kp_finishing_order_path : Keep tb_finishing_order V_finishing_order.put_path 4 [0, 1, 2, 3, 5, 6, 7, 8] := ⟨⟨Nat.ne_of_beq_eq_false rfl, fun _ _ => rfl⟩, ⟨⟨Nat.ne_of_beq_eq_false rfl, fun _ _ => rfl⟩, ⟨⟨Nat.ne_of_beq_eq_false rfl, fun _ _ => rfl⟩, ⟨⟨Nat.ne_of_beq_eq_false rfl, fun _ _ => rfl⟩, ⟨⟨Nat.ne_of_beq_eq_false rfl, fun _ _ => rfl⟩, ⟨⟨Nat.ne_of_beq_eq_false rfl, fun _ _ => rfl⟩, ⟨⟨Nat.ne_of_beq_eq_false rfl, fun _ _ => rfl⟩, ⟨⟨Nat.ne_of_beq_eq_false rfl, fun _ _ => rfl⟩, trivial⟩⟩⟩⟩⟩⟩⟩⟩
theorem kp_finishing_order_places : Keep tb_finishing_order V_finishing_order.put_places 5 [0, 1, 2, 4, 5, 6, 7, 8] := ⟨⟨Nat.ne_of_beq_eq_false rfl, fun _ _ => rfl⟩, ⟨⟨Nat.ne_of_beq_eq_false rfl, fun _ _ => rfl⟩, ⟨⟨Nat.ne_of_beq_eq_false rfl, fun _ _ => rfl⟩, ⟨⟨Nat.ne_of_beq_eq_false rfl, fun _ _ => rfl⟩, ⟨⟨Nat.ne_of_beq_eq_false rfl, fun _ _ => rfl⟩, ⟨⟨Nat.ne_of_beq_eq_false rfl, fun _ _ => rfl⟩, ⟨⟨Nat.ne_of_beq_eq_false rfl, fun _ _ => rfl⟩, ⟨⟨Nat.ne_of_beq_eq_false rfl, fun _ _ => rfl⟩, trivial⟩⟩⟩⟩⟩⟩⟩⟩
theorem kp_finishing_order_node : Keep tb_finishing_order V_finishing_order.put_node 6 [0, 1, 2, 3, 4, 5, 6, 8] := ⟨⟨Nat.ne_of_beq_eq_false rfl, fun _ _ => rfl⟩, ⟨⟨Nat.ne_of_beq_eq_false rfl, fun _ _ => rfl⟩, ⟨⟨Nat.ne_of_beq_eq_false rfl, fun _ _ => rfl⟩, ⟨⟨Nat.ne_of_beq_eq_false rfl, fun _ _ => rfl⟩, ⟨⟨Nat.ne_of_beq_eq_false rfl, fun _ _ => rfl⟩, ⟨⟨Nat.ne_of_beq_eq_false rfl, fun _ _ => rfl⟩, ⟨⟨Nat.ne_of_beq_eq_false rfl, fun _ _ => rfl⟩, ⟨⟨Nat.ne_of_beq_eq_false rfl, fun _ _ => rfl⟩, trivial⟩⟩⟩⟩⟩⟩⟩⟩
theorem kp_finishing_order_target : Keep tb_finishing_order V_finishing_order.put_target 7 [0, 1, 2, 3, 4, 5, 7, 8] := ⟨⟨Nat.ne_of_beq_eq_false rfl, fun _ _ => rfl⟩, ⟨⟨Nat.ne_of_beq_eq_false rfl, fun _ _ => rfl⟩, ⟨⟨Nat.ne_of_beq_eq_false rfl, fun _ _ => rfl⟩, ⟨⟨Nat.ne_of_beq_eq_false rfl, fun _ _ => rfl⟩, ⟨⟨Nat.ne_of_beq_eq_false rfl, fun _ _ => rfl⟩, ⟨⟨Nat.ne_of_beq_eq_false rfl, fun _ _ => rfl⟩, ⟨⟨Nat.ne_of_beq_eq_false rfl, fun _ _ => rfl⟩, ⟨⟨Nat.ne_of_beq_eq_false rfl, fun _ _ => rfl⟩, trivial⟩⟩⟩⟩⟩⟩⟩⟩
def F_finishing_order : (Unit) → ((List (List Int)) × Unit) → X (Unit) (List Int) := yRun (fun (i : Unit) (a : (List (List Int)) × Unit) => ({ seen := default, moves := a.1, order := default, root := default, path := default, places := default, node := default, target := default } : V_finishing_order)) (fun s => (())) (none : Option (List Int)) (ySeq (ySet V_finishing_order.put_seen (x1 id (x2o gRep (x1 (fun (x : Bool × Unit) => ([x.1] : List Bool)) (xCs (xC false) xN)) (x1 (fun xs => (xs.length : Int)) (xV V_finishing_order.moves))))) (ySeq (ySet V_finishing_order.put_order (x1 (fun (x : Unit) => ([] : List Int)) xN)) (ySeq (yFor (x1o gRng1 (xCs (x1 (fun xs => (xs.length : Int)) (xV V_finishing_order.moves)) xN)) V_finishing_order.put_root (ySeq (yIf (x2o gIx (xV V_finishing_order.seen) (xV V_finishing_order.root)) yCont yNil) (ySeq (ySetI V_finishing_order.seen V_finishing_order.put_seen (xC true) (xV V_finishing_order.root)) (ySeq (ySet V_finishing_order.put_path (x1 (fun (x : Int × Unit) => ([x.1] : List Int)) (xCs (xV V_finishing_order.root) xN))) (ySeq (ySet V_finishing_order.put_places (x1 (fun (x : Int × Unit) => ([x.1] : List Int)) (xCs (xC (0 : Int)) xN))) (yWhile (x2 (fun i j : Int => decide (j < i)) (x1 (fun xs => (xs.length : Int)) (xV V_finishing_order.path)) (xC (0 : Int))) (ySeq (ySet V_finishing_order.put_node (x2o gIx (xV V_finishing_order.path) (x1 (fun i : Int => -i) (xC (1 : Int))))) (ySeq (yIf (x2 (fun a b => if false = true then !decide (a = b) else decide (a = b)) (x2o gIx (xV V_finishing_order.places) (x1 (fun i : Int => -i) (xC (1 : Int)))) (x1 (fun xs => (xs.length : Int)) (x2o gIx (xV V_finishing_order.moves) (xV V_finishing_order.node)))) (ySeq (yExpr (xMeth V_finishing_order.order V_finishing_order.put_order gApp (xCs (xMeth V_finishing_order.path V_finishing_order.put_path gPop xN) xN))) (ySeq (yExpr (xMeth V_finishing_order.places V_finishing_order.put_places gPop xN)) yCont)) yNil) (ySeq (ySet V_finishing_order.put_target (x2o gIx (x2o gIx (xV V_finishing_order.moves) (xV V_finishing_order.node)) (x2o gIx (xV V_finishing_order.places) (x1 (fun i : Int => -i) (xC (1 : Int)))))) (ySeq (yAugI V_finishing_order.places V_finishing_order.put_places (fun i j => some ((fun i j : Int => i + j) i j)) (x1 (fun i : Int => -i) (xC (1 : Int))) (xC (1 : Int))) (yIf (xNot (x2o gIx (xV V_finishing_order.seen) (xV V_finishing_order.target))) (ySeq (ySetI V_finishing_order.seen V_finishing_order.put_seen (xC true) (xV V_finishing_order.target)) (ySeq (yExpr (xMeth V_finishing_order.path V_finishing_order.put_path gApp (xCs (xV V_finishing_order.target) xN))) (yExpr (xMeth V_finishing_order.places V_finishing_order.put_places gApp (xCs (xC (0 : Int)) xN))))) yNil))))) big)))))) (yRet (xV V_finishing_order.order)))))
theorem ty_finishing_order : TFun (.fr (lV (lV MV.int)) (.nil) : PSpec (Unit) ((List (List Int)) × Unit)) m_finishing_order F_finishing_order (fz (lV MV.int)) := by
  unfold m_finishing_order F_finishing_order
  exact tf_mk (c := cx_finishing_order) (D0 := [0]) (D1 := [])
   (ts_seq (ts_set (D0 := [0]) 1 (tx_new2 (o_repG lw_l) (tp_a (oa_lst (vc := (lV MV.bl)) (t := (fun (x : Bool × Unit) => ([x.1] : List Bool))) (fun _ => rfl) 1 (fun _ => rfl)) (tpa_c (tp_c (val := MV.bl) rfl) tpa_n)) (tp_f1 f1_lenL (tp_v (i := 0) rfl rfl (fun _ => rfl)))) (kp_finishing_order_seen.sub rfl) (fun _ _ => rfl)) (ts_seq (ts_set (D0 := [1, 0]) 2 (tx_lst (va := MV.int) (fun _ => rfl) 0 (fun _ => rfl) (Ty.TPA.tx tpa_n)) (kp_finishing_order_order.sub rfl) (fun _ _ => rfl)) (ts_seq (ts_for (Dl := [2, 1, 0]) (D2 := [3, 4, 5, 2, 1, 0]) (ti_range1 (txa_c (Ty.TP.tx (tp_f1 f1_lenL (tp_v (i := 0) rfl rfl (fun _ => rfl)))) (Ty.TPA.tx tpa_n))) (tg_nm (D0 := [2, 1, 0]) 5 (kp_finishing_order_root.sub rfl) (fun _ _ => rfl)) (ts_seq (ts_if (D' := [5, 2, 1, 0]) (D1 := [5, 2, 1, 0]) (txt_v (Ty.TP.tx (tp_2o (o_ix sq_o) (tp_v (i := 1) rfl rfl (fun _ => rfl)) (tp_v (i := 5) rfl rfl (fun _ => rfl))))) ts_cont ts_nil) (ts_seq (ts_setI (D0 := [5, 2, 0]) 1 (Ty.TP.tx (tp_c (val := MV.bl) rfl)) (tp_v (i := 5) rfl rfl (fun _ => rfl)) (fun _ => rfl) (fun _ _ => rfl) (kp_finishing_order_seen.sub rfl)) (ts_seq (ts_set (D0 := [5, 2, 1, 0]) 4 (tx_lst (va := MV.int) (fun _ => rfl) 1 (fun _ => rfl) (txa_c (Ty.TP.tx (tp_v (i := 5) rfl rfl (fun _ => rfl))) (Ty.TPA.tx tpa_n))) (kp_finishing_order_path.sub rfl) (fun _ _ => rfl)) (ts_seq (ts_set (D0 := [4, 5, 2, 1, 0]) 3 (tx_lst (va := MV.int) (fun _ => rfl) 1 (fun _ => rfl) (txa_c (Ty.TP.tx (tp_c (val := MV.int) rfl)) (Ty.TPA.tx tpa_n))) (kp_finishing_order_places.sub rfl) (fun _ _ => rfl)) (ts_while (Dl := [3, 4, 5, 2, 1, 0]) (D2 := [6, 7, 3, 4, 5, 2, 1, 0]) (txt_v (tx_2 o_gt (Ty.TP.tx (tp_f1 f1_lenO (tp_v (i := 4) rfl rfl (fun _ => rfl)))) (Ty.TP.tx (tp_c (val := MV.int) rfl)))) (ts_seq (ts_set (D0 := [3, 4, 5, 2, 1, 0]) 7 (Ty.TP.tx (tp_2o (o_ix sq_o) (tp_v (i := 4) rfl rfl (fun _ => rfl)) (tp_1 (Op1.rd o_neg) (tp_c (val := MV.int) rfl)))) (kp_finishing_order_node.sub rfl) (fun _ _ => rfl)) (ts_seq (ts_if (D' := [7, 3, 4, 5, 2, 1, 0]) (D1 := [7, 3, 4, 5, 2, 1, 0]) (txt_v (tx_2 (o_eq (neg := false) dt_int) (Ty.TP.tx (tp_2o (o_ix sq_o) (tp_v (i := 3) rfl rfl (fun _ => rfl)) (tp_1 (Op1.rd o_neg) (tp_c (val := MV.int) rfl)))) (Ty.TP.tx (tp_f1 f1_lenL (tp_2o (o_ix sq_l) (tp_v (i := 0) rfl rfl (fun _ => rfl)) (tp_v (i := 7) rfl rfl (fun _ => rfl))))))) (ts_seq (ts_expr (tx_meth (D0 := [7, 3, 4, 5, 1, 0]) 2 mo_app (txa_c (by rw [mM0_eq]; exact (tx_meth (D0 := [7, 3, 5, 2, 1, 0]) 4 mo_pop (Ty.TPA.tx tpa_n) (fun _ => rfl) (fun _ _ => rfl) (kp_finishing_order_path.sub rfl))) (Ty.TPA.tx tpa_n)) (fun _ => rfl) (fun _ _ => rfl) (kp_finishing_order_order.sub rfl))) (ts_seq (ts_expr (by rw [mM0_eq]; exact (tx_meth (D0 := [7, 4, 5, 2, 1, 0]) 3 mo_pop (Ty.TPA.tx tpa_n) (fun _ => rfl) (fun _ _ => rfl) (kp_finishing_order_places.sub rfl)))) ts_cont)) ts_nil) (ts_seq (ts_set (D0 := [7, 3, 4, 5, 2, 1, 0]) 6 (tx_2o (o_ixF sq_l) (tx_2o (o_ixF sq_l) (Ty.TP.tx (tp_v (i := 0) rfl rfl (fun _ => rfl))) (Ty.TP.tx (tp_v (i := 7) rfl rfl (fun _ => rfl)))) (Ty.TP.tx (tp_2o (o_ix sq_o) (tp_v (i := 3) rfl rfl (fun _ => rfl)) (tp_1 (Op1.rd o_neg) (tp_c (val := MV.int) rfl))))) (kp_finishing_order_target.sub rfl) (fun _ _ => rfl)) (ts_seq (ts_augI (D0 := [6, 7, 4, 5, 2, 1, 0]) 3 (tp_1 (Op1.rd o_neg) (tp_c (val := MV.int) rfl)) o_ip (Ty.TP.tx (tp_c (val := MV.int) rfl)) (fun _ => rfl) (fun _ _ => rfl) (kp_finishing_order_places.sub rfl)) (ts_if (D' := [6, 7, 3, 4, 5, 2, 1, 0]) (txt_not (txt_v (Ty.TP.tx (tp_2o (o_ix sq_o) (tp_v (i := 1) rfl rfl (fun _ => rfl)) (tp_v (i := 6) rfl rfl (fun _ => rfl)))))) (ts_seq (ts_setI (D0 := [6, 7, 3, 4, 5, 2, 0]) 1 (Ty.TP.tx (tp_c (val := MV.bl) rfl)) (tp_v (i := 6) rfl rfl (fun _ => rfl)) (fun _ => rfl) (fun _ _ => rfl) (kp_finishing_order_seen.sub rfl)) (ts_seq (ts_expr (tx_meth (D0 := [6, 7, 3, 5, 2, 1, 0]) 4 mo_app (txa_c (Ty.TP.tx (tp_v (i := 6) rfl rfl (fun _ => rfl))) (Ty.TPA.tx tpa_n)) (fun _ => rfl) (fun _ _ => rfl) (kp_finishing_order_path.sub rfl))) (ts_expr (tx_meth (D0 := [6, 7, 4, 5, 2, 1, 0]) 3 mo_app (txa_c (Ty.TP.tx (tp_c (val := MV.int) rfl)) (Ty.TPA.tx tpa_n)) (fun _ => rfl) (fun _ _ => rfl) (kp_finishing_order_places.sub rfl))))) ts_nil))))))))))) (ts_frz (D0 := [1, 0]) 2 8 (ts_ret (Ty.TP.tx (tp_v (i := 8) rfl rfl (fun _ => rfl)))) (fun _ => frz_1 fix_int) rfl rfl (kp_finishing_order_order.sub rfl : Keep _ _ _ [1, 0]).same))))
   (fun _ _ => ⟨⟨rfl, rfl⟩, trivial⟩) (fun _ => trivial) (fun r h => by cases h)
structure V_components where
  numbers : (List Int)
  moves : (List (List Int))
  back : (List (List Int))
  count : Int
  order : (List Int)
  root : Int
  stack : (List Int)
  target : Int
@[reducible] def V_components.put_numbers (s : V_components) (v : (List Int)) : V_components := { s with numbers := v }
@[reducible] def V_components.put_moves (s : V_components) (v : (List (List Int))) : V_components := { s with moves := v }
@[reducible] def V_components.put_back (s : V_components) (v : (List (List Int))) : V_components := { s with back := v }
@[reducible] def V_components.put_count (s : V_components) (v : Int) : V_components := { s with count := v }
@[reducible] def V_components.put_order (s : V_components) (v : (List Int)) : V_components := { s with order := v }
@[reducible] def V_components.put_root (s : V_components) (v : Int) : V_components := { s with root := v }
@[reducible] def V_components.put_stack (s : V_components) (v : (List Int)) : V_components := { s with stack := v }
@[reducible] def V_components.put_target (s : V_components) (v : Int) : V_components := { s with target := v }
def tb_components : Nat → Slot V_components
  | 0 => ⟨0, fun s => (fz (lV (lV MV.int))) s.moves⟩
  | 1 => ⟨1, fun s => (own1 MV.int) s.numbers⟩
  | 2 => ⟨2, fun s => (fz (lV (lV MV.int))) s.back⟩
  | 3 => ⟨3, fun s => (fz MV.int) s.count⟩
  | 4 => ⟨4, fun s => (fz (lV MV.int)) s.order⟩
  | 5 => ⟨6, fun s => (own1 MV.int) s.stack⟩
  | 6 => ⟨5, fun s => (fz MV.int) s.root⟩
  | 7 => ⟨7, fun s => (fz MV.int) s.target⟩
  | 8 => ⟨1, fun s => (fz (lV MV.int)) s.numbers⟩
  | _ => ⟨0, fun _ => fz nV ()⟩
abbrev cx_components : Cx V_components (List Int) := ⟨tb_components, 8, [], [], [], [], (fz (lV MV.int))⟩
theorem kp_components_numbers : Keep tb_components V_components.put_numbers 1 [0, 2, 3, 4, 5, 6, 7] := ⟨⟨Nat.ne_of_beq_eq_false rfl, fun _ _ => rfl⟩, ⟨⟨Nat.ne_of_beq_eq_false rfl, fun _ _ => rfl⟩, ⟨⟨Nat.ne_of_beq_eq_false rfl, fun _ _ => rfl⟩, ⟨⟨Nat.ne_of_beq_eq_false rfl, fun _ _ => rfl⟩, ⟨⟨Nat.ne_of_beq_eq_false rfl, fun _ _ => rfl⟩, ⟨⟨Nat.ne_of_beq_eq_false rfl, fun _ _ => rfl⟩, ⟨⟨Nat.ne_of_beq_eq_false rfl, fun _ _ => rfl⟩, trivial⟩⟩⟩⟩⟩⟩⟩
theorem kp_components_moves : Keep tb_components V_components.put_moves 0 [1, 2, 3, 4, 5, 6, 7, 8] := ⟨⟨Nat.ne_of_beq_eq_false rfl, fun _ _ => rfl⟩, ⟨⟨Nat.ne_of_beq_eq_false rfl, fun _ _ => rfl⟩, ⟨⟨Nat.ne_of_beq_eq_false rfl, fun _ _ => rfl⟩, ⟨⟨Nat.ne_of_beq_eq_false rfl, fun _ _ => rfl⟩, ⟨⟨Nat.ne_of_beq_eq_false rfl, fun _ _ => rfl⟩, ⟨⟨Nat.ne_of_beq_eq_false rfl, fun _ _ => rfl⟩, ⟨⟨Nat.ne_of_beq_eq_false rfl, fun _ _ => rfl⟩, ⟨⟨Nat.ne_of_beq_eq_false rfl, fun _ _ => rfl⟩, trivial⟩⟩⟩⟩⟩⟩⟩⟩
theorem kp_components_back : Keep tb_components V_components.put_back 2 [0, 1, 3, 4, 5, 6, 7, 8] := ⟨⟨Nat.ne_of_beq_eq_false rfl, fun _ _ => rfl⟩, ⟨⟨Nat.ne_of_beq_eq_false rfl, fun _ _ => rfl⟩, ⟨⟨Nat.ne_of_beq_eq_false rfl, fun _ _ => rfl⟩, ⟨⟨Nat.ne_of_beq_eq_false rfl, fun _ _ => rfl⟩, ⟨⟨Nat.ne_of_beq_eq_false rfl, fun _ _ => rfl⟩, ⟨⟨Nat.ne_of_beq_eq_false rfl, fun _ _ => rfl⟩, ⟨⟨Nat.ne_of_beq_eq_false rfl, fun _ _ => rfl⟩, ⟨⟨Nat.ne_of_beq_eq_false rfl, fun _ _ => rfl⟩, trivial⟩⟩⟩⟩⟩⟩⟩⟩
theorem kp_components_count : Keep tb_components V_components.put_count 3 [0, 1, 2, 4, 5, 6, 7, 8] := ⟨⟨Nat.ne_of_beq_eq_false rfl, fun _ _ => rfl⟩, ⟨⟨Nat.ne_of_beq_eq_false rfl, fun _ _ => rfl⟩, ⟨⟨Nat.ne_of_beq_eq_false rfl, fun _ _ => rfl⟩, ⟨⟨Nat.ne_of_beq_eq_false rfl, fun _ _ => rfl⟩, ⟨⟨Nat.ne_of_beq_eq_false rfl, fun _ _ => rfl⟩, ⟨⟨Nat.ne_of_beq_eq_false rfl, fun _ _ => rfl⟩, ⟨⟨Nat.ne_of_beq_eq_false rfl, fun _ _ => rfl⟩, ⟨⟨Nat.ne_of_beq_eq_false rfl, fun _ _ => rfl⟩, trivial⟩⟩⟩⟩⟩⟩⟩⟩
theorem kp_components_order : Keep tb_components V_components.put_order 4 [0, 1, 2, 3, 5, 6, 7, 8] := ⟨⟨Nat.ne_of_beq_eq_false rfl, fun _ _ => rfl⟩, ⟨⟨Nat.ne_of_beq_eq_false rfl, fun _ _ => rfl⟩, ⟨⟨Nat.ne_of_beq_eq_false rfl, fun _ _ => rfl⟩, ⟨⟨Nat.ne_of_beq_eq_false rfl, fun _ _ => rfl⟩, ⟨⟨Nat.ne_of_beq_eq_false rfl, fun _ _ => rfl⟩, ⟨⟨Nat.ne_of_beq_eq_false rfl, fun _ _ => rfl⟩, ⟨⟨Nat.ne_of_beq_eq_false rfl, fun _ _ => rfl⟩, ⟨⟨Nat.ne_of_beq_eq_false rfl, fun _ _ => rfl⟩, trivial⟩⟩⟩⟩⟩⟩⟩⟩
theorem kp_components_root : Keep tb_components V_components.put_root 5 [0, 1, 2, 3, 4, 5, 7, 8] := ⟨⟨Nat.ne_of_beq_eq_false rfl, fun _ _ => rfl⟩, ⟨⟨Nat.ne_of_beq_eq_false rfl, fun _ _ => rfl⟩, ⟨⟨Nat.ne_of_beq_eq_false rfl, fun _ _ => rfl⟩, ⟨⟨Nat.ne_of_beq_eq_false rfl, fun _ _ => rfl⟩, ⟨⟨Nat.ne_of_beq_eq_false rfl, fun _ _ => rfl⟩, ⟨⟨Nat.ne_of_beq_eq_false rfl, fun _ _ => rfl⟩, ⟨⟨Nat.ne_of_beq_eq_false rfl, fun _ _ => rfl⟩, ⟨⟨Nat.ne_of_beq_eq_false rfl, fun _ _ => rfl⟩, trivial⟩⟩⟩⟩⟩⟩⟩⟩
theorem kp_components_stack : Keep tb_components V_components.put_stack 6 [0, 1, 2, 3, 4, 6, 7, 8] := ⟨⟨Nat.ne_of_beq_eq_false rfl, fun _ _ => rfl⟩, ⟨⟨Nat.ne_of_beq_eq_false rfl, fun _ _ => rfl⟩, ⟨⟨Nat.ne_of_beq_eq_false rfl, fun _ _ => rfl⟩, ⟨⟨Nat.ne_of_beq_eq_false rfl, fun _ _ => rfl⟩, ⟨⟨Nat.ne_of_beq_eq_false rfl, fun _ _ => rfl⟩, ⟨⟨Nat.ne_of_beq_eq_false rfl, fun _ _ => rfl⟩, ⟨⟨Nat.ne_of_beq_eq_false rfl, fun _ _ => rfl⟩, ⟨⟨Nat.ne_of_beq_eq_false rfl, fun _ _ => rfl⟩, trivial⟩⟩⟩⟩⟩⟩⟩⟩
theorem kp_components_target : Keep tb_components V_components.put_target 7 [0, 1, 2, 3, 4, 5, 6, 8] := ⟨⟨Nat.ne_of_beq_eq_false rfl, fun _ _ => rfl⟩, ⟨⟨Nat.ne_of_beq_eq_false rfl, fun _ _ => rfl⟩, ⟨⟨Nat.ne_of_beq_eq_false rfl, fun _ _ => rfl⟩, ⟨⟨Nat.ne_of_beq_eq_false rfl, fun _ _ => rfl⟩, ⟨⟨Nat.ne_of_beq_eq_false rfl, fun _ _ => rfl⟩, ⟨⟨Nat.ne_of_beq_eq_false rfl, fun _ _ => rfl⟩, ⟨⟨Nat.ne_of_beq_eq_false rfl, fun _ _ => rfl⟩, ⟨⟨Nat.ne_of_beq_eq_false rfl, fun _ _ => rfl⟩, trivial⟩⟩⟩⟩⟩⟩⟩⟩
def F_components : (Unit) → ((List (List Int)) × Unit) → X (Unit) (List Int) := yRun (fun (i : Unit) (a : (List (List Int)) × Unit) => ({ numbers := default, moves := a.1, back := default, count := default, order := default, root := default, stack := default, target := default } : V_components)) (fun s => (())) (none : Option (List Int)) (ySeq (ySet V_components.put_numbers (x1 id (x2o gRep (x1 (fun (x : Int × Unit) => ([x.1] : List Int)) (xCs (x1 (fun i : Int => -i) (xC (1 : Int))) xN)) (x1 (fun xs => (xs.length : Int)) (xV V_components.moves))))) (ySeq (ySet V_components.put_back (xCall F_reversed_moves_2 (fun _ => ()) (fun s _ => s) (xCs (xV V_components.moves) (xC ())))) (ySeq (ySet V_components.put_count (xC (0 : Int))) (ySeq (ySet V_components.put_order (xCall F_finishing_order (fun _ => ()) (fun s _ => s) (xCs (xV V_components.moves) (xC ())))) (ySeq (yFor (x1 (fun xs => xs.reverse) (xV V_components.order)) V_components.put_root (ySeq (yIf (x2 (fun i j : Int => decide (j ≤ i)) (x2o gIx (xV V_components.numbers) (xV V_components.root)) (xC (0 : Int))) yCont yNil) (ySeq (ySetI V_components.numbers V_components.put_numbers (xV V_components.count) (xV V_components.root)) (ySeq (ySet V_components.put_stack (x1 (fun (x : Int × Unit) => ([x.1] : List Int)) (xCs (xV V_components.root) xN))) (ySeq (yWhile (x2 (fun i j : Int => decide (j < i)) (x1 (fun xs => (xs.length : Int)) (xV V_components.stack)) (xC (0 : Int))) (yFor (x2o gIx (xV V_components.back) (xMeth V_components.stack V_components.put_stack gPop xN)) V_components.put_target (yIf (x2 (fun i j : Int => decide (i < j)) (x2o gIx (xV V_components.numbers) (xV V_components.target)) (xC (0 : Int))) (ySeq (ySetI V_components.numbers V_components.put_numbers (xV V_components.count) (xV V_components.target)) (yExpr (xMeth V_components.stack V_components.put_stack gApp (xCs (xV V_components.target) xN)))) yNil)) big) (ySet V_components.put_count (x2 (fun i j : Int => i + j) (xV V_components.count) (xC (1 : Int))))))))) (yRet (xV V_components.numbers)))))))
theorem ty_components : TFun (.fr (lV (lV MV.int)) (.nil) : PSpec (Unit) ((List (List Int)) × Unit)) m_components F_components (fz (lV MV.int)) := by
  unfold m_components F_components
  exact tf_mk (c := cx_components) (D0 := [0]) (D1 := [])
   (ts_seq (ts_set (D0 := [0]) 1 (tx_new2 (o_repG lw_l) (tp_a (oa_lst (vc := (lV MV.int)) (t := (fun (x : Int × Unit) => ([x.1] : List Int))) (fun _ => rfl) 1 (fun _ => rfl)) (tpa_c (tp_1 (Op1.rd o_neg) (tp_c (val := MV.int) rfl)) tpa_n)) (tp_f1 f1_lenL (tp_v (i := 0) rfl rfl (fun _ => rfl)))) (kp_components_numbers.sub rfl) (fun _ _ => rfl)) (ts_seq (ts_set (D0 := [1, 0]) 2 (tx_call ty_reversed_moves_2 (txp_f (Ty.TP.tx (tp_v (i := 0) rfl rfl (fun _ => rfl))) txp_n)) (kp_components_back.sub rfl) (fun _ _ => rfl)) (ts_seq (ts_set (D0 := [2, 1, 0]) 3 (Ty.TP.tx (tp_c (val := MV.int) rfl)) (kp_components_count.sub rfl) (fun _ _ => rfl)) (ts_seq (ts_set (D0 := [3, 2, 1, 0]) 4 (tx_call ty_finishing_order (txp_f (Ty.TP.tx (tp_v (i := 0) rfl rfl (fun _ => rfl))) txp_n)) (kp_components_order.sub rfl) (fun _ _ => rfl)) (ts_seq (ts_for (Dl := [4, 3, 2, 1, 0]) (D2 := [3, 5, 6, 4, 2, 1, 0]) (ti_l (Ty.TP.tx (tp_rev ls_l (tp_v (i := 4) rfl rfl (fun _ => rfl))))) (tg_nm (D0 := [4, 3, 2, 1, 0]) 6 (kp_components_root.sub rfl) (fun _ _ => rfl)) (ts_seq (ts_if (D' := [6, 4, 3, 2, 1, 0]) (D1 := [6, 4, 3, 2, 1, 0]) (txt_v (tx_2 o_ge (Ty.TP.tx (tp_2o (o_ix sq_o) (tp_v (i := 1) rfl rfl (fun _ => rfl)) (tp_v (i := 6) rfl rfl (fun _ => rfl)))) (Ty.TP.tx (tp_c (val := MV.int) rfl)))) ts_cont ts_nil) (ts_seq (ts_setI (D0 := [6, 4, 3, 2, 0]) 1 (Ty.TP.tx (tp_v (i := 3) rfl rfl (fun _ => rfl))) (tp_v (i := 6) rfl rfl (fun _ => rfl)) (fun _ => rfl) (fun _ _ => rfl) (kp_components_numbers.sub rfl)) (ts_seq (ts_set (D0 := [6, 4, 3, 2, 1, 0]) 5 (tx_lst (va := MV.int) (fun _ => rfl) 1 (fun _ => rfl) (txa_c (Ty.TP.tx (tp_v (i := 6) rfl rfl (fun _ => rfl))) (Ty.TPA.tx tpa_n))) (kp_components_stack.sub rfl) (fun _ _ => rfl)) (ts_seq (ts_while (Dl := [5, 6, 4, 3, 2, 1, 0]) (D2 := [5, 6, 4, 3, 2, 1, 0]) (txt_v (tx_2 o_gt (Ty.TP.tx (tp_f1 f1_lenO (tp_v (i := 5) rfl rfl (fun _ => rfl)))) (Ty.TP.tx (tp_c (val := MV.int) rfl)))) (ts_for (Dl := [5, 6, 4, 3, 2, 1, 0]) (D2 := [7, 5, 6, 4, 3, 2, 1, 0]) (ti_l (tx_2o (o_ixF sq_l) (Ty.TP.tx (tp_v (i := 2) rfl rfl (fun _ => rfl))) (by rw [mM0_eq]; exact (tx_meth (D0 := [6, 4, 3, 2, 1, 0]) 5 mo_pop (Ty.TPA.tx tpa_n) (fun _ => rfl) (fun _ _ => rfl) (kp_components_stack.sub rfl))))) (tg_nm (D0 := [5, 6, 4, 3, 2, 1, 0]) 7 (kp_components_target.sub rfl) (fun _ _ => rfl)) (ts_if (D' := [7, 5, 6, 4, 3, 2, 1, 0]) (txt_v (tx_2 o_lt (Ty.TP.tx (tp_2o (o_ix sq_o) (tp_v (i := 1) rfl rfl (fun _ => rfl)) (tp_v (i := 7) rfl rfl (fun _ => rfl)))) (Ty.TP.tx (tp_c (val := MV.int) rfl)))) (ts_seq (ts_setI (D0 := [7, 5, 6, 4, 3, 2, 0]) 1 (Ty.TP.tx (tp_v (i := 3) rfl rfl (fun _ => rfl))) (tp_v (i := 7) rfl rfl (fun _ => rfl)) (fun _ => rfl) (fun _ _ => rfl) (kp_components_numbers.sub rfl)) (ts_expr (tx_meth (D0 := [7, 6, 4, 3, 2, 1, 0]) 5 mo_app (txa_c (Ty.TP.tx (tp_v (i := 7) rfl rfl (fun _ => rfl))) (Ty.TPA.tx tpa_n)) (fun _ => rfl) (fun _ _ => rfl) (kp_components_stack.sub rfl)))) ts_nil))) (by rw [sAug_eq]; exact (ts_set (D0 := [5, 6, 4, 2, 1, 0]) 3 (tx_2 o_ip (Ty.TP.tx (tp_v (i := 3) rfl rfl (fun _ => rfl))) (Ty.TP.tx (tp_c (val := MV.int) rfl))) (kp_components_count.sub rfl) (fun _ _ => rfl)))))))) (ts_frz (D0 := [4, 3, 2, 0]) 1 8 (ts_ret (Ty.TP.tx (tp_v (i := 8) rfl rfl (fun _ => rfl)))) (fun _ => frz_1 fix_int) rfl rfl (kp_components_numbers.sub rfl : Keep _ _ _ [4, 3, 2, 0]).same))))))
   (fun _ _ => ⟨⟨rfl, rfl⟩, trivial⟩) (fun _ => trivial) (fun r h => by cases h)
structure V_has_bad_cycle where
  priorities : (List Int)
  level : Int
  player : Int
  low : (List (List Int))
  moves : (List (List Int))
  position : Int
  k_c0 : Int
  numbers : (List Int)
  target : Int
@[reducible] def V_has_bad_cycle.put_priorities (s : V_has_bad_cycle) (v : (List Int)) : V_has_bad_cycle := { s with priorities := v }
@[reducible] def V_has_bad_cycle.put_level (s : V_has_bad_cycle) (v : Int) : V_has_bad_cycle := { s with level := v }
@[reducible] def V_has_bad_cycle.put_player (s : V_has_bad_cycle) (v : Int) : V_has_bad_cycle := { s with player := v }
@[reducible] def V_has_bad_cycle.put_low (s : V_has_bad_cycle) (v : (List (List Int))) : V_has_bad_cycle := { s with low := v }
@[reducible] def V_has_bad_cycle.put_moves (s : V_has_bad_cycle) (v : (List (List Int))) : V_has_bad_cycle := { s with moves := v }
@[reducible] def V_has_bad_cycle.put_position (s : V_has_bad_cycle) (v : Int) : V_has_bad_cycle := { s with position := v }
@[reducible] def V_has_bad_cycle.put_k_c0 (s : V_has_bad_cycle) (v : Int) : V_has_bad_cycle := { s with k_c0 := v }
@[reducible] def V_has_bad_cycle.put_numbers (s : V_has_bad_cycle) (v : (List Int)) : V_has_bad_cycle := { s with numbers := v }
@[reducible] def V_has_bad_cycle.put_target (s : V_has_bad_cycle) (v : Int) : V_has_bad_cycle := { s with target := v }
def tb_has_bad_cycle : Nat → Slot V_has_bad_cycle
  | 0 => ⟨0, fun s => (fz (tV MV.int)) s.priorities⟩
  | 1 => ⟨1, fun s => (fz (lV (lV MV.int))) s.moves⟩
  | 2 => ⟨2, fun s => (fz MV.int) s.player⟩
  | 3 => ⟨7, fun s => (fz (lV MV.int)) s.numbers⟩
  | 4 => ⟨4, fun s => (fz (lV (lV MV.int))) s.low⟩
  | 5 => ⟨3, fun s => (fz MV.int) s.level⟩
  | 6 => ⟨4, fun s => (own1 (lV MV.int)) s.low⟩
  | 7 => ⟨5, fun s => (fz MV.int) s.position⟩
  | 8 => ⟨6, fun s => (fz MV.int) s.k_c0⟩
  | 9 => ⟨8, fun s => (fz MV.int) s.target⟩
  | _ => ⟨0, fun _ => fz nV ()⟩
abbrev cx_has_bad_cycle : Cx V_has_bad_cycle Bool := ⟨tb_has_bad_cycle, 9, [], [], [], [], (fz MV.bl)⟩
theorem kp_has_bad_cycle_priorities : Keep tb_has_bad_cycle V_has_bad_cycle.put_priorities 0 [1, 2, 3, 4, 5, 6, 7, 8, 9] := ⟨⟨Nat.ne_of_beq_eq_false rfl, fun _ _ => rfl⟩, ⟨⟨Nat.ne_of_beq_eq_false rfl, fun _ _ => rfl⟩, ⟨⟨Nat.ne_of_beq_eq_false rfl, fun _ _ => rfl⟩, ⟨⟨Nat.ne_of_beq_eq_false rfl, fun _ _ => rfl⟩, ⟨⟨Nat.ne_of_beq_eq_false rfl, fun _ _ => rfl⟩, ⟨⟨Nat.ne_of_beq_eq_false rfl, fun _ _ => rfl⟩, ⟨⟨Nat.ne_of_beq_eq_false rfl, fun _ _ => rfl⟩, ⟨⟨Nat.ne_of_beq_eq_false rfl, fun _ _ => rfl⟩, ⟨⟨Nat.ne_of_beq_eq_false rfl, fun _ _ => rfl⟩, trivial⟩⟩⟩⟩⟩⟩⟩⟩⟩
theorem kp_has_bad_cycle_level : Keep tb_has_bad_cycle V_has_bad_cycle.put_level 3 [0, 1, 2, 3, 4, 6, 7, 8, 9] := ⟨⟨Nat.ne_of_beq_eq_false rfl, fun _ _ => rfl⟩, ⟨⟨Nat.ne_of_beq_eq_false rfl, fun _ _ => rfl⟩, ⟨⟨Nat.ne_of_beq_eq_false rfl, fun _ _ => rfl⟩, ⟨⟨Nat.ne_of_beq_eq_false rfl, fun _ _ => rfl⟩, ⟨⟨Nat.ne_of_beq_eq_false rfl, fun _ _ => rfl⟩, ⟨⟨Nat.ne_of_beq_eq_false rfl, fun _ _ => rfl⟩, ⟨⟨Nat.ne_of_beq_eq_false rfl, fun _ _ => rfl⟩, ⟨⟨Nat.ne_of_beq_eq_false rfl, fun _ _ => rfl⟩, ⟨⟨Nat.ne_of_beq_eq_false rfl, fun _ _ => rfl⟩, trivial⟩⟩⟩⟩⟩⟩⟩⟩⟩
theorem kp_has_bad_cycle_player : Keep tb_has_bad_cycle V_has_bad_cycle.put_player 2 [0, 1, 3, 4, 5, 6, 7, 8, 9] := ⟨⟨Nat.ne_of_beq_eq_false rfl, fun _ _ => rfl⟩, ⟨⟨Nat.ne_of_beq_eq_false rfl, fun _ _ => rfl⟩, ⟨⟨Nat.ne_of_beq_eq_false rfl, fun _ _ => rfl⟩, ⟨⟨Nat.ne_of_beq_eq_false rfl, fun _ _ => rfl⟩, ⟨⟨Nat.ne_of_beq_eq_false rfl, fun _ _ => rfl⟩, ⟨⟨Nat.ne_of_beq_eq_false rfl, fun _ _ => rfl⟩, ⟨⟨Nat.ne_of_beq_eq_false rfl, fun _ _ => rfl⟩, ⟨⟨Nat.ne_of_beq_eq_false rfl, fun _ _ => rfl⟩, ⟨⟨Nat.ne_of_beq_eq_false rfl, fun _ _ => rfl⟩, trivial⟩⟩⟩⟩⟩⟩⟩⟩⟩
theorem kp_has_bad_cycle_low : Keep tb_has_bad_cycle V_has_bad_cycle.put_low 4 [0, 1, 2, 3, 5, 7, 8, 9] := ⟨⟨Nat.ne_of_beq_eq_false rfl, fun _ _ => rfl⟩, ⟨⟨Nat.ne_of_beq_eq_false rfl, fun _ _ => rfl⟩, ⟨⟨Nat.ne_of_beq_eq_false rfl, fun _ _ => rfl⟩, ⟨⟨Nat.ne_of_beq_eq_false rfl, fun _ _ => rfl⟩, ⟨⟨Nat.ne_of_beq_eq_false rfl, fun _ _ => rfl⟩, ⟨⟨Nat.ne_of_beq_eq_false rfl, fun _ _ => rfl⟩, ⟨⟨Nat.ne_of_beq_eq_false rfl, fun _ _ => rfl⟩, ⟨⟨Nat.ne_of_beq_eq_false rfl, fun _ _ => rfl⟩, trivial⟩⟩⟩⟩⟩⟩⟩⟩
theorem kp_has_bad_cycle_moves : Keep tb_has_bad_cycle V_has_bad_cycle.put_moves 1 [0, 2, 3, 4, 5, 6, 7, 8, 9] := ⟨⟨Nat.ne_of_beq_eq_false rfl, fun _ _ => rfl⟩, ⟨⟨Nat.ne_of_beq_eq_false rfl, fun _ _ => rfl⟩, ⟨⟨Nat.ne_of_beq_eq_false rfl, fun _ _ => rfl⟩, ⟨⟨Nat.ne_of_beq_eq_false rfl, fun _ _ => rfl⟩, ⟨⟨Nat.ne_of_beq_eq_false rfl, fun _ _ => rfl⟩, ⟨⟨Nat.ne_of_beq_eq_false rfl, fun _ _ => rfl⟩, ⟨⟨Nat.ne_of_beq_eq_false rfl, fun _ _ => rfl⟩, ⟨⟨Nat.ne_of_beq_eq_false rfl, fun _ _ => rfl⟩, ⟨⟨Nat.ne_of_beq_eq_false rfl, fun _ _ => rfl⟩, trivial⟩⟩⟩⟩⟩⟩⟩⟩⟩
theorem kp_has_bad_cycle_position : Keep tb_has_bad_cycle V_has_bad_cycle.put_position 5 [0, 1, 2, 3, 4, 5, 6, 8, 9] := ⟨⟨Nat.ne_of_beq_eq_false rfl, fun _ _ => rfl⟩, ⟨⟨Nat.ne_of_beq_eq_false rfl, fun _ _ => rfl⟩, ⟨⟨Nat.ne_of_beq_eq_false rfl, fun _ _ => rfl⟩, ⟨⟨Nat.ne_of_beq_eq_false rfl, fun _ _ => rfl⟩, ⟨⟨Nat.ne_of_beq_eq_false rfl, fun _ _ => rfl⟩, ⟨⟨Nat.ne_of_beq_eq_false rfl, fun _ _ => rfl⟩, ⟨⟨Nat.ne_of_beq_eq_false rfl, fun _ _ => rfl⟩, ⟨⟨Nat.ne_of_beq_eq_false rfl, fun _ _ => rfl⟩, ⟨⟨Nat.ne_of_beq_eq_false rfl, fun _ _ => rfl⟩, trivial⟩⟩⟩⟩⟩⟩⟩⟩⟩
theorem kp_has_bad_cycle_k_c0 : Keep tb_has_bad_cycle V_has_bad_cycle.put_k_c0 6 [0, 1, 2, 3, 4, 5, 6, 7, 9] := ⟨⟨Nat.ne_of_beq_eq_false rfl, fun _ _ => rfl⟩, ⟨⟨Nat.ne_of_beq_eq_false rfl, fun _ _ => rfl⟩, ⟨⟨Nat.ne_of_beq_eq_false rfl, fun _ _ => rfl⟩, ⟨⟨Nat.ne_of_beq_eq_false rfl, fun _ _ => rfl⟩, ⟨⟨Nat.ne_of_beq_eq_false rfl, fun _ _ => rfl⟩, ⟨⟨Nat.ne_of_beq_eq_false rfl, fun _ _ => rfl⟩, ⟨⟨Nat.ne_of_beq_eq_false rfl, fun _ _ => rfl⟩, ⟨⟨Nat.ne_of_beq_eq_false rfl, fun _ _ => rfl⟩, ⟨⟨Nat.ne_of_beq_eq_false rfl, fun _ _ => rfl⟩, trivial⟩⟩⟩⟩⟩⟩⟩⟩⟩
theorem kp_has_bad_cycle_numbers : Keep tb_has_bad_cycle V_has_bad_cycle.put_numbers 7 [0, 1, 2, 4, 5, 6, 7, 8, 9] := ⟨⟨Nat.ne_of_beq_eq_false rfl, fun _ _ => rfl⟩, ⟨⟨Nat.ne_of_beq_eq_false rfl, fun _ _ => rfl⟩, ⟨⟨Nat.ne_of_beq_eq_false rfl, fun _ _ => rfl⟩, ⟨⟨Nat.ne_of_beq_eq_false rfl, fun _ _ => rfl⟩, ⟨⟨Nat.ne_of_beq_eq_false rfl, fun _ _ => rfl⟩, ⟨⟨Nat.ne_of_beq_eq_false rfl, fun _ _ => rfl⟩, ⟨⟨Nat.ne_of_beq_eq_false rfl, fun _ _ => rfl⟩, ⟨⟨Nat.ne_of_beq_eq_false rfl, fun _ _ => rfl⟩, ⟨⟨Nat.ne_of_beq_eq_false rfl, fun _ _ => rfl⟩, trivial⟩⟩⟩⟩⟩⟩⟩⟩⟩
theorem kp_has_bad_cycle_target : Keep tb_has_bad_cycle V_has_bad_cycle.put_target 8 [0, 1, 2, 3, 4, 5, 6, 7, 8] := ⟨⟨Nat.ne_of_beq_eq_false rfl, fun _ _ => rfl⟩, ⟨⟨Nat.ne_of_beq_eq_false rfl, fun _ _ => rfl⟩, ⟨⟨Nat.ne_of_beq_eq_false rfl, fun _ _ => rfl⟩, ⟨⟨Nat.ne_of_beq_eq_false rfl, fun _ _ => rfl⟩, ⟨⟨Nat.ne_of_beq_eq_false rfl, fun _ _ => rfl⟩, ⟨⟨Nat.ne_of_beq_eq_false rfl, fun _ _ => rfl⟩, ⟨⟨Nat.ne_of_beq_eq_false rfl, fun _ _ => rfl⟩, ⟨⟨Nat.ne_of_beq_eq_false rfl, fun _ _ => rfl⟩, ⟨⟨Nat.ne_of_beq_eq_false rfl, fun _ _ => rfl⟩, trivial⟩⟩⟩⟩⟩⟩⟩⟩⟩
def F_has_bad_cycle : (Unit) → ((List Int) × (List (List Int)) × Int × Unit) → X (Unit) Bool := yRun (fun (i : Unit) (a : (List Int) × (List (List Int)) × Int × Unit) => ({ priorities := a.1, level := default, player := a.2.2.1, low := default, moves := a.2.1, position := default, k_c0 := default, numbers := default, target := default } : V_has_bad_cycle)) (fun s => (())) (none : Option Bool) (ySeq (yFor (x1o gSrt (xV V_has_bad_cycle.priorities)) V_has_bad_cycle.put_level (ySeq (yIf (x2 (fun a b => if false = true then !decide (a = b) else decide (a = b)) (x2o gMod (xV V_has_bad_cycle.level) (xC (2 : Int))) (xV V_has_bad_cycle.player)) yCont yNil) (ySeq (ySet V_has_bad_cycle.put_low (x1 (fun (x : Unit) => ([] : List (List Int))) xN)) (ySeq (yFor (x1o gRng1 (xCs (x1 (fun xs => (xs.length : Int)) (xV V_has_bad_cycle.moves)) xN)) V_has_bad_cycle.put_position (yIf (x2 (fun i j : Int => decide (i ≤ j)) (x2o gIx (xV V_has_bad_cycle.priorities) (xV V_has_bad_cycle.position)) (xV V_has_bad_cycle.level)) (yExpr (xMeth V_has_bad_cycle.low V_has_bad_cycle.put_low gApp (xCs (xComp (x2o gIx (xV V_has_bad_cycle.moves) (xV V_has_bad_cycle.position)) V_has_bad_cycle.put_k_c0 (x2 (fun i j : Int => decide (i ≤ j)) (x2o gIx (xV V_has_bad_cycle.priorities) (xV V_has_bad_cycle.k_c0)) (xV V_has_bad_cycle.level)) (xV V_has_bad_cycle.k_c0)) xN))) (yExpr (xMeth V_has_bad_cycle.low V_has_bad_cycle.put_low gApp (xCs (x1 (fun (x : Unit) => ([] : List Int)) xN) xN))))) (ySeq (ySet V_has_bad_cycle.put_numbers (xCall F_components (fun _ => ()) (fun s _ => s) (xCs (xV V_has_bad_cycle.low) (xC ())))) (yFor (x1o gRng1 (xCs (x1 (fun xs => (xs.length : Int)) (xV V_has_bad_cycle.low)) xN)) V_has_bad_cycle.put_position (yIf (x2 (fun a b => if false = true then !decide (a = b) else decide (a = b)) (x2o gIx (xV V_has_bad_cycle.priorities) (xV V_has_bad_cycle.position)) (xV V_has_bad_cycle.level)) (yFor (x2o gIx (xV V_has_bad_cycle.low) (xV V_has_bad_cycle.position)) V_has_bad_cycle.put_target (yIf (x2 (fun a b => if false = true then !decide (a = b) else decide (a = b)) (x2o gIx (xV V_has_bad_cycle.numbers) (xV V_has_bad_cycle.target)) (x2o gIx (xV V_has_bad_cycle.numbers) (xV V_has_bad_cycle.position))) (yRet (xC true)) yNil)) yNil))))))) (yRet (xC false)))
theorem ty_has_bad_cycle : TFun (.fr (tV MV.int) (.fr (lV (lV MV.int)) (.fr MV.int (.nil))) : PSpec (Unit) ((List Int) × (List (List Int)) × Int × Unit)) m_has_bad_cycle F_has_bad_cycle (fz MV.bl) := by
  unfold m_has_bad_cycle F_has_bad_cycle
  exact tf_mk (c := cx_has_bad_cycle) (D0 := [0, 1, 2]) (D1 := [])
   (ts_seq (ts_for (Dl := [0, 1, 2]) (D2 := [3, 4, 5, 0, 1, 2]) (ti_l (tx_f1o f1_srtT (Ty.TP.tx (tp_v (i := 0) rfl rfl (fun _ => rfl))))) (tg_nm (D0 := [0, 1, 2]) 5 (kp_has_bad_cycle_level.sub rfl) (fun _ _ => rfl)) (ts_seq (ts_if (D' := [5, 0, 1, 2]) (D1 := [5, 0, 1, 2]) (txt_v (tx_2 (o_eq (neg := false) dt_int) (tx_2o o_mod (Ty.TP.tx (tp_v (i := 5) rfl rfl (fun _ => rfl))) (Ty.TP.tx (tp_c (val := MV.int) rfl))) (Ty.TP.tx (tp_v (i := 2) rfl rfl (fun _ => rfl))))) ts_cont ts_nil) (ts_seq (ts_set (D0 := [5, 0, 1, 2]) 6 (tx_lst (va := (lV MV.int)) (fun _ => rfl) 0 (fun _ => rfl) (Ty.TPA.tx tpa_n)) (kp_has_bad_cycle_low.sub rfl) (fun _ _ => rfl)) (ts_seq (ts_for (Dl := [6, 5, 0, 1, 2]) (D2 := [7, 6, 5, 0, 1, 2]) (ti_range1 (txa_c (Ty.TP.tx (tp_f1 f1_lenL (tp_v (i := 1) rfl rfl (fun _ => rfl)))) (Ty.TPA.tx tpa_n))) (tg_nm (D0 := [6, 5, 0, 1, 2]) 7 (kp_has_bad_cycle_position.sub rfl) (fun _ _ => rfl)) (ts_if (D' := [7, 6, 5, 0, 1, 2]) (txt_v (tx_2 o_le (tx_2o (o_ixF sq_t) (Ty.TP.tx (tp_v (i := 0) rfl rfl (fun _ => rfl))) (Ty.TP.tx (tp_v (i := 7) rfl rfl (fun _ => rfl)))) (Ty.TP.tx (tp_v (i := 5) rfl rfl (fun _ => rfl))))) (ts_expr (tx_meth (D0 := [7, 5, 0, 1, 2]) 6 mo_app (txa_c (tx_comp (ti_l (tx_2o (o_ixF sq_l) (Ty.TP.tx (tp_v (i := 1) rfl rfl (fun _ => rfl))) (Ty.TP.tx (tp_v (i := 7) rfl rfl (fun _ => rfl))))) (tg_nm (D0 := [7, 6, 5, 0, 1, 2]) 8 (kp_has_bad_cycle_k_c0.sub rfl) (fun _ _ => rfl)) (txt_v (tx_2 o_le (tx_2o (o_ixF sq_t) (Ty.TP.tx (tp_v (i := 0) rfl rfl (fun _ => rfl))) (Ty.TP.tx (tp_v (i := 8) rfl rfl (fun _ => rfl)))) (Ty.TP.tx (tp_v (i := 5) rfl rfl (fun _ => rfl))))) (Ty.TP.tx (tp_v (i := 8) rfl rfl (fun _ => rfl)))) (Ty.TPA.tx tpa_n)) (fun _ => rfl) (fun _ _ => rfl) (kp_has_bad_cycle_low.sub rfl))) (ts_expr (tx_meth (D0 := [7, 5, 0, 1, 2]) 6 mo_app (txa_c (tx_a (oa_lst (vc := (lV MV.int)) (t := (fun (x : Unit) => ([] : List Int))) (fun _ => rfl) 0 (fun _ => rfl)) (Ty.TPA.tx tpa_n)) (Ty.TPA.tx tpa_n)) (fun _ => rfl) (fun _ _ => rfl) (kp_has_bad_cycle_low.sub rfl))))) (ts_seq (ts_frz (D0 := [5, 0, 1, 2]) 6 4 (ts_set (D0 := [4, 5, 0, 1, 2]) 3 (tx_call ty_components (txp_f (Ty.TP.tx (tp_v (i := 4) rfl rfl (fun _ => rfl))) txp_n)) (kp_has_bad_cycle_numbers.sub rfl) (fun _ _ => rfl)) (fun _ => frz_1 fix_l) rfl rfl (kp_has_bad_cycle_low.sub rfl : Keep _ _ _ [5, 0, 1, 2]).same) (ts_for (Dl := [3, 4, 5, 0, 1, 2]) (D2 := [7, 3, 4, 5, 0, 1, 2]) (ti_range1 (txa_c (Ty.TP.tx (tp_f1 f1_lenL (tp_v (i := 4) rfl rfl (fun _ => rfl)))) (Ty.TPA.tx tpa_n))) (tg_nm (D0 := [3, 4, 5, 0, 1, 2]) 7 (kp_has_bad_cycle_position.sub rfl) (fun _ _ => rfl)) (ts_if (D' := [7, 3, 4, 5, 0, 1, 2]) (txt_v (tx_2 (o_eq (neg := false) dt_int) (tx_2o (o_ixF sq_t) (Ty.TP.tx (tp_v (i := 0) rfl rfl (fun _ => rfl))) (Ty.TP.tx (tp_v (i := 7) rfl rfl (fun _ => rfl)))) (Ty.TP.tx (tp_v (i := 5) rfl rfl (fun _ => rfl))))) (ts_for (Dl := [7, 3, 4, 5, 0, 1, 2]) (D2 := [9, 7, 3, 4, 5, 0, 1, 2]) (ti_l (tx_2o (o_ixF sq_l) (Ty.TP.tx (tp_v (i := 4) rfl rfl (fun _ => rfl))) (Ty.TP.tx (tp_v (i := 7) rfl rfl (fun _ => rfl))))) (tg_nm (D0 := [7, 3, 4, 5, 0, 1, 2]) 9 (kp_has_bad_cycle_target.sub rfl) (fun _ _ => rfl)) (ts_if (D' := [9, 7, 3, 4, 5, 0, 1, 2]) (D1 := [9, 7, 3, 4, 5, 0, 1, 2]) (txt_v (tx_2 (o_eq (neg := false) dt_int) (tx_2o (o_ixF sq_l) (Ty.TP.tx (tp_v (i := 3) rfl rfl (fun _ => rfl))) (Ty.TP.tx (tp_v (i := 9) rfl rfl (fun _ => rfl)))) (tx_2o (o_ixF sq_l) (Ty.TP.tx (tp_v (i := 3) rfl rfl (fun _ => rfl))) (Ty.TP.tx (tp_v (i := 7) rfl rfl (fun _ => rfl)))))) (ts_ret (Ty.TP.tx (tp_c (val := MV.bl) rfl))) ts_nil)) ts_nil))))))) (ts_ret (Ty.TP.tx (tp_c (val := MV.bl) rfl))))
   (fun _ _ => ⟨⟨rfl, rfl⟩, ⟨⟨rfl, rfl⟩, ⟨⟨rfl, rfl⟩, trivial⟩⟩⟩) (fun _ => trivial) (fun r h => by cases h)
structure V_choices_win where
  position : Int
  game : C_Game
  moves : (List (List Int))
  choices : (List Int)
  player : Int
  seen : (List Bool)
  k : Int
@[reducible] def V_choices_win.put_position (s : V_choices_win) (v : Int) : V_choices_win := { s with position := v }
@[reducible] def V_choices_win.put_game (s : V_choices_win) (v : C_Game) : V_choices_win := { s with game := v }
@[reducible] def V_choices_win.put_moves (s : V_choices_win) (v : (List (List Int))) : V_choices_win := { s with moves := v }
@[reducible] def V_choices_win.put_choices (s : V_choices_win) (v : (List Int)) : V_choices_win := { s with choices := v }
@[reducible] def V_choices_win.put_player (s : V_choices_win) (v : Int) : V_choices_win := { s with player := v }
@[reducible] def V_choices_win.put_seen (s : V_choices_win) (v : (List Bool)) : V_choices_win := { s with seen := v }
@[reducible] def V_choices_win.put_k (s : V_choices_win) (v : Int) : V_choices_win := { s with k := v }
def tb_choices_win : Nat → Slot V_choices_win
  | 0 => ⟨0, fun s => (fz v_Game) s.game⟩
  | 1 => ⟨1, fun s => (fz MV.int) s.player⟩
  | 2 => ⟨2, fun s => (fz (lV MV.int)) s.choices⟩
  | 3 => ⟨3, fun s => (fz MV.int) s.position⟩
  | 4 => ⟨4, fun s => (own1 (lV MV.int)) s.moves⟩
  | 5 => ⟨5, fun s => (fz (lV MV.bl)) s.seen⟩
  | 6 => ⟨6, fun s => (fz MV.int) s.k⟩
  | 7 => ⟨4, fun s => (fz (lV (lV MV.int))) s.moves⟩
  | _ => ⟨0, fun _ => fz nV ()⟩
abbrev cx_choices_win : Cx V_choices_win Bool := ⟨tb_choices_win, 7, [], [], [], [], (fz MV.bl)⟩
theorem kp_choices_win_position : Keep tb_choices_win V_choices_win.put_position 3 [0, 1, 2, 4, 5, 6, 7] := ⟨⟨Nat.ne_of_beq_eq_false rfl, fun _ _ => rfl⟩, ⟨⟨Nat.ne_of_beq_eq_false rfl, fun _ _ => rfl⟩, ⟨⟨Nat.ne_of_beq_eq_false rfl, fun _ _ => rfl⟩, ⟨⟨Nat.ne_of_beq_eq_false rfl, fun _ _ => rfl⟩, ⟨⟨Nat.ne_of_beq_eq_false rfl, fun _ _ => rfl⟩, ⟨⟨Nat.ne_of_beq_eq_false rfl, fun _ _ => rfl⟩, ⟨⟨Nat.ne_of_beq_eq_false rfl, fun _ _ => rfl⟩, trivial⟩⟩⟩⟩⟩⟩⟩
theorem kp_choices_win_game : Keep tb_choices_win V_choices_win.put_game 0 [1, 2, 3, 4, 5, 6, 7] := ⟨⟨Nat.ne_of_beq_eq_false rfl, fun _ _ => rfl⟩, ⟨⟨Nat.ne_of_beq_eq_false rfl, fun _ _ => rfl⟩, ⟨⟨Nat.ne_of_beq_eq_false rfl, fun _ _ => rfl⟩, ⟨⟨Nat.ne_of_beq_eq_false rfl, fun _ _ => rfl⟩, ⟨⟨Nat.ne_of_beq_eq_false rfl, fun _ _ => rfl⟩, ⟨⟨Nat.ne_of_beq_eq_false rfl, fun _ _ => rfl⟩, ⟨⟨Nat.ne_of_beq_eq_false rfl, fun _ _ => rfl⟩, trivial⟩⟩⟩⟩⟩⟩⟩
theorem kp_choices_win_moves : Keep tb_choices_win V_choices_win.put_moves 4 [0, 1, 2, 3, 5, 6] := ⟨⟨Nat.ne_of_beq_eq_false rfl, fun _ _ => rfl⟩, ⟨⟨Nat.ne_of_beq_eq_false rfl, fun _ _ => rfl⟩, ⟨⟨Nat.ne_of_beq_eq_false rfl, fun _ _ => rfl⟩, ⟨⟨Nat.ne_of_beq_eq_false rfl, fun _ _ => rfl⟩, ⟨⟨Nat.ne_of_beq_eq_false rfl, fun _ _ => rfl⟩, ⟨⟨Nat.ne_of_beq_eq_false rfl, fun _ _ => rfl⟩, trivial⟩⟩⟩⟩⟩⟩
theorem kp_choices_win_choices : Keep tb_choices_win V_choices_win.put_choices 2 [0, 1, 3, 4, 5, 6, 7] := ⟨⟨Nat.ne_of_beq_eq_false rfl, fun _ _ => rfl⟩, ⟨⟨Nat.ne_of_beq_eq_false rfl, fun _ _ => rfl⟩, ⟨⟨Nat.ne_of_beq_eq_false rfl, fun _ _ => rfl⟩, ⟨⟨Nat.ne_of_beq_eq_false rfl, fun _ _ => rfl⟩, ⟨⟨Nat.ne_of_beq_eq_false rfl, fun _ _ => rfl⟩, ⟨⟨Nat.ne_of_beq_eq_false rfl, fun _ _ => rfl⟩, ⟨⟨Nat.ne_of_beq_eq_false rfl, fun _ _ => rfl⟩, trivial⟩⟩⟩⟩⟩⟩⟩
theorem kp_choices_win_player : Keep tb_choices_win V_choices_win.put_player 1 [0, 2, 3, 4, 5, 6, 7] := ⟨⟨Nat.ne_of_beq_eq_false rfl, fun _ _ => rfl⟩, ⟨⟨Nat.ne_of_beq_eq_false rfl, fun _ _ => rfl⟩, ⟨⟨Nat.ne_of_beq_eq_false rfl, fun _ _ => rfl⟩, ⟨⟨Nat.ne_of_beq_eq_false rfl, fun _ _ => rfl⟩, ⟨⟨Nat.ne_of_beq_eq_false rfl, fun _ _ => rfl⟩, ⟨⟨Nat.ne_of_beq_eq_false rfl, fun _ _ => rfl⟩, ⟨⟨Nat.ne_of_beq_eq_false rfl, fun _ _ => rfl⟩, trivial⟩⟩⟩⟩⟩⟩⟩
theorem kp_choices_win_seen : Keep tb_choices_win V_choices_win.put_seen 5 [0, 1, 2, 3, 4, 6, 7] := ⟨⟨Nat.ne_of_beq_eq_false rfl, fun _ _ => rfl⟩, ⟨⟨Nat.ne_of_beq_eq_false rfl, fun _ _ => rfl⟩, ⟨⟨Nat.ne_of_beq_eq_false rfl, fun _ _ => rfl⟩, ⟨⟨Nat.ne_of_beq_eq_false rfl, fun _ _ => rfl⟩, ⟨⟨Nat.ne_of_beq_eq_false rfl, fun _ _ => rfl⟩, ⟨⟨Nat.ne_of_beq_eq_false rfl, fun _ _ => rfl⟩, ⟨⟨Nat.ne_of_beq_eq_false rfl, fun _ _ => rfl⟩, trivial⟩⟩⟩⟩⟩⟩⟩
theorem kp_choices_win_k : Keep tb_choices_win V_choices_win.put_k 6 [0, 1, 2, 3, 4, 5, 7] := ⟨⟨Nat.ne_of_beq_eq_false rfl, fun _ _ => rfl⟩, ⟨⟨Nat.ne_of_beq_eq_false rfl, fun _ _ => rfl⟩, ⟨⟨Nat.ne_of_beq_eq_false rfl, fun _ _ => rfl⟩, ⟨⟨Nat.ne_of_beq_eq_false rfl, fun _ _ => rfl⟩, ⟨⟨Nat.ne_of_beq_eq_false rfl, fun _ _ => rfl⟩, ⟨⟨Nat.ne_of_beq_eq_false rfl, fun _ _ => rfl⟩, ⟨⟨Nat.ne_of_beq_eq_false rfl, fun _ _ => rfl⟩, trivial⟩⟩⟩⟩⟩⟩⟩
def F_choices_win : (Unit) → (C_Game × Int × (List Int) × Int × Unit) → X (Unit) Bool := yRun (fun (i : Unit) (a : C_Game × Int × (List Int) × Int × Unit) => ({ position := a.2.2.2.1, game := a.1, moves := default, choices := a.2.2.1, player := a.2.1, seen := default, k := default } : V_choices_win)) (fun s => (())) (none : Option Bool) (ySeq (yIf (xOr (x2 (fun i j : Int => decide (i < j)) (xV V_choices_win.position) (xC (0 : Int))) (x2 (fun i j : Int => decide (j ≤ i)) (xV V_choices_win.position) (x1 (fun xs => (xs.length : Int)) (x1 C_Game.moves (xV V_choices_win.game))))) (yRaise "InvalidPosition") yNil) (ySeq (ySet V_choices_win.put_moves (xCall F_chosen_moves (fun _ => ()) (fun s _ => s) (xCs (xV V_choices_win.game) (xCs (xV V_choices_win.player) (xCs (xV V_choices_win.choices) (xC ())))))) (ySeq (ySet V_choices_win.put_seen (xCall F_reachable (fun s => (V_choices_win.moves s, ())) (fun s a => V_choices_win.put_moves s a.1) (xCs (x1 (fun (x : Int × Unit) => ([x.1] : List Int)) (xCs (xV V_choices_win.position) xN)) (xC ())))) (ySeq (yFor (x1o gRng1 (xCs (x1 (fun xs => (xs.length : Int)) (xV V_choices_win.moves)) xN)) V_choices_win.put_k (yIf (xNot (x2o gIx (xV V_choices_win.seen) (xV V_choices_win.k))) (ySetI V_choices_win.moves V_choices_win.put_moves (x1 (fun (x : Unit) => ([] : List Int)) xN) (xV V_choices_win.k)) (yIf (x2 (fun a b => if false = true then !decide (a = b) else decide (a = b)) (x1 (fun xs => (xs.length : Int)) (x2o gIx (xV V_choices_win.moves) (xV V_choices_win.k))) (xC (0 : Int))) (yRet (xC false)) yNil))) (yRet (xNot (xCall F_has_bad_cycle (fun _ => ()) (fun s _ => s) (xCs (x1 C_Game.priorities (xV V_choices_win.game)) (xCs (xV V_choices_win.moves) (xCs (xV V_choices_win.player) (xC ())))))))))))
theorem ty_choices_win : TFun (.fr v_Game (.fr MV.int (.fr (lV MV.int) (.fr MV.int (.nil)))) : PSpec (Unit) (C_Game × Int × (List Int) × Int × Unit)) m_choices_win F_choices_win (fz MV.bl) := by
  unfold m_choices_win F_choices_win
  exact tf_mk (c := cx_choices_win) (D0 := [0, 1, 2, 3]) (D1 := [])
   (ts_seq (ts_if (D' := [0, 1, 2, 3]) (D1 := [0, 1, 2, 3]) (txt_or (txt_v (tx_2 o_lt (Ty.TP.tx (tp_v (i := 3) rfl rfl (fun _ => rfl))) (Ty.TP.tx (tp_c (val := MV.int) rfl)))) (txt_v (tx_2 o_ge (Ty.TP.tx (tp_v (i := 3) rfl rfl (fun _ => rfl))) (Ty.TP.tx (tp_f1 f1_lenT (tp_1 (Op1.rd (o_fld (vb := (tV (tV MV.int))) (pr := C_Game.moves) (fun _ _ => f_fldT rfl (by decide +kernel) rfl))) (tp_v (i := 0) rfl rfl (fun _ => rfl)))))))) ts_raise ts_nil) (ts_seq (ts_set (D0 := [0, 1, 2, 3]) 4 (tx_call ty_chosen_moves (txp_f (Ty.TP.tx (tp_v (i := 0) rfl rfl (fun _ => rfl))) (txp_f (Ty.TP.tx (tp_v (i := 1) rfl rfl (fun _ => rfl))) (txp_f (Ty.TP.tx (tp_v (i := 2) rfl rfl (fun _ => rfl))) txp_n)))) (kp_choices_win_moves.sub rfl) (fun _ _ => rfl)) (ts_seq (ts_set (D0 := [4, 0, 1, 2, 3]) 5 (tx_callK1 (D0 := [0, 1, 2, 3]) 4 ty_reachable (txp_i (txp_f (tx_a (oa_lst (vc := (lV MV.int)) (t := (fun (x : Int × Unit) => ([x.1] : List Int))) (fun _ => rfl) 1 (fun _ => rfl)) (txa_c (Ty.TP.tx (tp_v (i := 3) rfl rfl (fun _ => rfl))) (Ty.TPA.tx tpa_n))) txp_n)) (fun _ => ⟨rfl, trivial⟩) (fun _ _ => ⟨rfl, trivial⟩) (kp_choices_win_moves.sub rfl)) (kp_choices_win_seen.sub rfl) (fun _ _ => rfl)) (ts_seq (ts_for (Dl := [5, 4, 0, 1, 2, 3]) (D2 := [6, 5, 4, 0, 1, 2, 3]) (ti_range1 (txa_c (Ty.TP.tx (tp_f1 f1_lenO (tp_v (i := 4) rfl rfl (fun _ => rfl)))) (Ty.TPA.tx tpa_n))) (tg_nm (D0 := [5, 4, 0, 1, 2, 3]) 6 (kp_choices_win_k.sub rfl) (fun _ _ => rfl)) (ts_if (D' := [6, 5, 4, 0, 1, 2, 3]) (txt_not (txt_v (tx_2o (o_ixF sq_l) (Ty.TP.tx (tp_v (i := 5) rfl rfl (fun _ => rfl))) (Ty.TP.tx (tp_v (i := 6) rfl rfl (fun _ => rfl)))))) (ts_setI (D0 := [6, 5, 0, 1, 2, 3]) 4 (tx_a (oa_lst (vc := (lV MV.int)) (t := (fun (x : Unit) => ([] : List Int))) (fun _ => rfl) 0 (fun _ => rfl)) (Ty.TPA.tx tpa_n)) (tp_v (i := 6) rfl rfl (fun _ => rfl)) (fun _ => rfl) (fun _ _ => rfl) (kp_choices_win_moves.sub rfl)) (ts_if (D' := [6, 5, 4, 0, 1, 2, 3]) (D1 := [6, 5, 4, 0, 1, 2, 3]) (txt_v (tx_2 (o_eq (neg := false) dt_int) (Ty.TP.tx (tp_f1 f1_lenL (tp_2o (o_ix sq_o) (tp_v (i := 4) rfl rfl (fun _ => rfl)) (tp_v (i := 6) rfl rfl (fun _ => rfl))))) (Ty.TP.tx (tp_c (val := MV.int) rfl)))) (ts_ret (Ty.TP.tx (tp_c (val := MV.bl) rfl))) ts_nil))) (ts_frz (D0 := [5, 0, 1, 2, 3]) 4 7 (ts_ret (tx_not (tx_call ty_has_bad_cycle (txp_f (tx_1 (o_fld (vb := (tV MV.int)) (pr := C_Game.priorities) (fun _ _ => f_fldT rfl (by decide +kernel) rfl)) (Ty.TP.tx (tp_v (i := 0) rfl rfl (fun _ => rfl)))) (txp_f (Ty.TP.tx (tp_v (i := 7) rfl rfl (fun _ => rfl))) (txp_f (Ty.TP.tx (tp_v (i := 1) rfl rfl (fun _ => rfl))) txp_n)))))) (fun _ => frz_1 fix_l) rfl rfl (kp_choices_win_moves.sub rfl : Keep _ _ _ [5, 0, 1, 2, 3]).same)))))
   (fun _ _ => ⟨⟨rfl, rfl⟩, ⟨⟨rfl, rfl⟩, ⟨⟨rfl, rfl⟩, ⟨⟨rfl, rfl⟩, trivial⟩⟩⟩⟩) (fun _ => trivial) (fun r h => by cases h)
structure V_law_outcome where
  lposition : Int
  lchoices : (List Int)
  lplayer : Int
  lgame_here : C_Game
@[reducible] def V_law_outcome.put_lposition (s : V_law_outcome) (v : Int) : V_law_outcome := { s with lposition := v }
@[reducible] def V_law_outcome.put_lchoices (s : V_law_outcome) (v : (List Int)) : V_law_outcome := { s with lchoices := v }
@[reducible] def V_law_outcome.put_lplayer (s : V_law_outcome) (v : Int) : V_law_outcome := { s with lplayer := v }
@[reducible] def V_law_outcome.put_lgame_here (s : V_law_outcome) (v : C_Game) : V_law_outcome := { s with lgame_here := v }
def tb_law_outcome : Nat → Slot V_law_outcome
  | 0 => ⟨0, fun s => (fz v_Game) s.lgame_here⟩
  | 1 => ⟨1, fun s => (fz MV.int) s.lplayer⟩
  | 2 => ⟨2, fun s => (fz (lV MV.int)) s.lchoices⟩
  | 3 => ⟨3, fun s => (fz MV.int) s.lposition⟩
  | _ => ⟨0, fun _ => fz nV ()⟩
abbrev cx_law_outcome : Cx V_law_outcome (Option Bool) := ⟨tb_law_outcome, 4, [], [], [], [], (fz (oV MV.bl))⟩
theorem kp_law_outcome_lposition : Keep tb_law_outcome V_law_outcome.put_lposition 3 [0, 1, 2] := ⟨⟨Nat.ne_of_beq_eq_false rfl, fun _ _ => rfl⟩, ⟨⟨Nat.ne_of_beq_eq_false rfl, fun _ _ => rfl⟩, ⟨⟨Nat.ne_of_beq_eq_false rfl, fun _ _ => rfl⟩, trivial⟩⟩⟩
theorem kp_law_outcome_lchoices : Keep tb_law_outcome V_law_outcome.put_lchoices 2 [0, 1, 3] := ⟨⟨Nat.ne_of_beq_eq_false rfl, fun _ _ => rfl⟩, ⟨⟨Nat.ne_of_beq_eq_false rfl, fun _ _ => rfl⟩, ⟨⟨Nat.ne_of_beq_eq_false rfl, fun _ _ => rfl⟩, trivial⟩⟩⟩
theorem kp_law_outcome_lplayer : Keep tb_law_outcome V_law_outcome.put_lplayer 1 [0, 2, 3] := ⟨⟨Nat.ne_of_beq_eq_false rfl, fun _ _ => rfl⟩, ⟨⟨Nat.ne_of_beq_eq_false rfl, fun _ _ => rfl⟩, ⟨⟨Nat.ne_of_beq_eq_false rfl, fun _ _ => rfl⟩, trivial⟩⟩⟩
theorem kp_law_outcome_lgame_here : Keep tb_law_outcome V_law_outcome.put_lgame_here 0 [1, 2, 3] := ⟨⟨Nat.ne_of_beq_eq_false rfl, fun _ _ => rfl⟩, ⟨⟨Nat.ne_of_beq_eq_false rfl, fun _ _ => rfl⟩, ⟨⟨Nat.ne_of_beq_eq_false rfl, fun _ _ => rfl⟩, trivial⟩⟩⟩
def F_law_outcome : (Unit) → (C_Game × Int × (List Int) × Int × Unit) → X (Unit) (Option Bool) := yRun (fun (i : Unit) (a : C_Game × Int × (List Int) × Int × Unit) => ({ lposition := a.2.2.2.1, lchoices := a.2.2.1, lplayer := a.2.1, lgame_here := a.1 } : V_law_outcome)) (fun s => (())) (none : Option (Option Bool)) (yTry (yRet (x1 some (xCall F_choices_win (fun _ => ()) (fun s _ => s) (xCs (xV V_law_outcome.lgame_here) (xCs (xV V_law_outcome.lplayer) (xCs (xV V_law_outcome.lchoices) (xCs (xV V_law_outcome.lposition) (xC ())))))))) [([("InvalidPosition", true)], (yRet (x1 (fun _ => (none : (Option Bool))) (xC ()))))])
theorem ty_law_outcome : TFun (.fr v_Game (.fr MV.int (.fr (lV MV.int) (.fr MV.int (.nil)))) : PSpec (Unit) (C_Game × Int × (List Int) × Int × Unit)) m_law_outcome F_law_outcome (fz (oV MV.bl)) := by
  unfold m_law_outcome F_law_outcome
  exact tf_mk (c := cx_law_outcome) (D0 := [0, 1, 2, 3]) (D1 := [])
   (ts_try (De := [0, 1, 2, 3]) (ts_sub (D1 := []) (D2 := []) (ts_ret (tx_some (tx_call ty_choices_win (txp_f (Ty.TP.tx (tp_v (i := 0) rfl rfl (fun _ => rfl))) (txp_f (Ty.TP.tx (tp_v (i := 1) rfl rfl (fun _ => rfl))) (txp_f (Ty.TP.tx (tp_v (i := 2) rfl rfl (fun _ => rfl))) (txp_f (Ty.TP.tx (tp_v (i := 3) rfl rfl (fun _ => rfl))) txp_n)))))))) (.cons (ts_sub (D1 := []) (D2 := []) (ts_ret (tx_as (va := nV) (vb := (oV MV.bl)) (fun _ => rfl) (Ty.TP.tx (tp_c (val := nV) (a := ()) rfl))))) .nil))
   (fun _ _ => ⟨⟨rfl, rfl⟩, ⟨⟨rfl, rfl⟩, ⟨⟨rfl, rfl⟩, ⟨⟨rfl, rfl⟩, trivial⟩⟩⟩⟩) (fun _ => trivial) (fun r h => by cases h)
structure V_law_left where
  lfound : (List (List Int))
  lmoves : (List (List Int))
  lk : Int
  lowners : (List Int)
  lplayer : Int
  lchoices : (List Int)
@[reducible] def V_law_left.put_lfound (s : V_law_left) (v : (List (List Int))) : V_law_left := { s with lfound := v }
@[reducible] def V_law_left.put_lmoves (s : V_law_left) (v : (List (List Int))) : V_law_left := { s with lmoves := v }
@[reducible] def V_law_left.put_lk (s : V_law_left) (v : Int) : V_law_left := { s with lk := v }
@[reducible] def V_law_left.put_lowners (s : V_law_left) (v : (List Int)) : V_law_left := { s with lowners := v }
@[reducible] def V_law_left.put_lplayer (s : V_law_left) (v : Int) : V_law_left := { s with lplayer := v }
@[reducible] def V_law_left.put_lchoices (s : V_law_left) (v : (List Int)) : V_law_left := { s with lchoices := v }
def tb_law_left : Nat → Slot V_law_left
  | 0 => ⟨0, fun s => (fz (lV MV.int)) s.lowners⟩
  | 1 => ⟨1, fun s => (fz (lV (lV MV.int))) s.lmoves⟩
  | 2 => ⟨2, fun s => (fz MV.int) s.lplayer⟩
  | 3 => ⟨3, fun s => (fz (lV MV.int)) s.lchoices⟩
  | 4 => ⟨4, fun s => (own1 (lV MV.int)) s.lfound⟩
  | 5 => ⟨5, fun s => (fz MV.int) s.lk⟩
  | 6 => ⟨4, fun s => (fz (lV (lV MV.int))) s.lfound⟩
  | _ => ⟨0, fun _ => fz nV ()⟩
abbrev cx_law_left : Cx V_law_left (List (List Int)) := ⟨tb_law_left, 6, [], [], [], [], (fz (lV (lV MV.int)))⟩
theorem kp_law_left_lfound : Keep tb_law_left V_law_left.put_lfound 4 [0, 1, 2, 3, 5] := ⟨⟨Nat.ne_of_beq_eq_false rfl, fun _ _ => rfl⟩, ⟨⟨Nat.ne_of_beq_eq_false rfl, fun _ _ => rfl⟩, ⟨⟨Nat.ne_of_beq_eq_false rfl, fun _ _ => rfl⟩, ⟨⟨Nat.ne_of_beq_eq_false rfl, fun _ _ => rfl⟩, ⟨⟨Nat.ne_of_beq_eq_false rfl, fun _ _ => rfl⟩, trivial⟩⟩⟩⟩⟩
theorem kp_law_left_lmoves : Keep tb_law_left V_law_left.put_lmoves 1 [0, 2, 3, 4, 5, 6] := ⟨⟨Nat.ne_of_beq_eq_false rfl, fun _ _ => rfl⟩, ⟨⟨Nat.ne_of_beq_eq_false rfl, fun _ _ => rfl⟩, ⟨⟨Nat.ne_of_beq_eq_false rfl, fun _ _ => rfl⟩, ⟨⟨Nat.ne_of_beq_eq_false rfl, fun _ _ => rfl⟩, ⟨⟨Nat.ne_of_beq_eq_false rfl, fun _ _ => rfl⟩, ⟨⟨Nat.ne_of_beq_eq_false rfl, fun _ _ => rfl⟩, trivial⟩⟩⟩⟩⟩⟩
theorem kp_law_left_lk : Keep tb_law_left V_law_left.put_lk 5 [0, 1, 2, 3, 4, 6] := ⟨⟨Nat.ne_of_beq_eq_false rfl, fun _ _ => rfl⟩, ⟨⟨Nat.ne_of_beq_eq_false rfl, fun _ _ => rfl⟩, ⟨⟨Nat.ne_of_beq_eq_false rfl, fun _ _ => rfl⟩, ⟨⟨Nat.ne_of_beq_eq_false rfl, fun _ _ => rfl⟩, ⟨⟨Nat.ne_of_beq_eq_false rfl, fun _ _ => rfl⟩, ⟨⟨Nat.ne_of_beq_eq_false rfl, fun _ _ => rfl⟩, trivial⟩⟩⟩⟩⟩⟩
theorem kp_law_left_lowners : Keep tb_law_left V_law_left.put_lowners 0 [1, 2, 3, 4, 5, 6] := ⟨⟨Nat.ne_of_beq_eq_false rfl, fun _ _ => rfl⟩, ⟨⟨Nat.ne_of_beq_eq_false rfl, fun _ _ => rfl⟩, ⟨⟨Nat.ne_of_beq_eq_false rfl, fun _ _ => rfl⟩, ⟨⟨Nat.ne_of_beq_eq_false rfl, fun _ _ => rfl⟩, ⟨⟨Nat.ne_of_beq_eq_false rfl, fun _ _ => rfl⟩, ⟨⟨Nat.ne_of_beq_eq_false rfl, fun _ _ => rfl⟩, trivial⟩⟩⟩⟩⟩⟩
theorem kp_law_left_lplayer : Keep tb_law_left V_law_left.put_lplayer 2 [0, 1, 3, 4, 5, 6] := ⟨⟨Nat.ne_of_beq_eq_false rfl, fun _ _ => rfl⟩, ⟨⟨Nat.ne_of_beq_eq_false rfl, fun _ _ => rfl⟩, ⟨⟨Nat.ne_of_beq_eq_false rfl, fun _ _ => rfl⟩, ⟨⟨Nat.ne_of_beq_eq_false rfl, fun _ _ => rfl⟩, ⟨⟨Nat.ne_of_beq_eq_false rfl, fun _ _ => rfl⟩, ⟨⟨Nat.ne_of_beq_eq_false rfl, fun _ _ => rfl⟩, trivial⟩⟩⟩⟩⟩⟩
theorem kp_law_left_lchoices : Keep tb_law_left V_law_left.put_lchoices 3 [0, 1, 2, 4, 5, 6] := ⟨⟨Nat.ne_of_beq_eq_false rfl, fun _ _ => rfl⟩, ⟨⟨Nat.ne_of_beq_eq_false rfl, fun _ _ => rfl⟩, ⟨⟨Nat.ne_of_beq_eq_false rfl, fun _ _ => rfl⟩, ⟨⟨Nat.ne_of_beq_eq_false rfl, fun _ _ => rfl⟩, ⟨⟨Nat.ne_of_beq_eq_false rfl, fun _ _ => rfl⟩, ⟨⟨Nat.ne_of_beq_eq_false rfl, fun _ _ => rfl⟩, trivial⟩⟩⟩⟩⟩⟩
def F_law_left : (Unit) → ((List Int) × (List (List Int)) × Int × (List Int) × Unit) → X (Unit) (List (List Int)) := yRun (fun (i : Unit) (a : (List Int) × (List (List Int)) × Int × (List Int) × Unit) => ({ lfound := default, lmoves := a.2.1, lk := default, lowners := a.1, lplayer := a.2.2.1, lchoices := a.2.2.2.1 } : V_law_left)) (fun s => (())) (none : Option (List (List Int))) (ySeq (ySet V_law_left.put_lfound (x1 (fun (x : Unit) => ([] : List (List Int))) xN)) (ySeq (yFor (x1o gRng1 (xCs (x1 (fun xs => (xs.length : Int)) (xV V_law_left.lmoves)) xN)) V_law_left.put_lk (yIf (x2 (fun a b => if true = true then !decide (a = b) else decide (a = b)) (x2o gIx (xV V_law_left.lowners) (xV V_law_left.lk)) (xV V_law_left.lplayer)) (yExpr (xMeth V_law_left.lfound V_law_left.put_lfound gApp (xCs (x1 (fun xs => xs) (x2o gIx (xV V_law_left.lmoves) (xV V_law_left.lk))) xN))) (yIf (x2 (fun i j : Int => decide (i < j)) (x2o gIx (xV V_law_left.lchoices) (xV V_law_left.lk)) (xC (0 : Int))) (yExpr (xMeth V_law_left.lfound V_law_left.put_lfound gApp (xCs (x1 (fun (x : Unit) => ([] : List Int)) xN) xN))) (yExpr (xMeth V_law_left.lfound V_law_left.put_lfound gApp (xCs (x1 (fun (x : Int × Unit) => ([x.1] : List Int)) (xCs (x2o gIx (xV V_law_left.lchoices) (xV V_law_left.lk)) xN)) xN)))))) (yRet (xV V_law_left.lfound))))
theorem ty_law_left : TFun (.fr (lV MV.int) (.fr (lV (lV MV.int)) (.fr MV.int (.fr (lV MV.int) (.nil)))) : PSpec (Unit) ((List Int) × (List (List Int)) × Int × (List Int) × Unit)) m_law_left F_law_left (fz (lV (lV MV.int))) := by
  unfold m_law_left F_law_left
  exact tf_mk (c := cx_law_left) (D0 := [0, 1, 2, 3]) (D1 := [])
   (ts_seq (ts_set (D0 := [0, 1, 2, 3]) 4 (tx_lst (va := (lV MV.int)) (fun _ => rfl) 0 (fun _ => rfl) (Ty.TPA.tx tpa_n)) (kp_law_left_lfound.sub rfl) (fun _ _ => rfl)) (ts_seq (ts_for (Dl := [4, 0, 1, 2, 3]) (D2 := [5, 4, 0, 1, 2, 3]) (ti_range1 (txa_c (Ty.TP.tx (tp_f1 f1_lenL (tp_v (i := 1) rfl rfl (fun _ => rfl)))) (Ty.TPA.tx tpa_n))) (tg_nm (D0 := [4, 0, 1, 2, 3]) 5 (kp_law_left_lk.sub rfl) (fun _ _ => rfl)) (ts_if (D' := [5, 4, 0, 1, 2, 3]) (txt_v (tx_2 (o_eq (neg := true) dt_int) (tx_2o (o_ixF sq_l) (Ty.TP.tx (tp_v (i := 0) rfl rfl (fun _ => rfl))) (Ty.TP.tx (tp_v (i := 5) rfl rfl (fun _ => rfl)))) (Ty.TP.tx (tp_v (i := 2) rfl rfl (fun _ => rfl))))) (ts_expr (tx_meth (D0 := [5, 0, 1, 2, 3]) 4 mo_app (txa_c (Ty.TP.tx (tp_f1 (f1_list sq_l) (tp_2o (o_ix sq_l) (tp_v (i := 1) rfl rfl (fun _ => rfl)) (tp_v (i := 5) rfl rfl (fun _ => rfl))))) (Ty.TPA.tx tpa_n)) (fun _ => rfl) (fun _ _ => rfl) (kp_law_left_lfound.sub rfl))) (ts_if (D' := [5, 4, 0, 1, 2, 3]) (txt_v (tx_2 o_lt (tx_2o (o_ixF sq_l) (Ty.TP.tx (tp_v (i := 3) rfl rfl (fun _ => rfl))) (Ty.TP.tx (tp_v (i := 5) rfl rfl (fun _ => rfl)))) (Ty.TP.tx (tp_c (val := MV.int) rfl)))) (ts_expr (tx_meth (D0 := [5, 0, 1, 2, 3]) 4 mo_app (txa_c (tx_a (oa_lst (vc := (lV MV.int)) (t := (fun (x : Unit) => ([] : List Int))) (fun _ => rfl) 0 (fun _ => rfl)) (Ty.TPA.tx tpa_n)) (Ty.TPA.tx tpa_n)) (fun _ => rfl) (fun _ _ => rfl) (kp_law_left_lfound.sub rfl))) (ts_expr (tx_meth (D0 := [5, 0, 1, 2, 3]) 4 mo_app (txa_c (tx_a (oa_lst (vc := (lV MV.int)) (t := (fun (x : Int × Unit) => ([x.1] : List Int))) (fun _ => rfl) 1 (fun _ => rfl)) (txa_c (tx_2o (o_ixF sq_l) (Ty.TP.tx (tp_v (i := 3) rfl rfl (fun _ => rfl))) (Ty.TP.tx (tp_v (i := 5) rfl rfl (fun _ => rfl)))) (Ty.TPA.tx tpa_n))) (Ty.TPA.tx tpa_n)) (fun _ => rfl) (fun _ _ => rfl) (kp_law_left_lfound.sub rfl)))))) (ts_frz (D0 := [0, 1, 2, 3]) 4 6 (ts_ret (Ty.TP.tx (tp_v (i := 6) rfl rfl (fun _ => rfl)))) (fun _ => frz_1 fix_l) rfl rfl (kp_law_left_lfound.sub rfl : Keep _ _ _ [0, 1, 2, 3]).same)))
   (fun _ _ => ⟨⟨rfl, rfl⟩, ⟨⟨rfl, rfl⟩, ⟨⟨rfl, rfl⟩, ⟨⟨rfl, rfl⟩, trivial⟩⟩⟩⟩) (fun _ => trivial) (fun r h => by cases h)
structure V_law_reached where
  lseen : (List Bool)
  lmoves : (List (List Int))
  lqueue : (List Int)
  lstarts : (List Int)
  lstart : Int
  lallowed : (List Bool)
  lat : Int
  ltarget : Int
@[reducible] def V_law_reached.put_lseen (s : V_law_reached) (v : (List Bool)) : V_law_reached := { s with lseen := v }
@[reducible] def V_law_reached.put_lmoves (s : V_law_reached) (v : (List (List Int))) : V_law_reached := { s with lmoves := v }
@[reducible] def V_law_reached.put_lqueue (s : V_law_reached) (v : (List Int)) : V_law_reached := { s with lqueue := v }
@[reducible] def V_law_reached.put_lstarts (s : V_law_reached) (v : (List Int)) : V_law_reached := { s with lstarts := v }
@[reducible] def V_law_reached.put_lstart (s : V_law_reached) (v : Int) : V_law_reached := { s with lstart := v }
@[reducible] def V_law_reached.put_lallowed (s : V_law_reached) (v : (List Bool)) : V_law_reached := { s with lallowed := v }
@[reducible] def V_law_reached.put_lat (s : V_law_reached) (v : Int) : V_law_reached := { s with lat := v }
@[reducible] def V_law_reached.put_ltarget (s : V_law_reached) (v : Int) : V_law_reached := { s with ltarget := v }
def tb_law_reached : Nat → Slot V_law_reached
  | 0 => ⟨0, fun s => (fz (lV (lV MV.int))) s.lmoves⟩
  | 1 => ⟨1, fun s => (fz (lV MV.int)) s.lstarts⟩
  | 2 => ⟨2, fun s => (fz (lV MV.bl)) s.lallowed⟩
  | 3 => ⟨3, fun s => (own1 MV.bl) s.lseen⟩
  | 4 => ⟨4, fun s => (own1 MV.int) s.lqueue⟩
  | 5 => ⟨5, fun s => (fz MV.int) s.lstart⟩
  | 6 => ⟨6, fun s => (fz MV.int) s.lat⟩
  | 7 => ⟨7, fun s => (fz MV.int) s.ltarget⟩
  | 8 => ⟨3, fun s => (fz (lV MV.bl)) s.lseen⟩
  | _ => ⟨0, fun _ => fz nV ()⟩
abbrev cx_law_reached : Cx V_law_reached (List Bool) := ⟨tb_law_reached, 8, [], [], [], [], (fz (lV MV.bl))⟩
theorem kp_law_reached_lseen : Keep tb_law_reached V_law_reached.put_lseen 3 [0, 1, 2, 4, 5, 6, 7] := ⟨⟨Nat.ne_of_beq_eq_false rfl, fun _ _ => rfl⟩, ⟨⟨Nat.ne_of_beq_eq_false rfl, fun _ _ => rfl⟩, ⟨⟨Nat.ne_of_beq_eq_false rfl, fun _ _ => rfl⟩, ⟨⟨Nat.ne_of_beq_eq_false rfl, fun _ _ => rfl⟩, ⟨⟨Nat.ne_of_beq_eq_false rfl, fun _ _ => rfl⟩, ⟨⟨Nat.ne_of_beq_eq_false rfl, fun _ _ => rfl⟩, ⟨⟨Nat.ne_of_beq_eq_false rfl, fun _ _ => rfl⟩, trivial⟩⟩⟩⟩⟩⟩⟩
theorem kp_law_reached_lmoves : Keep tb_law_reached V_law_reached.put_lmoves 0 [1, 2, 3, 4, 5, 6, 7, 8] := ⟨⟨Nat.ne_of_beq_eq_false rfl, fun _ _ => rfl⟩, ⟨⟨Nat.ne_of_beq_eq_false rfl, fun _ _ => rfl⟩, ⟨⟨Nat.ne_of_beq_eq_false rfl, fun _ _ => rfl⟩, ⟨⟨Nat.ne_of_beq_eq_false rfl, fun _ _ => rfl⟩, ⟨⟨Nat.ne_of_beq_eq_false rfl, fun _ _ => rfl⟩, ⟨⟨Nat.ne_of_beq_eq_false rfl, fun _ _ => rfl⟩, ⟨⟨Nat.ne_of_beq_eq_false rfl, fun _ _ => rfl⟩, ⟨⟨Nat.ne_of_beq_eq_false rfl, fun _ _ => rfl⟩, trivial⟩⟩⟩⟩⟩⟩⟩⟩
theorem kp_law_reached_lqueue : Keep tb_law_reached V_law_reached.put_lqueue 4 [0, 1, 2, 3, 5, 6, 7, 8] := ⟨⟨Nat.ne_of_beq_eq_false rfl, fun _ _ => rfl⟩, ⟨⟨Nat.ne_of_beq_eq_false rfl, fun _ _ => rfl⟩, ⟨⟨Nat.ne_of_beq_eq_false rfl, fun _ _ => rfl⟩, ⟨⟨Nat.ne_of_beq_eq_false rfl, fun _ _ => rfl⟩, ⟨⟨Nat.ne_of_beq_eq_false rfl, fun _ _ => rfl⟩, ⟨⟨Nat.ne_of_beq_eq_false rfl, fun _ _ => rfl⟩, ⟨⟨Nat.ne_of_beq_eq_false rfl, fun _ _ => rfl⟩, ⟨⟨Nat.ne_of_beq_eq_false rfl, fun _ _ => rfl⟩, trivial⟩⟩⟩⟩⟩⟩⟩⟩
theorem kp_law_reached_lstarts : Keep tb_law_reached V_law_reached.put_lstarts 1 [0, 2, 3, 4, 5, 6, 7, 8] := ⟨⟨Nat.ne_of_beq_eq_false rfl, fun _ _ => rfl⟩, ⟨⟨Nat.ne_of_beq_eq_false rfl, fun _ _ => rfl⟩, ⟨⟨Nat.ne_of_beq_eq_false rfl, fun _ _ => rfl⟩, ⟨⟨Nat.ne_of_beq_eq_false rfl, fun _ _ => rfl⟩, ⟨⟨Nat.ne_of_beq_eq_false rfl, fun _ _ => rfl⟩, ⟨⟨Nat.ne_of_beq_eq_false rfl, fun _ _ => rfl⟩, ⟨⟨Nat.ne_of_beq_eq_false rfl, fun _ _ => rfl⟩, ⟨⟨Nat.ne_of_beq_eq_false rfl, fun _ _ => rfl⟩, trivial⟩⟩⟩⟩⟩⟩⟩⟩
theorem kp_law_reached_lstart : Keep tb_law_reached V_law_reached.put_lstart 5 [0, 1, 2, 3, 4, 6, 7, 8] := ⟨⟨Nat.ne_of_beq_eq_false rfl, fun _ _ => rfl⟩, ⟨⟨Nat.ne_of_beq_eq_false rfl, fun _ _ => rfl⟩, ⟨⟨Nat.ne_of_beq_eq_false rfl, fun _ _ => rfl⟩, ⟨⟨Nat.ne_of_beq_eq_false rfl, fun _ _ => rfl⟩, ⟨⟨Nat.ne_of_beq_eq_false rfl, fun _ _ => rfl⟩, ⟨⟨Nat.ne_of_beq_eq_false rfl, fun _ _ => rfl⟩, ⟨⟨Nat.ne_of_beq_eq_false rfl, fun _ _ => rfl⟩, ⟨⟨Nat.ne_of_beq_eq_false rfl, fun _ _ => rfl⟩, trivial⟩⟩⟩⟩⟩⟩⟩⟩
theorem kp_law_reached_lallowed : Keep tb_law_reached V_law_reached.put_lallowed 2 [0, 1, 3, 4, 5, 6, 7, 8] := ⟨⟨Nat.ne_of_beq_eq_false rfl, fun _ _ => rfl⟩, ⟨⟨Nat.ne_of_beq_eq_false rfl, fun _ _ => rfl⟩, ⟨⟨Nat.ne_of_beq_eq_false rfl, fun _ _ => rfl⟩, ⟨⟨Nat.ne_of_beq_eq_false rfl, fun _ _ => rfl⟩, ⟨⟨Nat.ne_of_beq_eq_false rfl, fun _ _ => rfl⟩, ⟨⟨Nat.ne_of_beq_eq_false rfl, fun _ _ => rfl⟩, ⟨⟨Nat.ne_of_beq_eq_false rfl, fun _ _ => rfl⟩, ⟨⟨Nat.ne_of_beq_eq_false rfl, fun _ _ => rfl⟩, trivial⟩⟩⟩⟩⟩⟩⟩⟩
theorem kp_law_reached_lat : Keep tb_law_reached V_law_reached.put_lat 6 [0, 1, 2, 3, 4, 5, 7, 8] := ⟨⟨Nat.ne_of_beq_eq_false rfl, fun _ _ => rfl⟩, ⟨⟨Nat.ne_of_beq_eq_false rfl, fun _ _ => rfl⟩, ⟨⟨Nat.ne_of_beq_eq_false rfl, fun _ _ => rfl⟩, ⟨⟨Nat.ne_of_beq_eq_false rfl, fun _ _ => rfl⟩, ⟨⟨Nat.ne_of_beq_eq_false rfl, fun _ _ => rfl⟩, ⟨⟨Nat.ne_of_beq_eq_false rfl, fun _ _ => rfl⟩, ⟨⟨Nat.ne_of_beq_eq_false rfl, fun _ _ => rfl⟩, ⟨⟨Nat.ne_of_beq_eq_false rfl, fun _ _ => rfl⟩, trivial⟩⟩⟩⟩⟩⟩⟩⟩
theorem kp_law_reached_ltarget : Keep tb_law_reached V_law_reached.put_ltarget 7 [0, 1, 2, 3, 4, 5, 6, 8] := ⟨⟨Nat.ne_of_beq_eq_false rfl, fun _ _ => rfl⟩, ⟨⟨Nat.ne_of_beq_eq_false rfl, fun _ _ => rfl⟩, ⟨⟨Nat.ne_of_beq_eq_false rfl, fun _ _ => rfl⟩, ⟨⟨Nat.ne_of_beq_eq_false rfl, fun _ _ => rfl⟩, ⟨⟨Nat.ne_of_beq_eq_false rfl, fun _ _ => rfl⟩, ⟨⟨Nat.ne_of_beq_eq_false rfl, fun _ _ => rfl⟩, ⟨⟨Nat.ne_of_beq_eq_false rfl, fun _ _ => rfl⟩, ⟨⟨Nat.ne_of_beq_eq_false rfl, fun _ _ => rfl⟩, trivial⟩⟩⟩⟩⟩⟩⟩⟩
def F_law_reached : (Unit) → ((List (List Int)) × (List Int) × (List Bool) × Unit) → X (Unit) (List Bool) := yRun (fun (i : Unit) (a : (List (List Int)) × (List Int) × (List Bool) × Unit) => ({ lseen := default, lmoves := a.1, lqueue := default, lstarts := a.2.1, lstart := default, lallowed := a.2.2.1, lat := default, ltarget := default } : V_law_reached)) (fun s => (())) (none : Option (List Bool)) (ySeq (ySet V_law_reached.put_lseen (x1 id (x2o gRep (x1 (fun (x : Bool × Unit) => ([x.1] : List Bool)) (xCs (xC false) xN)) (x1 (fun xs => (xs.length : Int)) (xV V_law_reached.lmoves))))) (ySeq (ySet V_law_reached.put_lqueue (x1 (fun (x : Unit) => ([] : List Int)) xN)) (ySeq (yFor (xV V_law_reached.lstarts) V_law_reached.put_lstart (yIf (xAnd (x2o gIx (xV V_law_reached.lallowed) (xV V_law_reached.lstart)) (xNot (x2o gIx (xV V_law_reached.lseen) (xV V_law_reached.lstart)))) (ySeq (ySetI V_law_reached.lseen V_law_reached.put_lseen (xC true) (xV V_law_reached.lstart)) (yExpr (xMeth V_law_reached.lqueue V_law_reached.put_lqueue gApp (xCs (xV V_law_reached.lstart) xN)))) yNil)) (ySeq (yFor (x1o gRng1 (xCs (x1 (fun xs => (xs.length : Int)) (xV V_law_reached.lmoves)) xN)) V_law_reached.put_lat (yIf (x2 (fun i j : Int => decide (i < j)) (xV V_law_reached.lat) (x1 (fun xs => (xs.length : Int)) (xV V_law_reached.lqueue))) (yFor (x2o gIx (xV V_law_reached.lmoves) (x2o gIx (xV V_law_reached.lqueue) (xV V_law_reached.lat))) V_law_reached.put_ltarget (yIf (xAnd (x2o gIx (xV V_law_reached.lallowed) (xV V_law_reached.ltarget)) (xNot (x2o gIx (xV V_law_reached.lseen) (xV V_law_reached.ltarget)))) (ySeq (ySetI V_law_reached.lseen V_law_reached.put_lseen (xC true) (xV V_law_reached.ltarget)) (yExpr (xMeth V_law_reached.lqueue V_law_reached.put_lqueue gApp (xCs (xV V_law_reached.ltarget) xN)))) yNil)) yNil)) (yRet (xV V_law_reached.lseen))))))
theorem ty_law_reached : TFun (.fr (lV (lV MV.int)) (.fr (lV MV.int) (.fr (lV MV.bl) (.nil))) : PSpec (Unit) ((List (List Int)) × (List Int) × (List Bool) × Unit)) m_law_reached F_law_reached (fz (lV MV.bl)) := by
  unfold m_law_reached F_law_reached
  exact tf_mk (c := cx_law_reached) (D0 := [0, 1, 2]) (D1 := [])
   (ts_seq (ts_set (D0 := [0, 1, 2]) 3 (tx_new2 (o_repG lw_l) (tp_a (oa_lst (vc := (lV MV.bl)) (t := (fun (x : Bool × Unit) => ([x.1] : List Bool))) (fun _ => rfl) 1 (fun _ => rfl)) (tpa_c (tp_c (val := MV.bl) rfl) tpa_n)) (tp_f1 f1_lenL (tp_v (i := 0) rfl rfl (fun _ => rfl)))) (kp_law_reached_lseen.sub rfl) (fun _ _ => rfl)) (ts_seq (ts_set (D0 := [3, 0, 1, 2]) 4 (tx_lst (va := MV.int) (fun _ => rfl) 0 (fun _ => rfl) (Ty.TPA.tx tpa_n)) (kp_law_reached_lqueue.sub rfl) (fun _ _ => rfl)) (ts_seq (ts_for (Dl := [4, 3, 0, 1, 2]) (D2 := [5, 4, 3, 0, 1, 2]) (ti_l (Ty.TP.tx (tp_v (i := 1) rfl rfl (fun _ => rfl)))) (tg_nm (D0 := [4, 3, 0, 1, 2]) 5 (kp_law_reached_lstart.sub rfl) (fun _ _ => rfl)) (ts_if (D' := [5, 4, 3, 0, 1, 2]) (txt_and (txt_v (tx_2o (o_ixF sq_l) (Ty.TP.tx (tp_v (i := 2) rfl rfl (fun _ => rfl))) (Ty.TP.tx (tp_v (i := 5) rfl rfl (fun _ => rfl))))) (txt_not (txt_v (Ty.TP.tx (tp_2o (o_ix sq_o) (tp_v (i := 3) rfl rfl (fun _ => rfl)) (tp_v (i := 5) rfl rfl (fun _ => rfl))))))) (ts_seq (ts_setI (D0 := [5, 4, 0, 1, 2]) 3 (Ty.TP.tx (tp_c (val := MV.bl) rfl)) (tp_v (i := 5) rfl rfl (fun _ => rfl)) (fun _ => rfl) (fun _ _ => rfl) (kp_law_reached_lseen.sub rfl)) (ts_expr (tx_meth (D0 := [5, 3, 0, 1, 2]) 4 mo_app (txa_c (Ty.TP.tx (tp_v (i := 5) rfl rfl (fun _ => rfl))) (Ty.TPA.tx tpa_n)) (fun _ => rfl) (fun _ _ => rfl) (kp_law_reached_lqueue.sub rfl)))) ts_nil)) (ts_seq (ts_for (Dl := [4, 3, 0, 1, 2]) (D2 := [6, 4, 3, 0, 1, 2]) (ti_range1 (txa_c (Ty.TP.tx (tp_f1 f1_lenL (tp_v (i := 0) rfl rfl (fun _ => rfl)))) (Ty.TPA.tx tpa_n))) (tg_nm (D0 := [4, 3, 0, 1, 2]) 6 (kp_law_reached_lat.sub rfl) (fun _ _ => rfl)) (ts_if (D' := [6, 4, 3, 0, 1, 2]) (txt_v (tx_2 o_lt (Ty.TP.tx (tp_v (i := 6) rfl rfl (fun _ => rfl))) (Ty.TP.tx (tp_f1 f1_lenO (tp_v (i := 4) rfl rfl (fun _ => rfl)))))) (ts_for (Dl := [6, 4, 3, 0, 1, 2]) (D2 := [7, 6, 4, 3, 0, 1, 2]) (ti_l (tx_2o (o_ixF sq_l) (Ty.TP.tx (tp_v (i := 0) rfl rfl (fun _ => rfl))) (Ty.TP.tx (tp_2o (o_ix sq_o) (tp_v (i := 4) rfl rfl (fun _ => rfl)) (tp_v (i := 6) rfl rfl (fun _ => rfl)))))) (tg_nm (D0 := [6, 4, 3, 0, 1, 2]) 7 (kp_law_reached_ltarget.sub rfl) (fun _ _ => rfl)) (ts_if (D' := [7, 6, 4, 3, 0, 1, 2]) (txt_and (txt_v (tx_2o (o_ixF sq_l) (Ty.TP.tx (tp_v (i := 2) rfl rfl (fun _ => rfl))) (Ty.TP.tx (tp_v (i := 7) rfl rfl (fun _ => rfl))))) (txt_not (txt_v (Ty.TP.tx (tp_2o (o_ix sq_o) (tp_v (i := 3) rfl rfl (fun _ => rfl)) (tp_v (i := 7) rfl rfl (fun _ => rfl))))))) (ts_seq (ts_setI (D0 := [7, 6, 4, 0, 1, 2]) 3 (Ty.TP.tx (tp_c (val := MV.bl) rfl)) (tp_v (i := 7) rfl rfl (fun _ => rfl)) (fun _ => rfl) (fun _ _ => rfl) (kp_law_reached_lseen.sub rfl)) (ts_expr (tx_meth (D0 := [7, 6, 3, 0, 1, 2]) 4 mo_app (txa_c (Ty.TP.tx (tp_v (i := 7) rfl rfl (fun _ => rfl))) (Ty.TPA.tx tpa_n)) (fun _ => rfl) (fun _ _ => rfl) (kp_law_reached_lqueue.sub rfl)))) ts_nil)) ts_nil)) (ts_frz (D0 := [4, 0, 1, 2]) 3 8 (ts_ret (Ty.TP.tx (tp_v (i := 8) rfl rfl (fun _ => rfl)))) (fun _ => frz_1 fix_bl) rfl rfl (kp_law_reached_lseen.sub rfl : Keep _ _ _ [4, 0, 1, 2]).same)))))
   (fun _ _ => ⟨⟨rfl, rfl⟩, ⟨⟨rfl, rfl⟩, ⟨⟨rfl, rfl⟩, trivial⟩⟩⟩) (fun _ => trivial) (fun r h => by cases h)
structure V_law_wins where
  lcount : Int
  lmoves : (List (List Int))
  lseen : (List Bool)
  lstart : Int
  lk : Int
  lpriorities : (List Int)
  lplayer : Int
  llow : (List Bool)
  lj_c0 : Int
@[reducible] def V_law_wins.put_lcount (s : V_law_wins) (v : Int) : V_law_wins := { s with lcount := v }
@[reducible] def V_law_wins.put_lmoves (s : V_law_wins) (v : (List (List Int))) : V_law_wins := { s with lmoves := v }
@[reducible] def V_law_wins.put_lseen (s : V_law_wins) (v : (List Bool)) : V_law_wins := { s with lseen := v }
@[reducible] def V_law_wins.put_lstart (s : V_law_wins) (v : Int) : V_law_wins := { s with lstart := v }
@[reducible] def V_law_wins.put_lk (s : V_law_wins) (v : Int) : V_law_wins := { s with lk := v }
@[reducible] def V_law_wins.put_lpriorities (s : V_law_wins) (v : (List Int)) : V_law_wins := { s with lpriorities := v }
@[reducible] def V_law_wins.put_lplayer (s : V_law_wins) (v : Int) : V_law_wins := { s with lplayer := v }
@[reducible] def V_law_wins.put_llow (s : V_law_wins) (v : (List Bool)) : V_law_wins := { s with llow := v }
@[reducible] def V_law_wins.put_lj_c0 (s : V_law_wins) (v : Int) : V_law_wins := { s with lj_c0 := v }
def tb_law_wins : Nat → Slot V_law_wins
  | 0 => ⟨0, fun s => (fz (lV MV.int)) s.lpriorities⟩
  | 1 => ⟨1, fun s => (fz (lV (lV MV.int))) s.lmoves⟩
  | 2 => ⟨2, fun s => (fz MV.int) s.lplayer⟩
  | 3 => ⟨3, fun s => (fz MV.int) s.lstart⟩
  | 4 => ⟨4, fun s => (fz MV.int) s.lcount⟩
  | 5 => ⟨5, fun s => (fz (lV MV.bl)) s.lseen⟩
  | 6 => ⟨6, fun s => (fz MV.int) s.lk⟩
  | 7 => ⟨7, fun s => (fz (lV MV.bl)) s.llow⟩
  | 8 => ⟨8, fun s => (fz MV.int) s.lj_c0⟩
  | _ => ⟨0, fun _ => fz nV ()⟩
abbrev cx_law_wins : Cx V_law_wins Bool := ⟨tb_law_wins, 9, [], [], [], [], (fz MV.bl)⟩
theorem kp_law_wins_lcount : Keep tb_law_wins V_law_wins.put_lcount 4 [0, 1, 2, 3, 5, 6, 7, 8] := ⟨⟨Nat.ne_of_beq_eq_false rfl, fun _ _ => rfl⟩, ⟨⟨Nat.ne_of_beq_eq_false rfl, fun _ _ => rfl⟩, ⟨⟨Nat.ne_of_beq_eq_false rfl, fun _ _ => rfl⟩, ⟨⟨Nat.ne_of_beq_eq_false rfl, fun _ _ => rfl⟩, ⟨⟨Nat.ne_of_beq_eq_false rfl, fun _ _ => rfl⟩, ⟨⟨Nat.ne_of_beq_eq_false rfl, fun _ _ => rfl⟩, ⟨⟨Nat.ne_of_beq_eq_false rfl, fun _ _ => rfl⟩, ⟨⟨Nat.ne_of_beq_eq_false rfl, fun _ _ => rfl⟩, trivial⟩⟩⟩⟩⟩⟩⟩⟩
theorem kp_law_wins_lmoves : Keep tb_law_wins V_law_wins.put_lmoves 1 [0, 2, 3, 4, 5, 6, 7, 8] := ⟨⟨Nat.ne_of_beq_eq_false rfl, fun _ _ => rfl⟩, ⟨⟨Nat.ne_of_beq_eq_false rfl, fun _ _ => rfl⟩, ⟨⟨Nat.ne_of_beq_eq_false rfl, fun _ _ => rfl⟩, ⟨⟨Nat.ne_of_beq_eq_false rfl, fun _ _ => rfl⟩, ⟨⟨Nat.ne_of_beq_eq_false rfl, fun _ _ => rfl⟩, ⟨⟨Nat.ne_of_beq_eq_false rfl, fun _ _ => rfl⟩, ⟨⟨Nat.ne_of_beq_eq_false rfl, fun _ _ => rfl⟩, ⟨⟨Nat.ne_of_beq_eq_false rfl, fun _ _ => rfl⟩, trivial⟩⟩⟩⟩⟩⟩⟩⟩
theorem kp_law_wins_lseen : Keep tb_law_wins V_law_wins.put_lseen 5 [0, 1, 2, 3, 4, 6, 7, 8] := ⟨⟨Nat.ne_of_beq_eq_false rfl, fun _ _ => rfl⟩, ⟨⟨Nat.ne_of_beq_eq_false rfl, fun _ _ => rfl⟩, ⟨⟨Nat.ne_of_beq_eq_false rfl, fun _ _ => rfl⟩, ⟨⟨Nat.ne_of_beq_eq_false rfl, fun _ _ => rfl⟩, ⟨⟨Nat.ne_of_beq_eq_false rfl, fun _ _ => rfl⟩, ⟨⟨Nat.ne_of_beq_eq_false rfl, fun _ _ => rfl⟩, ⟨⟨Nat.ne_of_beq_eq_false rfl, fun _ _ => rfl⟩, ⟨⟨Nat.ne_of_beq_eq_false rfl, fun _ _ => rfl⟩, trivial⟩⟩⟩⟩⟩⟩⟩⟩
theorem kp_law_wins_lstart : Keep tb_law_wins V_law_wins.put_lstart 3 [0, 1, 2, 4, 5, 6, 7, 8] := ⟨⟨Nat.ne_of_beq_eq_false rfl, fun _ _ => rfl⟩, ⟨⟨Nat.ne_of_beq_eq_false rfl, fun _ _ => rfl⟩, ⟨⟨Nat.ne_of_beq_eq_false rfl, fun _ _ => rfl⟩, ⟨⟨Nat.ne_of_beq_eq_false rfl, fun _ _ => rfl⟩, ⟨⟨Nat.ne_of_beq_eq_false rfl, fun _ _ => rfl⟩, ⟨⟨Nat.ne_of_beq_eq_false rfl, fun _ _ => rfl⟩, ⟨⟨Nat.ne_of_beq_eq_false rfl, fun _ _ => rfl⟩, ⟨⟨Nat.ne_of_beq_eq_false rfl, fun _ _ => rfl⟩, trivial⟩⟩⟩⟩⟩⟩⟩⟩
theorem kp_law_wins_lk : Keep tb_law_wins V_law_wins.put_lk 6 [0, 1, 2, 3, 4, 5, 7, 8] := ⟨⟨Nat.ne_of_beq_eq_false rfl, fun _ _ => rfl⟩, ⟨⟨Nat.ne_of_beq_eq_false rfl, fun _ _ => rfl⟩, ⟨⟨Nat.ne_of_beq_eq_false rfl, fun _ _ => rfl⟩, ⟨⟨Nat.ne_of_beq_eq_false rfl, fun _ _ => rfl⟩, ⟨⟨Nat.ne_of_beq_eq_false rfl, fun _ _ => rfl⟩, ⟨⟨Nat.ne_of_beq_eq_false rfl, fun _ _ => rfl⟩, ⟨⟨Nat.ne_of_beq_eq_false rfl, fun _ _ => rfl⟩, ⟨⟨Nat.ne_of_beq_eq_false rfl, fun _ _ => rfl⟩, trivial⟩⟩⟩⟩⟩⟩⟩⟩
theorem kp_law_wins_lpriorities : Keep tb_law_wins V_law_wins.put_lpriorities 0 [1, 2, 3, 4, 5, 6, 7, 8] := ⟨⟨Nat.ne_of_beq_eq_false rfl, fun _ _ => rfl⟩, ⟨⟨Nat.ne_of_beq_eq_false rfl, fun _ _ => rfl⟩, ⟨⟨Nat.ne_of_beq_eq_false rfl, fun _ _ => rfl⟩, ⟨⟨Nat.ne_of_beq_eq_false rfl, fun _ _ => rfl⟩, ⟨⟨Nat.ne_of_beq_eq_false rfl, fun _ _ => rfl⟩, ⟨⟨Nat.ne_of_beq_eq_false rfl, fun _ _ => rfl⟩, ⟨⟨Nat.ne_of_beq_eq_false rfl, fun _ _ => rfl⟩, ⟨⟨Nat.ne_of_beq_eq_false rfl, fun _ _ => rfl⟩, trivial⟩⟩⟩⟩⟩⟩⟩⟩
theorem kp_law_wins_lplayer : Keep tb_law_wins V_law_wins.put_lplayer 2 [0, 1, 3, 4, 5, 6, 7, 8] := ⟨⟨Nat.ne_of_beq_eq_false rfl, fun _ _ => rfl⟩, ⟨⟨Nat.ne_of_beq_eq_false rfl, fun _ _ => rfl⟩, ⟨⟨Nat.ne_of_beq_eq_false rfl, fun _ _ => rfl⟩, ⟨⟨Nat.ne_of_beq_eq_false rfl, fun _ _ => rfl⟩, ⟨⟨Nat.ne_of_beq_eq_false rfl, fun _ _ => rfl⟩, ⟨⟨Nat.ne_of_beq_eq_false rfl, fun _ _ => rfl⟩, ⟨⟨Nat.ne_of_beq_eq_false rfl, fun _ _ => rfl⟩, ⟨⟨Nat.ne_of_beq_eq_false rfl, fun _ _ => rfl⟩, trivial⟩⟩⟩⟩⟩⟩⟩⟩
theorem kp_law_wins_llow : Keep tb_law_wins V_law_wins.put_llow 7 [0, 1, 2, 3, 4, 5, 6, 8] := ⟨⟨Nat.ne_of_beq_eq_false rfl, fun _ _ => rfl⟩, ⟨⟨Nat.ne_of_beq_eq_false rfl, fun _ _ => rfl⟩, ⟨⟨Nat.ne_of_beq_eq_false rfl, fun _ _ => rfl⟩, ⟨⟨Nat.ne_of_beq_eq_false rfl, fun _ _ => rfl⟩, ⟨⟨Nat.ne_of_beq_eq_false rfl, fun _ _ => rfl⟩, ⟨⟨Nat.ne_of_beq_eq_false rfl, fun _ _ => rfl⟩, ⟨⟨Nat.ne_of_beq_eq_false rfl, fun _ _ => rfl⟩, ⟨⟨Nat.ne_of_beq_eq_false rfl, fun _ _ => rfl⟩, trivial⟩⟩⟩⟩⟩⟩⟩⟩
theorem kp_law_wins_lj_c0 : Keep tb_law_wins V_law_wins.put_lj_c0 8 [0, 1, 2, 3, 4, 5, 6, 7] := ⟨⟨Nat.ne_of_beq_eq_false rfl, fun _ _ => rfl⟩, ⟨⟨Nat.ne_of_beq_eq_false rfl, fun _ _ => rfl⟩, ⟨⟨Nat.ne_of_beq_eq_false rfl, fun _ _ => rfl⟩, ⟨⟨Nat.ne_of_beq_eq_false rfl, fun _ _ => rfl⟩, ⟨⟨Nat.ne_of_beq_eq_false rfl, fun _ _ => rfl⟩, ⟨⟨Nat.ne_of_beq_eq_false rfl, fun _ _ => rfl⟩, ⟨⟨Nat.ne_of_beq_eq_false rfl, fun _ _ => rfl⟩, ⟨⟨Nat.ne_of_beq_eq_false rfl, fun _ _ => rfl⟩, trivial⟩⟩⟩⟩⟩⟩⟩⟩
def F_law_wins : (Unit) → ((List Int) × (List (List Int)) × Int × Int × Unit) → X (Unit) Bool := yRun (fun (i : Unit) (a : (List Int) × (List (List Int)) × Int × Int × Unit) => ({ lcount := default, lmoves := a.2.1, lseen := default, lstart := a.2.2.2.1, lk := default, lpriorities := a.1, lplayer := a.2.2.1, llow := default, lj_c0 := default } : V_law_wins)) (fun s => (())) (none : Option Bool) (ySeq (ySet V_law_wins.put_lcount (x1 (fun xs => (xs.length : Int)) (xV V_law_wins.lmoves))) (ySeq (ySet V_law_wins.put_lseen (xCall F_law_reached (fun _ => ()) (fun s _ => s) (xCs (xV V_law_wins.lmoves) (xCs (x1 (fun (x : Int × Unit) => ([x.1] : List Int)) (xCs (xV V_law_wins.lstart) xN)) (xCs (x2o gRep (x1 (fun (x : Bool × Unit) => ([x.1] : List Bool)) (xCs (xC true) xN)) (xV V_law_wins.lcount)) (xC ())))))) (ySeq (yFor (x1o gRng1 (xCs (xV V_law_wins.lcount) xN)) V_law_wins.put_lk (yIf (xAnd (x2o gIx (xV V_law_wins.lseen) (xV V_law_wins.lk)) (x2 (fun a b => if false = true then !decide (a = b) else decide (a = b)) (x1 (fun xs => (xs.length : Int)) (x2o gIx (xV V_law_wins.lmoves) (xV V_law_wins.lk))) (xC (0 : Int)))) (yRet (xC false)) yNil)) (ySeq (yFor (x1o gRng1 (xCs (xV V_law_wins.lcount) xN)) V_law_wins.put_lk (yIf (xAnd (x2o gIx (xV V_law_wins.lseen) (xV V_law_wins.lk)) (x2 (fun a b => if true = true then !decide (a = b) else decide (a = b)) (x2o gMod (x1 (fun i : Int => i) (x2o gIx (xV V_law_wins.lpriorities) (xV V_law_wins.lk))) (xC (2 : Int))) (xV V_law_wins.lplayer))) (ySeq (ySet V_law_wins.put_llow (xComp (x1o gRng1 (xCs (xV V_law_wins.lcount) xN)) V_law_wins.put_lj_c0 xYes (x2 (fun i j : Int => decide (i ≤ j)) (x2o gIx (xV V_law_wins.lpriorities) (xV V_law_wins.lj_c0)) (x2o gIx (xV V_law_wins.lpriorities) (xV V_law_wins.lk))))) (yIf (x2o gIx (xCall F_law_reached (fun _ => ()) (fun s _ => s) (xCs (xV V_law_wins.lmoves) (xCs (x2o gIx (xV V_law_wins.lmoves) (xV V_law_wins.lk)) (xCs (xV V_law_wins.llow) (xC ()))))) (xV V_law_wins.lk)) (yRet (xC false)) yNil)) yNil)) (yRet (xC true))))))
theorem ty_law_wins : TFun (.fr (lV MV.int) (.fr (lV (lV MV.int)) (.fr MV.int (.fr MV.int (.nil)))) : PSpec (Unit) ((List Int) × (List (List Int)) × Int × Int × Unit)) m_law_wins F_law_wins (fz MV.bl) := by
  unfold m_law_wins F_law_wins
  exact tf_mk (c := cx_law_wins) (D0 := [0, 1, 2, 3]) (D1 := [])
   (ts_seq (ts_set (D0 := [0, 1, 2, 3]) 4 (Ty.TP.tx (tp_f1 f1_lenL (tp_v (i := 1) rfl rfl (fun _ => rfl)))) (kp_law_wins_lcount.sub rfl) (fun _ _ => rfl)) (ts_seq (ts_set (D0 := [4, 0, 1, 2, 3]) 5 (tx_call ty_law_reached (txp_f (Ty.TP.tx (tp_v (i := 1) rfl rfl (fun _ => rfl))) (txp_f (tx_a (oa_lst (vc := (lV MV.int)) (t := (fun (x : Int × Unit) => ([x.1] : List Int))) (fun _ => rfl) 1 (fun _ => rfl)) (txa_c (Ty.TP.tx (tp_v (i := 3) rfl rfl (fun _ => rfl))) (Ty.TPA.tx tpa_n))) (txp_f (tx_2o o_repF (tx_a (oa_lst (vc := (lV MV.bl)) (t := (fun (x : Bool × Unit) => ([x.1] : List Bool))) (fun _ => rfl) 1 (fun _ => rfl)) (txa_c (Ty.TP.tx (tp_c (val := MV.bl) rfl)) (Ty.TPA.tx tpa_n))) (Ty.TP.tx (tp_v (i := 4) rfl rfl (fun _ => rfl)))) txp_n)))) (kp_law_wins_lseen.sub rfl) (fun _ _ => rfl)) (ts_seq (ts_for (Dl := [5, 4, 0, 1, 2, 3]) (D2 := [6, 5, 4, 0, 1, 2, 3]) (ti_range1 (txa_c (Ty.TP.tx (tp_v (i := 4) rfl rfl (fun _ => rfl))) (Ty.TPA.tx tpa_n))) (tg_nm (D0 := [5, 4, 0, 1, 2, 3]) 6 (kp_law_wins_lk.sub rfl) (fun _ _ => rfl)) (ts_if (D' := [6, 5, 4, 0, 1, 2, 3]) (D1 := [6, 5, 4, 0, 1, 2, 3]) (txt_and (txt_v (tx_2o (o_ixF sq_l) (Ty.TP.tx (tp_v (i := 5) rfl rfl (fun _ => rfl))) (Ty.TP.tx (tp_v (i := 6) rfl rfl (fun _ => rfl))))) (txt_v (tx_2 (o_eq (neg := false) dt_int) (Ty.TP.tx (tp_f1 f1_lenL (tp_2o (o_ix sq_l) (tp_v (i := 1) rfl rfl (fun _ => rfl)) (tp_v (i := 6) rfl rfl (fun _ => rfl))))) (Ty.TP.tx (tp_c (val := MV.int) rfl))))) (ts_ret (Ty.TP.tx (tp_c (val := MV.bl) rfl))) ts_nil)) (ts_seq (ts_for (Dl := [5, 4, 0, 1, 2, 3]) (D2 := [6, 5, 4, 0, 1, 2, 3]) (ti_range1 (txa_c (Ty.TP.tx (tp_v (i := 4) rfl rfl (fun _ => rfl))) (Ty.TPA.tx tpa_n))) (tg_nm (D0 := [5, 4, 0, 1, 2, 3]) 6 (kp_law_wins_lk.sub rfl) (fun _ _ => rfl)) (ts_if (D' := [6, 5, 4, 0, 1, 2, 3]) (txt_and (txt_v (tx_2o (o_ixF sq_l) (Ty.TP.tx (tp_v (i := 5) rfl rfl (fun _ => rfl))) (Ty.TP.tx (tp_v (i := 6) rfl rfl (fun _ => rfl))))) (txt_v (tx_2 (o_eq (neg := true) dt_int) (tx_2o o_mod (Ty.TP.tx (tp_f1 (Op1.rd f1_int) (tp_2o (o_ix sq_l) (tp_v (i := 0) rfl rfl (fun _ => rfl)) (tp_v (i := 6) rfl rfl (fun _ => rfl))))) (Ty.TP.tx (tp_c (val := MV.int) rfl))) (Ty.TP.tx (tp_v (i := 2) rfl rfl (fun _ => rfl)))))) (ts_seq (ts_set (D0 := [6, 5, 4, 0, 1, 2, 3]) 7 (tx_comp (ti_range1 (txa_c (Ty.TP.tx (tp_v (i := 4) rfl rfl (fun _ => rfl))) (Ty.TPA.tx tpa_n))) (tg_nm (D0 := [6, 5, 4, 0, 1, 2, 3]) 8 (kp_law_wins_lj_c0.sub rfl) (fun _ _ => rfl)) txt_yes (tx_2 o_le (tx_2o (o_ixF sq_l) (Ty.TP.tx (tp_v (i := 0) rfl rfl (fun _ => rfl))) (Ty.TP.tx (tp_v (i := 8) rfl rfl (fun _ => rfl)))) (tx_2o (o_ixF sq_l) (Ty.TP.tx (tp_v (i := 0) rfl rfl (fun _ => rfl))) (Ty.TP.tx (tp_v (i := 6) rfl rfl (fun _ => rfl)))))) (kp_law_wins_llow.sub rfl) (fun _ _ => rfl)) (ts_if (D' := [7, 6, 5, 4, 0, 1, 2, 3]) (D1 := [7, 6, 5, 4, 0, 1, 2, 3]) (txt_v (tx_2o (o_ixF sq_l) (tx_call ty_law_reached (txp_f (Ty.TP.tx (tp_v (i := 1) rfl rfl (fun _ => rfl))) (txp_f (tx_2o (o_ixF sq_l) (Ty.TP.tx (tp_v (i := 1) rfl rfl (fun _ => rfl))) (Ty.TP.tx (tp_v (i := 6) rfl rfl (fun _ => rfl)))) (txp_f (Ty.TP.tx (tp_v (i := 7) rfl rfl (fun _ => rfl))) txp_n)))) (Ty.TP.tx (tp_v (i := 6) rfl rfl (fun _ => rfl))))) (ts_ret (Ty.TP.tx (tp_c (val := MV.bl) rfl))) ts_nil)) ts_nil)) (ts_ret (Ty.TP.tx (tp_c (val := MV.bl) rfl)))))))
   (fun _ _ => ⟨⟨rfl, rfl⟩, ⟨⟨rfl, rfl⟩, ⟨⟨rfl, rfl⟩, ⟨⟨rfl, rfl⟩, trivial⟩⟩⟩⟩) (fun _ => trivial) (fun r h => by cases h)
structure V_law where
  ldraws_here : (List Int)
  lscript : (List Int)
  lowners : (List Int)
  lpriorities : (List Int)
  lmoves : (List (List Int))
  lgame_here : C_Game
  lplayer : Int
  lchoices : (List Int)
  lother : (List Int)
  lk : Int
  lchoice : Int
  lposition : Int
  lhanded : (List Int)
  lfound : (Option Bool)
  lexpected : Bool
@[reducible] def V_law.put_ldraws_here (s : V_law) (v : (List Int)) : V_law := { s with ldraws_here := v }
@[reducible] def V_law.put_lscript (s : V_law) (v : (List Int)) : V_law := { s with lscript := v }
@[reducible] def V_law.put_lowners (s : V_law) (v : (List Int)) : V_law := { s with lowners := v }
@[reducible] def V_law.put_lpriorities (s : V_law) (v : (List Int)) : V_law := { s with lpriorities := v }
@[reducible] def V_law.put_lmoves (s : V_law) (v : (List (List Int))) : V_law := { s with lmoves := v }
@[reducible] def V_law.put_lgame_here (s : V_law) (v : C_Game) : V_law := { s with lgame_here := v }
@[reducible] def V_law.put_lplayer (s : V_law) (v : Int) : V_law := { s with lplayer := v }
@[reducible] def V_law.put_lchoices (s : V_law) (v : (List Int)) : V_law := { s with lchoices := v }
@[reducible] def V_law.put_lother (s : V_law) (v : (List Int)) : V_law := { s with lother := v }
@[reducible] def V_law.put_lk (s : V_law) (v : Int) : V_law := { s with lk := v }
@[reducible] def V_law.put_lchoice (s : V_law) (v : Int) : V_law := { s with lchoice := v }
@[reducible] def V_law.put_lposition (s : V_law) (v : Int) : V_law := { s with lposition := v }
@[reducible] def V_law.put_lhanded (s : V_law) (v : (List Int)) : V_law := { s with lhanded := v }
@[reducible] def V_law.put_lfound (s : V_law) (v : (Option Bool)) : V_law := { s with lfound := v }
@[reducible] def V_law.put_lexpected (s : V_law) (v : Bool) : V_law := { s with lexpected := v }
def tb_law : Nat → Slot V_law
  | 0 => ⟨0, fun s => (fz (sV MV.int)) s.lscript⟩
  | 1 => ⟨1, fun s => (own1 MV.int) s.ldraws_here⟩
  | 2 => ⟨3, fun s => (fz (lV MV.int)) s.lpriorities⟩
  | 3 => ⟨2, fun s => (fz (lV MV.int)) s.lowners⟩
  | 4 => ⟨4, fun s => (fz (lV (lV MV.int))) s.lmoves⟩
  | 5 => ⟨5, fun s => (fz v_Game) s.lgame_here⟩
  | 6 => ⟨6, fun s => (fz MV.int) s.lplayer⟩
  | 7 => ⟨7, fun s => (own1 MV.int) s.lchoices⟩
  | 8 => ⟨8, fun s => (own1 MV.int) s.lother⟩
  | 9 => ⟨10, fun s => (fz MV.int) s.lchoice⟩
  | 10 => ⟨9, fun s => (fz MV.int) s.lk⟩
  | 11 => ⟨11, fun s => (fz MV.int) s.lposition⟩
  | 12 => ⟨12, fun s => (fz (lV MV.int)) s.lhanded⟩
  | 13 => ⟨13, fun s => (fz (oV MV.bl)) s.lfound⟩
  | 14 => ⟨7, fun s => (fz (lV MV.int)) s.lchoices⟩
  | 15 => ⟨14, fun s => (fz MV.bl) s.lexpected⟩
  | _ => ⟨0, fun _ => fz nV ()⟩
abbrev cx_law : Cx V_law Bool := ⟨tb_law, 15, [], [], [], [], (fz MV.bl)⟩
theorem kp_law_ldraws_here : Keep tb_law V_law.put_ldraws_here 1 [0, 2, 3, 4, 5, 6, 7, 8, 9, 10, 11, 12, 13, 14, 15] := ⟨⟨Nat.ne_of_beq_eq_false rfl, fun _ _ => rfl⟩, ⟨⟨Nat.ne_of_beq_eq_false rfl, fun _ _ => rfl⟩, ⟨⟨Nat.ne_of_beq_eq_false rfl, fun _ _ => rfl⟩, ⟨⟨Nat.ne_of_beq_eq_false rfl, fun _ _ => rfl⟩, ⟨⟨Nat.ne_of_beq_eq_false rfl, fun _ _ => rfl⟩, ⟨⟨Nat.ne_of_beq_eq_false rfl, fun _ _ => rfl⟩, ⟨⟨Nat.ne_of_beq_eq_false rfl, fun _ _ => rfl⟩, ⟨⟨Nat.ne_of_beq_eq_false rfl, fun _ _ => rfl⟩, ⟨⟨Nat.ne_of_beq_eq_false rfl, fun _ _ => rfl⟩, ⟨⟨Nat.ne_of_beq_eq_false rfl, fun _ _ => rfl⟩, ⟨⟨Nat.ne_of_beq_eq_false rfl, fun _ _ => rfl⟩, ⟨⟨Nat.ne_of_beq_eq_false rfl, fun _ _ => rfl⟩, ⟨⟨Nat.ne_of_beq_eq_false rfl, fun _ _ => rfl⟩, ⟨⟨Nat.ne_of_beq_eq_false rfl, fun _ _ => rfl⟩, ⟨⟨Nat.ne_of_beq_eq_false rfl, fun _ _ => rfl⟩, trivial⟩⟩⟩⟩⟩⟩⟩⟩⟩⟩⟩⟩⟩⟩⟩
theorem kp_law_lscript : Keep tb_law V_law.put_lscript 0 [1, 2, 3, 4, 5, 6, 7, 8, 9, 10, 11, 12, 13, 14, 15] := ⟨⟨Nat.ne_of_beq_eq_false rfl, fun _ _ => rfl⟩, ⟨⟨Nat.ne_of_beq_eq_false rfl, fun _ _ => rfl⟩, ⟨⟨Nat.ne_of_beq_eq_false rfl, fun _ _ => rfl⟩, ⟨⟨Nat.ne_of_beq_eq_false rfl, fun _ _ => rfl⟩, ⟨⟨Nat.ne_of_beq_eq_false rfl, fun _ _ => rfl⟩, ⟨⟨Nat.ne_of_beq_eq_false rfl, fun _ _ => rfl⟩, ⟨⟨Nat.ne_of_beq_eq_false rfl, fun _ _ => rfl⟩, ⟨⟨Nat.ne_of_beq_eq_false rfl, fun _ _ => rfl⟩, ⟨⟨Nat.ne_of_beq_eq_false rfl, fun _ _ => rfl⟩, ⟨⟨Nat.ne_of_beq_eq_false rfl, fun _ _ => rfl⟩, ⟨⟨Nat.ne_of_beq_eq_false rfl, fun _ _ => rfl⟩, ⟨⟨Nat.ne_of_beq_eq_false rfl, fun _ _ => rfl⟩, ⟨⟨Nat.ne_of_beq_eq_false rfl, fun _ _ => rfl⟩, ⟨⟨Nat.ne_of_beq_eq_false rfl, fun _ _ => rfl⟩, ⟨⟨Nat.ne_of_beq_eq_false rfl, fun _ _ => rfl⟩, trivial⟩⟩⟩⟩⟩⟩⟩⟩⟩⟩⟩⟩⟩⟩⟩
theorem kp_law_lowners : Keep tb_law V_law.put_lowners 2 [0, 1, 2, 4, 5, 6, 7, 8, 9, 10, 11, 12, 13, 14, 15] := ⟨⟨Nat.ne_of_beq_eq_false rfl, fun _ _ => rfl⟩, ⟨⟨Nat.ne_of_beq_eq_false rfl, fun _ _ => rfl⟩, ⟨⟨Nat.ne_of_beq_eq_false rfl, fun _ _ => rfl⟩, ⟨⟨Nat.ne_of_beq_eq_false rfl, fun _ _ => rfl⟩, ⟨⟨Nat.ne_of_beq_eq_false rfl, fun _ _ => rfl⟩, ⟨⟨Nat.ne_of_beq_eq_false rfl, fun _ _ => rfl⟩, ⟨⟨Nat.ne_of_beq_eq_false rfl, fun _ _ => rfl⟩, ⟨⟨Nat.ne_of_beq_eq_false rfl, fun _ _ => rfl⟩, ⟨⟨Nat.ne_of_beq_eq_false rfl, fun _ _ => rfl⟩, ⟨⟨Nat.ne_of_beq_eq_false rfl, fun _ _ => rfl⟩, ⟨⟨Nat.ne_of_beq_eq_false rfl, fun _ _ => rfl⟩, ⟨⟨Nat.ne_of_beq_eq_false rfl, fun _ _ => rfl⟩, ⟨⟨Nat.ne_of_beq_eq_false rfl, fun _ _ => rfl⟩, ⟨⟨Nat.ne_of_beq_eq_false rfl, fun _ _ => rfl⟩, ⟨⟨Nat.ne_of_beq_eq_false rfl, fun _ _ => rfl⟩, trivial⟩⟩⟩⟩⟩⟩⟩⟩⟩⟩⟩⟩⟩⟩⟩
theorem kp_law_lpriorities : Keep tb_law V_law.put_lpriorities 3 [0, 1, 3, 4, 5, 6, 7, 8, 9, 10, 11, 12, 13, 14, 15] := ⟨⟨Nat.ne_of_beq_eq_false rfl, fun _ _ => rfl⟩, ⟨⟨Nat.ne_of_beq_eq_false rfl, fun _ _ => rfl⟩, ⟨⟨Nat.ne_of_beq_eq_false rfl, fun _ _ => rfl⟩, ⟨⟨Nat.ne_of_beq_eq_false rfl, fun _ _ => rfl⟩, ⟨⟨Nat.ne_of_beq_eq_false rfl, fun _ _ => rfl⟩, ⟨⟨Nat.ne_of_beq_eq_false rfl, fun _ _ => rfl⟩, ⟨⟨Nat.ne_of_beq_eq_false rfl, fun _ _ => rfl⟩, ⟨⟨Nat.ne_of_beq_eq_false rfl, fun _ _ => rfl⟩, ⟨⟨Nat.ne_of_beq_eq_false rfl, fun _ _ => rfl⟩, ⟨⟨Nat.ne_of_beq_eq_false rfl, fun _ _ => rfl⟩, ⟨⟨Nat.ne_of_beq_eq_false rfl, fun _ _ => rfl⟩, ⟨⟨Nat.ne_of_beq_eq_false rfl, fun _ _ => rfl⟩, ⟨⟨Nat.ne_of_beq_eq_false rfl, fun _ _ => rfl⟩, ⟨⟨Nat.ne_of_beq_eq_false rfl, fun _ _ => rfl⟩, ⟨⟨Nat.ne_of_beq_eq_false rfl, fun _ _ => rfl⟩, trivial⟩⟩⟩⟩⟩⟩⟩⟩⟩⟩⟩⟩⟩⟩⟩
theorem kp_law_lmoves : Keep tb_law V_law.put_lmoves 4 [0, 1, 2, 3, 5, 6, 7, 8, 9, 10, 11, 12, 13, 14, 15] := ⟨⟨Nat.ne_of_beq_eq_false rfl, fun _ _ => rfl⟩, ⟨⟨Nat.ne_of_beq_eq_false rfl, fun _ _ => rfl⟩, ⟨⟨Nat.ne_of_beq_eq_false rfl, fun _ _ => rfl⟩, ⟨⟨Nat.ne_of_beq_eq_false rfl, fun _ _ => rfl⟩, ⟨⟨Nat.ne_of_beq_eq_false rfl, fun _ _ => rfl⟩, ⟨⟨Nat.ne_of_beq_eq_false rfl, fun _ _ => rfl⟩, ⟨⟨Nat.ne_of_beq_eq_false rfl, fun _ _ => rfl⟩, ⟨⟨Nat.ne_of_beq_eq_false rfl, fun _ _ => rfl⟩, ⟨⟨Nat.ne_of_beq_eq_false rfl, fun _ _ => rfl⟩, ⟨⟨Nat.ne_of_beq_eq_false rfl, fun _ _ => rfl⟩, ⟨⟨Nat.ne_of_beq_eq_false rfl, fun _ _ => rfl⟩, ⟨⟨Nat.ne_of_beq_eq_false rfl, fun _ _ => rfl⟩, ⟨⟨Nat.ne_of_beq_eq_false rfl, fun _ _ => rfl⟩, ⟨⟨Nat.ne_of_beq_eq_false rfl, fun _ _ => rfl⟩, ⟨⟨Nat.ne_of_beq_eq_false rfl, fun _ _ => rfl⟩, trivial⟩⟩⟩⟩⟩⟩⟩⟩⟩⟩⟩⟩⟩⟩⟩
theorem kp_law_lgame_here : Keep tb_law V_law.put_lgame_here 5 [0, 1, 2, 3, 4, 6, 7, 8, 9, 10, 11, 12, 13, 14, 15] := ⟨⟨Nat.ne_of_beq_eq_false rfl, fun _ _ => rfl⟩, ⟨⟨Nat.ne_of_beq_eq_false rfl, fun _ _ => rfl⟩, ⟨⟨Nat.ne_of_beq_eq_false rfl, fun _ _ => rfl⟩, ⟨⟨Nat.ne_of_beq_eq_false rfl, fun _ _ => rfl⟩, ⟨⟨Nat.ne_of_beq_eq_false rfl, fun _ _ => rfl⟩, ⟨⟨Nat.ne_of_beq_eq_false rfl, fun _ _ => rfl⟩, ⟨⟨Nat.ne_of_beq_eq_false rfl, fun _ _ => rfl⟩, ⟨⟨Nat.ne_of_beq_eq_false rfl, fun _ _ => rfl⟩, ⟨⟨Nat.ne_of_beq_eq_false rfl, fun _ _ => rfl⟩, ⟨⟨Nat.ne_of_beq_eq_false rfl, fun _ _ => rfl⟩, ⟨⟨Nat.ne_of_beq_eq_false rfl, fun _ _ => rfl⟩, ⟨⟨Nat.ne_of_beq_eq_false rfl, fun _ _ => rfl⟩, ⟨⟨Nat.ne_of_beq_eq_false rfl, fun _ _ => rfl⟩, ⟨⟨Nat.ne_of_beq_eq_false rfl, fun _ _ => rfl⟩, ⟨⟨Nat.ne_of_beq_eq_false rfl, fun _ _ => rfl⟩, trivial⟩⟩⟩⟩⟩⟩⟩⟩⟩⟩⟩⟩⟩⟩⟩
theorem kp_law_lplayer : Keep tb_law V_law.put_lplayer 6 [0, 1, 2, 3, 4, 5, 7, 8, 9, 10, 11, 12, 13, 14, 15] := ⟨⟨Nat.ne_of_beq_eq_false rfl, fun _ _ => rfl⟩, ⟨⟨Nat.ne_of_beq_eq_false rfl, fun _ _ => rfl⟩, ⟨⟨Nat.ne_of_beq_eq_false rfl, fun _ _ => rfl⟩, ⟨⟨Nat.ne_of_beq_eq_false rfl, fun _ _ => rfl⟩, ⟨⟨Nat.ne_of_beq_eq_false rfl, fun _ _ => rfl⟩, ⟨⟨Nat.ne_of_beq_eq_false rfl, fun _ _ => rfl⟩, ⟨⟨Nat.ne_of_beq_eq_false rfl, fun _ _ => rfl⟩, ⟨⟨Nat.ne_of_beq_eq_false rfl, fun _ _ => rfl⟩, ⟨⟨Nat.ne_of_beq_eq_false rfl, fun _ _ => rfl⟩, ⟨⟨Nat.ne_of_beq_eq_false rfl, fun _ _ => rfl⟩, ⟨⟨Nat.ne_of_beq_eq_false rfl, fun _ _ => rfl⟩, ⟨⟨Nat.ne_of_beq_eq_false rfl, fun _ _ => rfl⟩, ⟨⟨Nat.ne_of_beq_eq_false rfl, fun _ _ => rfl⟩, ⟨⟨Nat.ne_of_beq_eq_false rfl, fun _ _ => rfl⟩, ⟨⟨Nat.ne_of_beq_eq_false rfl, fun _ _ => rfl⟩, trivial⟩⟩⟩⟩⟩⟩⟩⟩⟩⟩⟩⟩⟩⟩⟩
theorem kp_law_lchoices : Keep tb_law V_law.put_lchoices 7 [0, 1, 2, 3, 4, 5, 6, 8, 9, 10, 11, 12, 13, 15] := ⟨⟨Nat.ne_of_beq_eq_false rfl, fun _ _ => rfl⟩, ⟨⟨Nat.ne_of_beq_eq_false rfl, fun _ _ => rfl⟩, ⟨⟨Nat.ne_of_beq_eq_false rfl, fun _ _ => rfl⟩, ⟨⟨Nat.ne_of_beq_eq_false rfl, fun _ _ => rfl⟩, ⟨⟨Nat.ne_of_beq_eq_false rfl, fun _ _ => rfl⟩, ⟨⟨Nat.ne_of_beq_eq_false rfl, fun _ _ => rfl⟩, ⟨⟨Nat.ne_of_beq_eq_false rfl, fun _ _ => rfl⟩, ⟨⟨Nat.ne_of_beq_eq_false rfl, fun _ _ => rfl⟩, ⟨⟨Nat.ne_of_beq_eq_false rfl, fun _ _ => rfl⟩, ⟨⟨Nat.ne_of_beq_eq_false rfl, fun _ _ => rfl⟩, ⟨⟨Nat.ne_of_beq_eq_false rfl, fun _ _ => rfl⟩, ⟨⟨Nat.ne_of_beq_eq_false rfl, fun _ _ => rfl⟩, ⟨⟨Nat.ne_of_beq_eq_false rfl, fun _ _ => rfl⟩, ⟨⟨Nat.ne_of_beq_eq_false rfl, fun _ _ => rfl⟩, trivial⟩⟩⟩⟩⟩⟩⟩⟩⟩⟩⟩⟩⟩⟩
theorem kp_law_lother : Keep tb_law V_law.put_lother 8 [0, 1, 2, 3, 4, 5, 6, 7, 9, 10, 11, 12, 13, 14, 15] := ⟨⟨Nat.ne_of_beq_eq_false rfl, fun _ _ => rfl⟩, ⟨⟨Nat.ne_of_beq_eq_false rfl, fun _ _ => rfl⟩, ⟨⟨Nat.ne_of_beq_eq_false rfl, fun _ _ => rfl⟩, ⟨⟨Nat.ne_of_beq_eq_false rfl, fun _ _ => rfl⟩, ⟨⟨Nat.ne_of_beq_eq_false rfl, fun _ _ => rfl⟩, ⟨⟨Nat.ne_of_beq_eq_false rfl, fun _ _ => rfl⟩, ⟨⟨Nat.ne_of_beq_eq_false rfl, fun _ _ => rfl⟩, ⟨⟨Nat.ne_of_beq_eq_false rfl, fun _ _ => rfl⟩, ⟨⟨Nat.ne_of_beq_eq_false rfl, fun _ _ => rfl⟩, ⟨⟨Nat.ne_of_beq_eq_false rfl, fun _ _ => rfl⟩, ⟨⟨Nat.ne_of_beq_eq_false rfl, fun _ _ => rfl⟩, ⟨⟨Nat.ne_of_beq_eq_false rfl, fun _ _ => rfl⟩, ⟨⟨Nat.ne_of_beq_eq_false rfl, fun _ _ => rfl⟩, ⟨⟨Nat.ne_of_beq_eq_false rfl, fun _ _ => rfl⟩, ⟨⟨Nat.ne_of_beq_eq_false rfl, fun _ _ => rfl⟩, trivial⟩⟩⟩⟩⟩⟩⟩⟩⟩⟩⟩⟩⟩⟩⟩
theorem kp_law_lk : Keep tb_law V_law.put_lk 9 [0, 1, 2, 3, 4, 5, 6, 7, 8, 9, 11, 12, 13, 14, 15] := ⟨⟨Nat.ne_of_beq_eq_false rfl, fun _ _ => rfl⟩, ⟨⟨Nat.ne_of_beq_eq_false rfl, fun _ _ => rfl⟩, ⟨⟨Nat.ne_of_beq_eq_false rfl, fun _ _ => rfl⟩, ⟨⟨Nat.ne_of_beq_eq_false rfl, fun _ _ => rfl⟩, ⟨⟨Nat.ne_of_beq_eq_false rfl, fun _ _ => rfl⟩, ⟨⟨Nat.ne_of_beq_eq_false rfl, fun _ _ => rfl⟩, ⟨⟨Nat.ne_of_beq_eq_false rfl, fun _ _ => rfl⟩, ⟨⟨Nat.ne_of_beq_eq_false rfl, fun _ _ => rfl⟩, ⟨⟨Nat.ne_of_beq_eq_false rfl, fun _ _ => rfl⟩, ⟨⟨Nat.ne_of_beq_eq_false rfl, fun _ _ => rfl⟩, ⟨⟨Nat.ne_of_beq_eq_false rfl, fun _ _ => rfl⟩, ⟨⟨Nat.ne_of_beq_eq_false rfl, fun _ _ => rfl⟩, ⟨⟨Nat.ne_of_beq_eq_false rfl, fun _ _ => rfl⟩, ⟨⟨Nat.ne_of_beq_eq_false rfl, fun _ _ => rfl⟩, ⟨⟨Nat.ne_of_beq_eq_false rfl, fun _ _ => rfl⟩, trivial⟩⟩⟩⟩⟩⟩⟩⟩⟩⟩⟩⟩⟩⟩⟩
theorem kp_law_lchoice : Keep tb_law V_law.put_lchoice 10 [0, 1, 2, 3, 4, 5, 6, 7, 8, 10, 11, 12, 13, 14, 15] := ⟨⟨Nat.ne_of_beq_eq_false rfl, fun _ _ => rfl⟩, ⟨⟨Nat.ne_of_beq_eq_false rfl, fun _ _ => rfl⟩, ⟨⟨Nat.ne_of_beq_eq_false rfl, fun _ _ => rfl⟩, ⟨⟨Nat.ne_of_beq_eq_false rfl, fun _ _ => rfl⟩, ⟨⟨Nat.ne_of_beq_eq_false rfl, fun _ _ => rfl⟩, ⟨⟨Nat.ne_of_beq_eq_false rfl, fun _ _ => rfl⟩, ⟨⟨Nat.ne_of_beq_eq_false rfl, fun _ _ => rfl⟩, ⟨⟨Nat.ne_of_beq_eq_false rfl, fun _ _ => rfl⟩, ⟨⟨Nat.ne_of_beq_eq_false rfl, fun _ _ => rfl⟩, ⟨⟨Nat.ne_of_beq_eq_false rfl, fun _ _ => rfl⟩, ⟨⟨Nat.ne_of_beq_eq_false rfl, fun _ _ => rfl⟩, ⟨⟨Nat.ne_of_beq_eq_false rfl, fun _ _ => rfl⟩, ⟨⟨Nat.ne_of_beq_eq_false rfl, fun _ _ => rfl⟩, ⟨⟨Nat.ne_of_beq_eq_false rfl, fun _ _ => rfl⟩, ⟨⟨Nat.ne_of_beq_eq_false rfl, fun _ _ => rfl⟩, trivial⟩⟩⟩⟩⟩⟩⟩⟩⟩⟩⟩⟩⟩⟩⟩
theorem kp_law_lposition : Keep tb_law V_law.put_lposition 11 [0, 1, 2, 3, 4, 5, 6, 7, 8, 9, 10, 12, 13, 14, 15] := ⟨⟨Nat.ne_of_beq_eq_false rfl, fun _ _ => rfl⟩, ⟨⟨Nat.ne_of_beq_eq_false rfl, fun _ _ => rfl⟩, ⟨⟨Nat.ne_of_beq_eq_false rfl, fun _ _ => rfl⟩, ⟨⟨Nat.ne_of_beq_eq_false rfl, fun _ _ => rfl⟩, ⟨⟨Nat.ne_of_beq_eq_false rfl, fun _ _ => rfl⟩, ⟨⟨Nat.ne_of_beq_eq_false rfl, fun _ _ => rfl⟩, ⟨⟨Nat.ne_of_beq_eq_false rfl, fun _ _ => rfl⟩, ⟨⟨Nat.ne_of_beq_eq_false rfl, fun _ _ => rfl⟩, ⟨⟨Nat.ne_of_beq_eq_false rfl, fun _ _ => rfl⟩, ⟨⟨Nat.ne_of_beq_eq_false rfl, fun _ _ => rfl⟩, ⟨⟨Nat.ne_of_beq_eq_false rfl, fun _ _ => rfl⟩, ⟨⟨Nat.ne_of_beq_eq_false rfl, fun _ _ => rfl⟩, ⟨⟨Nat.ne_of_beq_eq_false rfl, fun _ _ => rfl⟩, ⟨⟨Nat.ne_of_beq_eq_false rfl, fun _ _ => rfl⟩, ⟨⟨Nat.ne_of_beq_eq_false rfl, fun _ _ => rfl⟩, trivial⟩⟩⟩⟩⟩⟩⟩⟩⟩⟩⟩⟩⟩⟩⟩
theorem kp_law_lhanded : Keep tb_law V_law.put_lhanded 12 [0, 1, 2, 3, 4, 5, 6, 7, 8, 9, 10, 11, 13, 14, 15] := ⟨⟨Nat.ne_of_beq_eq_false rfl, fun _ _ => rfl⟩, ⟨⟨Nat.ne_of_beq_eq_false rfl, fun _ _ => rfl⟩, ⟨⟨Nat.ne_of_beq_eq_false rfl, fun _ _ => rfl⟩, ⟨⟨Nat.ne_of_beq_eq_false rfl, fun _ _ => rfl⟩, ⟨⟨Nat.ne_of_beq_eq_false rfl, fun _ _ => rfl⟩, ⟨⟨Nat.ne_of_beq_eq_false rfl, fun _ _ => rfl⟩, ⟨⟨Nat.ne_of_beq_eq_false rfl, fun _ _ => rfl⟩, ⟨⟨Nat.ne_of_beq_eq_false rfl, fun _ _ => rfl⟩, ⟨⟨Nat.ne_of_beq_eq_false rfl, fun _ _ => rfl⟩, ⟨⟨Nat.ne_of_beq_eq_false rfl, fun _ _ => rfl⟩, ⟨⟨Nat.ne_of_beq_eq_false rfl, fun _ _ => rfl⟩, ⟨⟨Nat.ne_of_beq_eq_false rfl, fun _ _ => rfl⟩, ⟨⟨Nat.ne_of_beq_eq_false rfl, fun _ _ => rfl⟩, ⟨⟨Nat.ne_of_beq_eq_false rfl, fun _ _ => rfl⟩, ⟨⟨Nat.ne_of_beq_eq_false rfl, fun _ _ => rfl⟩, trivial⟩⟩⟩⟩⟩⟩⟩⟩⟩⟩⟩⟩⟩⟩⟩
theorem kp_law_lfound : Keep tb_law V_law.put_lfound 13 [0, 1, 2, 3, 4, 5, 6, 7, 8, 9, 10, 11, 12, 14, 15] := ⟨⟨Nat.ne_of_beq_eq_false rfl, fun _ _ => rfl⟩, ⟨⟨Nat.ne_of_beq_eq_false rfl, fun _ _ => rfl⟩, ⟨⟨Nat.ne_of_beq_eq_false rfl, fun _ _ => rfl⟩, ⟨⟨Nat.ne_of_beq_eq_false rfl, fun _ _ => rfl⟩, ⟨⟨Nat.ne_of_beq_eq_false rfl, fun _ _ => rfl⟩, ⟨⟨Nat.ne_of_beq_eq_false rfl, fun _ _ => rfl⟩, ⟨⟨Nat.ne_of_beq_eq_false rfl, fun _ _ => rfl⟩, ⟨⟨Nat.ne_of_beq_eq_false rfl, fun _ _ => rfl⟩, ⟨⟨Nat.ne_of_beq_eq_false rfl, fun _ _ => rfl⟩, ⟨⟨Nat.ne_of_beq_eq_false rfl, fun _ _ => rfl⟩, ⟨⟨Nat.ne_of_beq_eq_false rfl, fun _ _ => rfl⟩, ⟨⟨Nat.ne_of_beq_eq_false rfl, fun _ _ => rfl⟩, ⟨⟨Nat.ne_of_beq_eq_false rfl, fun _ _ => rfl⟩, ⟨⟨Nat.ne_of_beq_eq_false rfl, fun _ _ => rfl⟩, ⟨⟨Nat.ne_of_beq_eq_false rfl, fun _ _ => rfl⟩, trivial⟩⟩⟩⟩⟩⟩⟩⟩⟩⟩⟩⟩⟩⟩⟩
theorem kp_law_lexpected : Keep tb_law V_law.put_lexpected 14 [0, 1, 2, 3, 4, 5, 6, 7, 8, 9, 10, 11, 12, 13, 14] := ⟨⟨Nat.ne_of_beq_eq_false rfl, fun _ _ => rfl⟩, ⟨⟨Nat.ne_of_beq_eq_false rfl, fun _ _ => rfl⟩, ⟨⟨Nat.ne_of_beq_eq_false rfl, fun _ _ => rfl⟩, ⟨⟨Nat.ne_of_beq_eq_false rfl, fun _ _ => rfl⟩, ⟨⟨Nat.ne_of_beq_eq_false rfl, fun _ _ => rfl⟩, ⟨⟨Nat.ne_of_beq_eq_false rfl, fun _ _ => rfl⟩, ⟨⟨Nat.ne_of_beq_eq_false rfl, fun _ _ => rfl⟩, ⟨⟨Nat.ne_of_beq_eq_false rfl, fun _ _ => rfl⟩, ⟨⟨Nat.ne_of_beq_eq_false rfl, fun _ _ => rfl⟩, ⟨⟨Nat.ne_of_beq_eq_false rfl, fun _ _ => rfl⟩, ⟨⟨Nat.ne_of_beq_eq_false rfl, fun _ _ => rfl⟩, ⟨⟨Nat.ne_of_beq_eq_false rfl, fun _ _ => rfl⟩, ⟨⟨Nat.ne_of_beq_eq_false rfl, fun _ _ => rfl⟩, ⟨⟨Nat.ne_of_beq_eq_false rfl, fun _ _ => rfl⟩, ⟨⟨Nat.ne_of_beq_eq_false rfl, fun _ _ => rfl⟩, trivial⟩⟩⟩⟩⟩⟩⟩⟩⟩⟩⟩⟩⟩⟩⟩
def F_law : (Unit) → ((List Int) × Unit) → X (Unit) Bool := yRun (fun (i : Unit) (a : (List Int) × Unit) => ({ ldraws_here := default, lscript := a.1, lowners := default, lpriorities := default, lmoves := default, lgame_here := default, lplayer := default, lchoices := default, lother := default, lk := default, lchoice := default, lposition := default, lhanded := default, lfound := default, lexpected := default } : V_law)) (fun s => (())) (none : Option Bool) (ySeq (ySet V_law.put_ldraws_here (xCall F_law_draws (fun _ => ()) (fun s _ => s) (xCs (xV V_law.lscript) (xCs (xC (150 : Int)) (xC ()))))) (ySeq (ySet (fun (s : V_law) (x : ((List Int) × (List Int) × (List (List Int)))) => (V_law.put_lmoves (V_law.put_lpriorities (V_law.put_lowners s x.1) x.2.1) x.2.2)) (xCall F_law_game (fun s => (V_law.ldraws_here s, ())) (fun s a => V_law.put_ldraws_here s a.1) (xCs (xC (6 : Int)) (xC ())))) (ySeq (ySet V_law.put_lgame_here (xMake F_Game_init (xCs (x1 (fun xs => xs) (xV V_law.lowners)) (xCs (x1 (fun xs => xs) (xV V_law.lpriorities)) (xCs (xCall F_law_flat (fun _ => ()) (fun s _ => s) (xCs (xV V_law.lmoves) (xC ()))) xN))))) (ySeq (ySet V_law.put_lplayer (xCall F_law_take (fun s => (V_law.ldraws_here s, ())) (fun s a => V_law.put_ldraws_here s a.1) (xCs (xC (2 : Int)) (xC ())))) (ySeq (ySet V_law.put_lchoices (x1 (fun (x : Unit) => ([] : List Int)) xN)) (ySeq (ySet V_law.put_lother (x1 (fun (x : Unit) => ([] : List Int)) xN)) (ySeq (yFor (x1o gRng1 (xCs (x1 (fun xs => (xs.length : Int)) (xV V_law.lmoves)) xN)) V_law.put_lk (ySeq (ySet V_law.put_lchoice (x2o gIx (x2o gIx (xV V_law.lmoves) (xV V_law.lk)) (xCall F_law_take (fun s => (V_law.ldraws_here s, ())) (fun s a => V_law.put_ldraws_here s a.1) (xCs (x1 (fun xs => (xs.length : Int)) (x2o gIx (xV V_law.lmoves) (xV V_law.lk))) (xC ()))))) (ySeq (yIf (x2 (fun a b => if false = true then !decide (a = b) else decide (a = b)) (xCall F_law_take (fun s => (V_law.ldraws_here s, ())) (fun s a => V_law.put_ldraws_here s a.1) (xCs (xC (6 : Int)) (xC ()))) (xC (0 : Int))) (ySet V_law.put_lchoice (x1 (fun i : Int => -i) (xC (1 : Int)))) yNil) (ySeq (yExpr (xMeth V_law.lchoices V_law.put_lchoices gApp (xCs (xV V_law.lchoice) xN))) (ySeq (yIf (x2 (fun a b => if true = true then !decide (a = b) else decide (a = b)) (x2o gIx (xV V_law.lowners) (xV V_law.lk)) (xV V_law.lplayer)) (ySet V_law.put_lchoice (x2o gIx (x2o gIx (xV V_law.lmoves) (xV V_law.lk)) (xCall F_law_take (fun s => (V_law.ldraws_here s, ())) (fun s a => V_law.put_ldraws_here s a.1) (xCs (x1 (fun xs => (xs.length : Int)) (x2o gIx (xV V_law.lmoves) (xV V_law.lk))) (xC ()))))) yNil) (yExpr (xMeth V_law.lother V_law.put_lother gApp (xCs (xV V_law.lchoice) xN)))))))) (ySeq (ySet V_law.put_lposition (xCall F_law_take (fun s => (V_law.ldraws_here s, ())) (fun s a => V_law.put_ldraws_here s a.1) (xCs (x1 (fun xs => (xs.length : Int)) (xV V_law.lmoves)) (xC ())))) (ySeq (yIf (x2 (fun a b => if false = true then !decide (a = b) else decide (a = b)) (xCall F_law_take (fun s => (V_law.ldraws_here s, ())) (fun s a => V_law.put_ldraws_here s a.1) (xCs (xC (8 : Int)) (xC ()))) (xC (0 : Int))) (yRet (x1 (fun o : (Option Bool) => if false = true then o.isSome else o.isNone) (xCall F_law_outcome (fun _ => ()) (fun s _ => s) (xCs (xV V_law.lgame_here) (xCs (xV V_law.lplayer) (xCs (x1 (fun xs => xs) (xV V_law.lchoices)) (xCs (x2o gIx (x1 (fun (x : Int × Int × Unit) => ([x.1, x.2.1] : List Int)) (xCs (x1 (fun i : Int => -i) (xC (1 : Int))) (xCs (x1 (fun xs => (xs.length : Int)) (xV V_law.lmoves)) xN))) (xCall F_law_take (fun s => (V_law.ldraws_here s, ())) (fun s a => V_law.put_ldraws_here s a.1) (xCs (xC (2 : Int)) (xC ())))) (xC ())))))))) yNil) (ySeq (ySet V_law.put_lhanded (x1 (fun xs => xs) (xV V_law.lchoices))) (ySeq (ySet V_law.put_lfound (xCall F_law_outcome (fun _ => ()) (fun s _ => s) (xCs (xV V_law.lgame_here) (xCs (xV V_law.lplayer) (xCs (xV V_law.lhanded) (xCs (xV V_law.lposition) (xC ()))))))) (ySeq (yIf (xOr (xNot (x1 (fun o : (Option Bool) => o.isSome && true) (xV V_law.lfound))) (x2 (fun a b => if true = true then !decide (a = b) else decide (a = b)) (xV V_law.lhanded) (xV V_law.lchoices))) (yRet (xC false)) yNil) (ySeq (ySet V_law.put_lexpected (xCall F_law_wins (fun _ => ()) (fun s _ => s) (xCs (xV V_law.lpriorities) (xCs (xCall F_law_left (fun _ => ()) (fun s _ => s) (xCs (xV V_law.lowners) (xCs (xV V_law.lmoves) (xCs (xV V_law.lplayer) (xCs (xV V_law.lchoices) (xC ())))))) (xCs (xV V_law.lplayer) (xCs (xV V_law.lposition) (xC ()))))))) (yRet (xAnd (x2 (fun a b => if false = true then !decide (a = some b) else decide (a = some b)) (xV V_law.lfound) (xV V_law.lexpected)) (x2 (fun a b => if false = true then !decide (a = some b) else decide (a = some b)) (xCall F_law_outcome (fun _ => ()) (fun s _ => s) (xCs (xV V_law.lgame_here) (xCs (xV V_law.lplayer) (xCs (x1 (fun xs => xs) (xV V_law.lother)) (xCs (xV V_law.lposition) (xC ())))))) (xV V_law.lexpected)))))))))))))))))
theorem ty_law : TFun (.fr (sV MV.int) (.nil) : PSpec (Unit) ((List Int) × Unit)) m_law F_law (fz MV.bl) := by
  unfold m_law F_law
  exact tf_mk (c := cx_law) (D0 := [0]) (D1 := [])
   (ts_seq (ts_set (D0 := [0]) 1 (tx_call ty_law_draws (txp_f (Ty.TP.tx (tp_v (i := 0) rfl rfl (fun _ => rfl))) (txp_f (Ty.TP.tx (tp_c (val := MV.int) rfl)) txp_n))) (kp_law_ldraws_here.sub rfl) (fun _ _ => rfl)) (ts_seq (ts_asg (tx_callK1 (D0 := [0]) 1 ty_law_game (txp_i (txp_f (Ty.TP.tx (tp_c (val := MV.int) rfl)) txp_n)) (fun _ => ⟨rfl, trivial⟩) (fun _ _ => ⟨rfl, trivial⟩) (kp_law_ldraws_here.sub rfl)) (tg_tup (tgs_cons (tg_nm (D0 := [1, 0]) 3 (kp_law_lowners.sub rfl) (fun _ _ => rfl)) (tgs_cons (tg_nm (D0 := [3, 1, 0]) 2 (kp_law_lpriorities.sub rfl) (fun _ _ => rfl)) (tgs_one (tg_nm (D0 := [2, 3, 1, 0]) 4 (kp_law_lmoves.sub rfl) (fun _ _ => rfl))))))) (ts_seq (ts_set (D0 := [4, 2, 3, 1, 0]) 5 (tx_make ty_Game_init (txa_c (Ty.TP.tx (tp_f1 (f1_list sq_l) (tp_v (i := 3) rfl rfl (fun _ => rfl)))) (txa_c (Ty.TP.tx (tp_f1 (f1_list sq_l) (tp_v (i := 2) rfl rfl (fun _ => rfl)))) (txa_c (tx_call ty_law_flat (txp_f (Ty.TP.tx (tp_v (i := 4) rfl rfl (fun _ => rfl))) txp_n)) (Ty.TPA.tx tpa_n)))) (fun _ => rfl)) (kp_law_lgame_here.sub rfl) (fun _ _ => rfl)) (ts_seq (ts_set (D0 := [5, 4, 2, 3, 1, 0]) 6 (tx_callK1 (D0 := [5, 4, 2, 3, 0]) 1 ty_law_take (txp_i (txp_f (Ty.TP.tx (tp_c (val := MV.int) rfl)) txp_n)) (fun _ => ⟨rfl, trivial⟩) (fun _ _ => ⟨rfl, trivial⟩) (kp_law_ldraws_here.sub rfl)) (kp_law_lplayer.sub rfl) (fun _ _ => rfl)) (ts_seq (ts_set (D0 := [6, 5, 4, 2, 3, 1, 0]) 7 (tx_lst (va := MV.int) (fun _ => rfl) 0 (fun _ => rfl) (Ty.TPA.tx tpa_n)) (kp_law_lchoices.sub rfl) (fun _ _ => rfl)) (ts_seq (ts_set (D0 := [7, 6, 5, 4, 2, 3, 1, 0]) 8 (tx_lst (va := MV.int) (fun _ => rfl) 0 (fun _ => rfl) (Ty.TPA.tx tpa_n)) (kp_law_lother.sub rfl) (fun _ _ => rfl)) (ts_seq (ts_for (Dl := [8, 7, 6, 5, 4, 2, 3, 1, 0]) (D2 := [9, 10, 8, 7, 6, 5, 4, 2, 3, 1, 0]) (ti_range1 (txa_c (Ty.TP.tx (tp_f1 f1_lenL (tp_v (i := 4) rfl rfl (fun _ => rfl)))) (Ty.TPA.tx tpa_n))) (tg_nm (D0 := [8, 7, 6, 5, 4, 2, 3, 1, 0]) 10 (kp_law_lk.sub rfl) (fun _ _ => rfl)) (ts_seq (ts_set (D0 := [10, 8, 7, 6, 5, 4, 2, 3, 1, 0]) 9 (tx_2o (o_ixF sq_l) (tx_2o (o_ixF sq_l) (Ty.TP.tx (tp_v (i := 4) rfl rfl (fun _ => rfl))) (Ty.TP.tx (tp_v (i := 10) rfl rfl (fun _ => rfl)))) (tx_callK1 (D0 := [10, 8, 7, 6, 5, 4, 2, 3, 0]) 1 ty_law_take (txp_i (txp_f (Ty.TP.tx (tp_f1 f1_lenL (tp_2o (o_ix sq_l) (tp_v (i := 4) rfl rfl (fun _ => rfl)) (tp_v (i := 10) rfl rfl (fun _ => rfl))))) txp_n)) (fun _ => ⟨rfl, trivial⟩) (fun _ _ => ⟨rfl, trivial⟩) (kp_law_ldraws_here.sub rfl))) (kp_law_lchoice.sub rfl) (fun _ _ => rfl)) (ts_seq (ts_if (D' := [9, 10, 8, 7, 6, 5, 4, 2, 3, 1, 0]) (txt_v (tx_2 (o_eq (neg := false) dt_int) (tx_callK1 (D0 := [9, 10, 8, 7, 6, 5, 4, 2, 3, 0]) 1 ty_law_take (txp_i (txp_f (Ty.TP.tx (tp_c (val := MV.int) rfl)) txp_n)) (fun _ => ⟨rfl, trivial⟩) (fun _ _ => ⟨rfl, trivial⟩) (kp_law_ldraws_here.sub rfl)) (Ty.TP.tx (tp_c (val := MV.int) rfl)))) (ts_set (D0 := [10, 8, 7, 6, 5, 4, 2, 3, 1, 0]) 9 (tx_1 o_neg (Ty.TP.tx (tp_c (val := MV.int) rfl))) (kp_law_lchoice.sub rfl) (fun _ _ => rfl)) ts_nil) (ts_seq (ts_expr (tx_meth (D0 := [9, 10, 8, 6, 5, 4, 2, 3, 1, 0]) 7 mo_app (txa_c (Ty.TP.tx (tp_v (i := 9) rfl rfl (fun _ => rfl))) (Ty.TPA.tx tpa_n)) (fun _ => rfl) (fun _ _ => rfl) (kp_law_lchoices.sub rfl))) (ts_seq (ts_if (D' := [9, 10, 8, 7, 6, 5, 4, 2, 3, 1, 0]) (txt_v (tx_2 (o_eq (neg := true) dt_int) (tx_2o (o_ixF sq_l) (Ty.TP.tx (tp_v (i := 3) rfl rfl (fun _ => rfl))) (Ty.TP.tx (tp_v (i := 10) rfl rfl (fun _ => rfl)))) (Ty.TP.tx (tp_v (i := 6) rfl rfl (fun _ => rfl))))) (ts_set (D0 := [10, 8, 7, 6, 5, 4, 2, 3, 1, 0]) 9 (tx_2o (o_ixF sq_l) (tx_2o (o_ixF sq_l) (Ty.TP.tx (tp_v (i := 4) rfl rfl (fun _ => rfl))) (Ty.TP.tx (tp_v (i := 10) rfl rfl (fun _ => rfl)))) (tx_callK1 (D0 := [9, 10, 8, 7, 6, 5, 4, 2, 3, 0]) 1 ty_law_take (txp_i (txp_f (Ty.TP.tx (tp_f1 f1_lenL (tp_2o (o_ix sq_l) (tp_v (i := 4) rfl rfl (fun _ => rfl)) (tp_v (i := 10) rfl rfl (fun _ => rfl))))) txp_n)) (fun _ => ⟨rfl, trivial⟩) (fun _ _ => ⟨rfl, trivial⟩) (kp_law_ldraws_here.sub rfl))) (kp_law_lchoice.sub rfl) (fun _ _ => rfl)) ts_nil) (ts_expr (tx_meth (D0 := [9, 10, 7, 6, 5, 4, 2, 3, 1, 0]) 8 mo_app (txa_c (Ty.TP.tx (tp_v (i := 9) rfl rfl (fun _ => rfl))) (Ty.TPA.tx tpa_n)) (fun _ => rfl) (fun _ _ => rfl) (kp_law_lother.sub rfl)))))))) (ts_seq (ts_set (D0 := [8, 7, 6, 5, 4, 2, 3, 1, 0]) 11 (tx_callK1 (D0 := [8, 7, 6, 5, 4, 2, 3, 0]) 1 ty_law_take (txp_i (txp_f (Ty.TP.tx (tp_f1 f1_lenL (tp_v (i := 4) rfl rfl (fun _ => rfl)))) txp_n)) (fun _ => ⟨rfl, trivial⟩) (fun _ _ => ⟨rfl, trivial⟩) (kp_law_ldraws_here.sub rfl)) (kp_law_lposition.sub rfl) (fun _ _ => rfl)) (ts_seq (ts_if (D' := [11, 8, 7, 6, 5, 4, 2, 3, 1, 0]) (D1 := [11, 8, 7, 6, 5, 4, 2, 3, 1, 0]) (txt_v (tx_2 (o_eq (neg := false) dt_int) (tx_callK1 (D0 := [11, 8, 7, 6, 5, 4, 2, 3, 0]) 1 ty_law_take (txp_i (txp_f (Ty.TP.tx (tp_c (val := MV.int) rfl)) txp_n)) (fun _ => ⟨rfl, trivial⟩) (fun _ _ => ⟨rfl, trivial⟩) (kp_law_ldraws_here.sub rfl)) (Ty.TP.tx (tp_c (val := MV.int) rfl)))) (ts_ret (tx_isN (neg := false) (by intro a h; cases h) (tx_call ty_law_outcome (txp_f (Ty.TP.tx (tp_v (i := 5) rfl rfl (fun _ => rfl))) (txp_f (Ty.TP.tx (tp_v (i := 6) rfl rfl (fun _ => rfl))) (txp_f (Ty.TP.tx (tp_f1 (f1_list sq_o) (tp_v (i := 7) rfl rfl (fun _ => rfl)))) (txp_f (tx_2o (o_ixF sq_l) (tx_a (oa_lst (vc := (lV MV.int)) (t := (fun (x : Int × Int × Unit) => ([x.1, x.2.1] : List Int))) (fun _ => rfl) 2 (fun _ => rfl)) (txa_c (tx_1 o_neg (Ty.TP.tx (tp_c (val := MV.int) rfl))) (txa_c (Ty.TP.tx (tp_f1 f1_lenL (tp_v (i := 4) rfl rfl (fun _ => rfl)))) (Ty.TPA.tx tpa_n)))) (tx_callK1 (D0 := [11, 8, 7, 6, 5, 4, 2, 3, 0]) 1 ty_law_take (txp_i (txp_f (Ty.TP.tx (tp_c (val := MV.int) rfl)) txp_n)) (fun _ => ⟨rfl, trivial⟩) (fun _ _ => ⟨rfl, trivial⟩) (kp_law_ldraws_here.sub rfl))) txp_n))))))) ts_nil) (ts_seq (ts_set (D0 := [11, 8, 7, 6, 5, 4, 2, 3, 1, 0]) 12 (Ty.TP.tx (tp_f1 (f1_list sq_o) (tp_v (i := 7) rfl rfl (fun _ => rfl)))) (kp_law_lhanded.sub rfl) (fun _ _ => rfl)) (ts_seq (ts_set (D0 := [12, 11, 8, 7, 6, 5, 4, 2, 3, 1, 0]) 13 (tx_call ty_law_outcome (txp_f (Ty.TP.tx (tp_v (i := 5) rfl rfl (fun _ => rfl))) (txp_f (Ty.TP.tx (tp_v (i := 6) rfl rfl (fun _ => rfl))) (txp_f (Ty.TP.tx (tp_v (i := 12) rfl rfl (fun _ => rfl))) (txp_f (Ty.TP.tx (tp_v (i := 11) rfl rfl (fun _ => rfl))) txp_n))))) (kp_law_lfound.sub rfl) (fun _ _ => rfl)) (ts_seq (ts_if (D' := [13, 12, 11, 8, 7, 6, 5, 4, 2, 3, 1, 0]) (D1 := [13, 12, 11, 8, 7, 6, 5, 4, 2, 3, 1, 0]) (txt_or (txt_not (txt_v (tx_1 (o_isi (va := (oV MV.bl)) (c := (fun o : (Option Bool) => o.isSome && true)) (fun a h => by cases a with | none => exact f_isi (v := false) rfl (by decide +kernel) | some a => exact f_isi (v := true) rfl (by decide +kernel))) (Ty.TP.tx (tp_v (i := 13) rfl rfl (fun _ => rfl)))))) (txt_v (Ty.TP.tx (tp_2 (o_eqR (neg := true) (Dt.rd (dt_l dt_int)) (Dt.rdO dt_int) (dt_l dt_int).eq) (tp_v (i := 12) rfl rfl (fun _ => rfl)) (tp_v (i := 7) rfl rfl (fun _ => rfl)))))) (ts_ret (Ty.TP.tx (tp_c (val := MV.bl) rfl))) ts_nil) (ts_seq (ts_frz (D0 := [13, 12, 11, 8, 6, 5, 4, 2, 3, 1, 0]) 7 14 (ts_set (D0 := [14, 13, 12, 11, 8, 6, 5, 4, 2, 3, 1, 0]) 15 (tx_call ty_law_wins (txp_f (Ty.TP.tx (tp_v (i := 2) rfl rfl (fun _ => rfl))) (txp_f (tx_call ty_law_left (txp_f (Ty.TP.tx (tp_v (i := 3) rfl rfl (fun _ => rfl))) (txp_f (Ty.TP.tx (tp_v (i := 4) rfl rfl (fun _ => rfl))) (txp_f (Ty.TP.tx (tp_v (i := 6) rfl rfl (fun _ => rfl))) (txp_f (Ty.TP.tx (tp_v (i := 14) rfl rfl (fun _ => rfl))) txp_n))))) (txp_f (Ty.TP.tx (tp_v (i := 6) rfl rfl (fun _ => rfl))) (txp_f (Ty.TP.tx (tp_v (i := 11) rfl rfl (fun _ => rfl))) txp_n))))) (kp_law_lexpected.sub rfl) (fun _ _ => rfl)) (fun _ => frz_1 fix_int) rfl rfl (kp_law_lchoices.sub rfl : Keep _ _ _ [13, 12, 11, 8, 6, 5, 4, 2, 3, 1, 0]).same) (ts_ret (tx_and (tx_2 (o_eqO (neg := false) dt_bl) (Ty.TP.tx (tp_v (i := 13) rfl rfl (fun _ => rfl))) (Ty.TP.tx (tp_v (i := 15) rfl rfl (fun _ => rfl)))) (tx_2 (o_eqO (neg := false) dt_bl) (tx_call ty_law_outcome (txp_f (Ty.TP.tx (tp_v (i := 5) rfl rfl (fun _ => rfl))) (txp_f (Ty.TP.tx (tp_v (i := 6) rfl rfl (fun _ => rfl))) (txp_f (Ty.TP.tx (tp_f1 (f1_list sq_o) (tp_v (i := 8) rfl rfl (fun _ => rfl)))) (txp_f (Ty.TP.tx (tp_v (i := 11) rfl rfl (fun _ => rfl))) txp_n))))) (Ty.TP.tx (tp_v (i := 15) rfl rfl (fun _ => rfl)))))))))))))))))))
   (fun _ _ => ⟨⟨rfl, rfl⟩, trivial⟩) (fun _ => trivial) (fun r h => by cases h)
end K35
/-! ## A35 -/
set_option Elab.async false
set_option linter.all false
set_option maxRecDepth 100000
set_option maxHeartbeats 4000000
namespace K35
open PySem PySem.Spec PyProof.Rows L2 Mn Ty
/-! ### draws -/
theorem take_ok {ds : List Int} {k : Int} (hk : 0 < k) : Ev (F_law_take (ds, ()) (k, ())) (fun r _ => 0 ≤ r ∧ r < k) (fun _ _ => False) := by
  unfold F_law_take
  apply Ev_yRun
  simp only [Ev_ok, Ev_exc, Os_some, Os_if, Ev_xC, Ev_xV, Ev_xN, Ev_xYes, Ev_x1, Ev_x1o, Ev_x2, Ev_x2o, Ev_xIxV, Ev_xIf, Ev_xAnd, Ev_xOr, Ev_xNot, Ev_xCs, Ev_xUn, Ev_xCh, Ev_xSl, Ev_xMeth, Ev_xCall, Ev_xMake, Ev_xComp, Po_nx, Po_yNil, Po_ySeq, Po_ySet, Po_yRet, Po_yRetC, Po_yExpr, Po_yIf, Po_yBreak, Po_yCont, Po_yRaise, Po_yFor, Po_ySetI, Po_yAugI, Po_yTry, gApp, gCat, gMul, gDiv, gMod, gPow, gRep, id, decide_eq_true_eq, Bool.not_eq_true', decide_eq_false_iff_not, Bool.false_eq_true, if_false, if_true, ite_true, ite_false]
  by_cases h : ds.length = 0
  · simp [h, Ev, hk]
  · obtain ⟨zs, x, rfl⟩ := List.eq_nil_or_concat ds |>.resolve_left (fun z => h (by rw [z]; rfl))
    have e1 : ¬ (((zs ++ [x]).length : Int) = 0) := by simp; omega
    simp [e1, gPop, Os, hk]
    exact fun _ => ⟨Int.emod_nonneg _ (by omega), Int.emod_lt_of_pos _ hk⟩
theorem draws_ok {ns : List Int} {n : Int} (hl : ns.length ≤ 63) (h0 : 0 ≤ n) (hn : n ≤ 1000) : Ev (F_law_draws () (ns, n, ())) (fun _ _ => True) (fun _ _ => False) := by
  unfold F_law_draws
  apply Ev_yRun
  simp only [Ev_ok, Ev_exc, Os_some, Os_if, Ev_xC, Ev_xV, Ev_xN, Ev_xYes, Ev_x1, Ev_x1o, Ev_x2, Ev_x2o, Ev_xIxV, Ev_xIf, Ev_xAnd, Ev_xOr, Ev_xNot, Ev_xCs, Ev_xUn, Ev_xCh, Ev_xSl, Ev_xMeth, Ev_xCall, Ev_xMake, Ev_xComp, Po_nx, Po_yNil, Po_ySeq, Po_ySet, Po_yRet, Po_yRetC, Po_yExpr, Po_yIf, Po_yBreak, Po_yCont, Po_yRaise, Po_yFor, Po_ySetI, Po_yAugI, Po_yTry, gApp, gCat, gMul, gDiv, gMod, gPow, gRep, id, decide_eq_true_eq, Bool.not_eq_true', decide_eq_false_iff_not, Bool.false_eq_true, if_false, if_true, ite_true, ite_false]
  rw [rng1 (by omega) (by omega)]
  simp only [Ev_ok, Ev_exc, Os_some, Os_if, Ev_xC, Ev_xV, Ev_xN, Ev_xYes, Ev_x1, Ev_x1o, Ev_x2, Ev_x2o, Ev_xIxV, Ev_xIf, Ev_xAnd, Ev_xOr, Ev_xNot, Ev_xCs, Ev_xUn, Ev_xCh, Ev_xSl, Ev_xMeth, Ev_xCall, Ev_xMake, Ev_xComp, Po_nx, Po_yNil, Po_ySeq, Po_ySet, Po_yRet, Po_yRetC, Po_yExpr, Po_yIf, Po_yBreak, Po_yCont, Po_yRaise, Po_yFor, Po_ySetI, Po_yAugI, Po_yTry, gApp, gCat, gMul, gDiv, gMod, gPow, gRep, id, decide_eq_true_eq, Bool.not_eq_true', decide_eq_false_iff_not, Bool.false_eq_true, if_false, if_true, ite_true, ite_false]
  have st : ∀ (s : V_law_draws), 0 < s.lcells.length → s.lcells.length ≤ 63 → s.lfound = [] → s.lmixed = 12345 → (0 < s.lcells.length ∧ s.lcells.length ≤ 63) ∧ s.lfound.length = 0 ∧ 0 ≤ s.lmixed ∧ s.lmixed < 2147483647 := fun s h1 h2 h3 h4 => ⟨⟨h1, h2⟩, by rw [h3]; rfl, by rw [h4]; decide, by rw [h4]; decide⟩
  split
  all_goals refine po_forL (fun j s => (0 < s.lcells.length ∧ s.lcells.length ≤ 63) ∧ s.lfound.length = j ∧ 0 ≤ s.lmixed ∧ s.lmixed < 2147483647) (st _ ?_ ?_ rfl rfl) ?_ ?_
  any_goals first | exact (by decide : 0 < [(7 : Int)].length) | exact (by decide : [(7 : Int)].length ≤ 63) | exact hl | (show 0 < ns.length; omega)
  all_goals first
    | (intro s hs; simp [Os, gRev]; done)
    | skip
  all_goals
    rintro j x s hx ⟨⟨c1, c2⟩, f1, m1, m2⟩
    obtain ⟨rfl, hj⟩ := rng_get hx
    rw [Int.zero_add]
    simp only [Ev_ok, Ev_exc, Os_some, Os_if, Ev_xC, Ev_xV, Ev_xN, Ev_xYes, Ev_x1, Ev_x1o, Ev_x2, Ev_x2o, Ev_xIxV, Ev_xIf, Ev_xAnd, Ev_xOr, Ev_xNot, Ev_xCs, Ev_xUn, Ev_xCh, Ev_xSl, Ev_xMeth, Ev_xCall, Ev_xMake, Ev_xComp, Po_nx, Po_yNil, Po_ySeq, Po_ySet, Po_yRet, Po_yRetC, Po_yExpr, Po_yIf, Po_yBreak, Po_yCont, Po_yRaise, Po_yFor, Po_ySetI, Po_yAugI, Po_yTry, gApp, gCat, gMul, gDiv, gMod, gPow, gRep, id, decide_eq_true_eq, Bool.not_eq_true', decide_eq_false_iff_not, Bool.false_eq_true, if_false, if_true, ite_true, ite_false]
    have i1 := Int.emod_nonneg (j : Int) (b := (s.lcells.length : Int)) (by omega)
    have i2 := Int.emod_lt_of_pos (j : Int) (b := (s.lcells.length : Int)) (by omega)
    refine ⟨by omega, Os_intro (gIx_lt i1 i2) ?_⟩
    generalize s.lcells[((j : Int) % s.lcells.length).toNat]'_ = cell
    refine ⟨cMul_r (by decide) (by decide), by decide, cMul_r (by decide) (by decide), cMul_r (by decide) (by decide), by decide, ?_⟩
    have q1 := Int.emod_nonneg (s.lmixed * 48271 + cell % 1000003 * 69621 + j * 7919 + 11) (b := 2147483647) (by decide)
    have q2 := Int.emod_lt_of_pos (s.lmixed * 48271 + cell % 1000003 * 69621 + j * 7919 + 11) (b := 2147483647) (by decide)
    generalize (s.lmixed * 48271 + cell % 1000003 * 69621 + j * 7919 + 11) % 2147483647 = mixed at *
    refine ⟨cMul_r (by omega) (by omega), cMul_r (by omega) (by omega), by decide, by decide, ?_⟩
    have z1 : s.lfound.length < sizeLine := by rw [sizeLine_eq]; omega
    split
    · refine ⟨by decide, z1, by decide, Os_intro (gSetI_z i1 i2) ?_⟩
      refine ⟨⟨?_, ?_⟩, ?_, q1, q2⟩
      · show 0 < (s.lcells.set _ _).length
        rw [List.length_set]; exact c1
      · show (s.lcells.set _ _).length ≤ 63
        rw [List.length_set]; exact c2
      · show (s.lfound ++ [_]).length = _
        rw [List.length_append, f1]; rfl
    · refine ⟨by decide, z1, ⟨c1, c2⟩, ?_, q1, q2⟩
      show (s.lfound ++ [_]).length = _
      rw [List.length_append, f1]; rfl
/-! ### what is reached -/
theorem reachable_ok {g : List (List Int)} {starts : List Int} (hg : Gr.Ok g) (hs : ∀ v ∈ starts, Gr.Node g v) (hz : g.length ≤ 100000) : Ev (F_reachable (g, ()) (starts, ())) (fun r i => i = (g, ()) ∧ r.length = g.length ∧ ∀ v, Gr.Tr r v ↔ ∃ s ∈ starts, Gr.Star (Gr.Ed g) s v) (fun _ _ => False) := by
  unfold F_reachable
  apply Ev_yRun
  simp only [Ev_ok, Ev_exc, Os_some, Os_if, Ev_xC, Ev_xV, Ev_xN, Ev_xYes, Ev_x1, Ev_x1o, Ev_x2, Ev_x2o, Ev_xIxV, Ev_xIf, Ev_xAnd, Ev_xOr, Ev_xNot, Ev_xCs, Ev_xUn, Ev_xCh, Ev_xSl, Ev_xMeth, Ev_xCall, Ev_xMake, Ev_xComp, Po_nx, Po_yNil, Po_ySeq, Po_ySet, Po_yRet, Po_yRetC, Po_yExpr, Po_yIf, Po_yBreak, Po_yCont, Po_yRaise, Po_yFor, Po_ySetI, Po_yAugI, Po_yTry, gApp, gCat, gMul, gDiv, gMod, gPow, gRep, id, decide_eq_true_eq, Bool.not_eq_true', decide_eq_false_iff_not, Bool.false_eq_true, if_false, if_true, ite_true, ite_false]
  refine ⟨⟨by omega, by omega, by rw [sizeLine_eq]; simp; omega⟩, ?_⟩
  have e0 : (List.replicate ((g.length : Int)).toNat [false]).flatten = List.replicate g.length false := by simp
  rw [e0]
  refine po_forP (fun ys s => s.moves = g ∧ Gr.Mk (List.replicate g.length false) [] ys s.seen s.stack) ⟨rfl, Gr.Mk.zero⟩ ?_ ?_
  · rintro ys zs x s e1 ⟨hm, m⟩
    obtain ⟨x0, x1⟩ := hs x (by rw [e1]; simp)
    have hl : s.seen.length = g.length := by rw [m.len]; simp
    simp only [Ev_ok, Ev_exc, Os_some, Os_if, Ev_xC, Ev_xV, Ev_xN, Ev_xYes, Ev_x1, Ev_x1o, Ev_x2, Ev_x2o, Ev_xIxV, Ev_xIf, Ev_xAnd, Ev_xOr, Ev_xNot, Ev_xCs, Ev_xUn, Ev_xCh, Ev_xSl, Ev_xMeth, Ev_xCall, Ev_xMake, Ev_xComp, Po_nx, Po_yNil, Po_ySeq, Po_ySet, Po_yRet, Po_yRetC, Po_yExpr, Po_yIf, Po_yBreak, Po_yCont, Po_yRaise, Po_yFor, Po_ySetI, Po_yAugI, Po_yTry, gApp, gCat, gMul, gDiv, gMod, gPow, gRep, id, decide_eq_true_eq, Bool.not_eq_true', decide_eq_false_iff_not, Bool.false_eq_true, if_false, if_true, ite_true, ite_false]
    refine Os_intro (gIx_lt x0 (by omega)) ?_
    obtain ⟨q1, q2⟩ := m.step x0 (by omega)
    by_cases ht : Gr.Tr s.seen x
    · rw [show s.seen[x.toNat]'_ = true from (Gr.tr_get x0 (by omega)).mpr ht]
      simp
      exact ⟨hm, q1 ht⟩
    · rw [show s.seen[x.toNat]'_ = false by
        cases hb : s.seen[x.toNat]'(by omega) with
        | false => rfl
        | true => exact absurd ((Gr.tr_get x0 (by omega)).mp hb) ht]
      simp only [if_true]
      refine Os_intro (gSetI_z x0 (by show x < (s.seen.length : Int); omega)) ?_
      have := m.cnt
      refine ⟨by show s.stack.length < _; rw [sizeLine_eq]; simp at this; omega, hm, q2 ht⟩
  · rintro s ⟨hm, m⟩
    have w0 : Gr.Wk (Gr.Ed g) g.length (fun v => ∃ s ∈ starts, Gr.Star (Gr.Ed g) s v) s.seen s.stack := by
      refine ⟨by rw [m.len]; simp, fun v hv => ?_, fun v hv => ?_, fun u hu => .inl ?_, ?_⟩
      · rcases (m.tr v).mp hv with q | q
        · exact absurd q Gr.tr_rep
        · exact ⟨v, q, .refl v⟩
      · rcases (m.stk v).mp hv with q | q
        · cases q
        · exact (m.tr v).mpr (.inr q.1)
      · rcases (m.tr u).mp hu with q | q
        · exact absurd q Gr.tr_rep
        · exact (m.stk u).mpr (.inr ⟨q, Gr.tr_rep⟩)
      · have := m.cnt; simp at this; omega
    have hst : ∀ v ∈ starts, Gr.Tr s.seen v := fun v hv => (m.tr v).mpr (.inr hv)
    refine po_while (fun t => t.moves = g ∧ Gr.Wk (Gr.Ed g) g.length (fun v => ∃ s ∈ starts, Gr.Star (Gr.Ed g) s v) t.seen t.stack ∧ ∀ v, Gr.Tr s.seen v → Gr.Tr t.seen v) (fun t => 2 * t.seen.count false + t.stack.length) ⟨hm, w0, fun _ h => h⟩ ?_ ?_
    · have := w0.cnt
      show _ < 2 ^ 62
      omega
    rintro t ⟨tm, w, mono⟩
    simp only [Ev_ok, Ev_exc, Os_some, Os_if, Ev_xC, Ev_xV, Ev_xN, Ev_xYes, Ev_x1, Ev_x1o, Ev_x2, Ev_x2o, Ev_xIxV, Ev_xIf, Ev_xAnd, Ev_xOr, Ev_xNot, Ev_xCs, Ev_xUn, Ev_xCh, Ev_xSl, Ev_xMeth, Ev_xCall, Ev_xMake, Ev_xComp, Po_nx, Po_yNil, Po_ySeq, Po_ySet, Po_yRet, Po_yRetC, Po_yExpr, Po_yIf, Po_yBreak, Po_yCont, Po_yRaise, Po_yFor, Po_ySetI, Po_yAugI, Po_yTry, gApp, gCat, gMul, gDiv, gMod, gPow, gRep, id, decide_eq_true_eq, Bool.not_eq_true', decide_eq_false_iff_not, Bool.false_eq_true, if_false, if_true, ite_true, ite_false]
    rcases List.eq_nil_or_concat t.stack with e | ⟨st, u, e⟩
    · rw [e] at w
      simp [e]
      refine ⟨tm, w.len, fun v => ⟨w.p v, ?_⟩⟩
      rintro ⟨x, hx, hv⟩
      exact w.end hv (mono x (hst x hx))
    · have e : t.stack = st ++ [u] := by simpa using e
      rw [e] at w
      have hu := w.stk u (by simp)
      obtain ⟨u0, u1⟩ : Gr.Node g u := ⟨hu.1, by have := hu.lt; rw [w.len] at this; exact this⟩
      rw [if_pos (by rw [e]; simp <;> omega)]
      rw [e]
      simp only [gPop, List.getLast?_concat, List.dropLast_concat, Os_some]
      have hrow : (t.put_stack st).moves[u.toNat]? = some (g[u.toNat]'(by omega)) := by rw [show (t.put_stack st).moves = g from tm]; exact List.getElem?_eq_getElem _
      refine Os_intro (gIx_z u0 hrow) ?_
      have hts : ∀ x, x ∈ g[u.toNat]'(by omega) ↔ Gr.Ed g u x := fun x => ⟨fun h => ⟨u0, _, List.getElem?_eq_getElem _, h⟩, fun ⟨_, r, e1, e2⟩ => by
        rw [List.getElem?_eq_getElem (by omega)] at e1
        cases e1; exact e2⟩
      have hin : ∀ x ∈ g[u.toNat]'(by omega), 0 ≤ x ∧ x < g.length := fun x hx => hg _ (List.getElem_mem _) x hx
      generalize g[u.toNat]'(by omega) = ts at hts hin
      refine po_forP (fun ys s' => s'.moves = g ∧ Gr.Mk t.seen st ys s'.seen s'.stack) ⟨tm, Gr.Mk.zero⟩ ?_ ?_
      · rintro ys zs x s' e1 ⟨hm, m⟩
        obtain ⟨x0, x1⟩ := hin x (by rw [e1]; simp)
        have hl : s'.seen.length = g.length := by rw [m.len]; exact w.len
        simp only [Ev_ok, Ev_exc, Os_some, Os_if, Ev_xC, Ev_xV, Ev_xN, Ev_xYes, Ev_x1, Ev_x1o, Ev_x2, Ev_x2o, Ev_xIxV, Ev_xIf, Ev_xAnd, Ev_xOr, Ev_xNot, Ev_xCs, Ev_xUn, Ev_xCh, Ev_xSl, Ev_xMeth, Ev_xCall, Ev_xMake, Ev_xComp, Po_nx, Po_yNil, Po_ySeq, Po_ySet, Po_yRet, Po_yRetC, Po_yExpr, Po_yIf, Po_yBreak, Po_yCont, Po_yRaise, Po_yFor, Po_ySetI, Po_yAugI, Po_yTry, gApp, gCat, gMul, gDiv, gMod, gPow, gRep, id, decide_eq_true_eq, Bool.not_eq_true', decide_eq_false_iff_not, Bool.false_eq_true, if_false, if_true, ite_true, ite_false]
        refine Os_intro (gIx_lt x0 (by omega)) ?_
        obtain ⟨q1, q2⟩ := m.step x0 (by omega)
        by_cases ht : Gr.Tr s'.seen x
        · rw [show s'.seen[x.toNat]'_ = true from (Gr.tr_get x0 (by omega)).mpr ht]
          simp
          exact ⟨hm, q1 ht⟩
        · rw [show s'.seen[x.toNat]'_ = false by
            cases hb : s'.seen[x.toNat]'(by omega) with
            | false => rfl
            | true => exact absurd ((Gr.tr_get x0 (by omega)).mp hb) ht]
          simp only [if_true]
          refine Os_intro (gSetI_z x0 (by show x < (s'.seen.length : Int); omega)) ?_
          have := m.cnt
          have := w.cnt
          rw [List.length_append] at this
          refine ⟨by show s'.stack.length < _; rw [sizeLine_eq]; simp at *; omega, hm, q2 ht⟩
      · rintro s' ⟨hm, m⟩
        refine ⟨⟨hm, w.pop m hts fun a b hab ⟨x, h1, h2⟩ => ⟨x, h1, h2.snoc hab⟩, fun v hv => (m.tr v).mpr (.inl (mono v hv))⟩, ?_⟩
        have := m.cnt
        have := Gr.count_le m
        rw [List.length_append]
        simp
        omega
/-! ### the graph turned round -/
theorem ed_push {b : List (List Int)} {t x : Int} {r : List Int} (h0 : 0 ≤ t) (ht : b[t.toNat]? = some r) {v u : Int} : Gr.Ed (b.set t.toNat (r ++ [x])) v u ↔ Gr.Ed b v u ∨ (v = t ∧ u = x) := by
  have hl := (List.getElem?_eq_some_iff.mp ht).1
  unfold Gr.Ed
  constructor
  · rintro ⟨v0, r', e, m⟩
    by_cases hv : v = t
    · subst hv
      rw [List.getElem?_set_self hl] at e
      cases e
      rcases List.mem_append.mp m with m | m
      · exact .inl ⟨v0, r, ht, m⟩
      · exact .inr ⟨rfl, List.mem_singleton.mp m⟩
    · rw [List.getElem?_set_ne (by omega)] at e
      exact .inl ⟨v0, r', e, m⟩
  · rintro (⟨v0, r', e, m⟩ | ⟨rfl, rfl⟩)
    · by_cases hv : v = t
      · subst hv
        rw [ht] at e; cases e
        exact ⟨v0, _, List.getElem?_set_self hl, List.mem_append_left _ m⟩
      · exact ⟨v0, r', by rw [List.getElem?_set_ne (by omega)]; exact e, m⟩
    · exact ⟨h0, _, List.getElem?_set_self hl, by simp⟩
theorem ed_row {g : List (List Int)} {j : Nat} {r : List Int} (h : g[j]? = some r) {v : Int} : v ∈ r ↔ Gr.Ed g j v :=
  ⟨fun m => ⟨by omega, r, by simpa using h, m⟩, fun ⟨_, r', e, m⟩ => by
    have e : g[j]? = some r' := by simpa using e
    rw [h] at e; cases e; exact m⟩
theorem reversed_ok {g : List (List Int)} (hg : Gr.Ok g) (hz : g.length ≤ 1000) (hd : ∀ r ∈ g, r.length ≤ 1000) : Ev (F_reversed_moves () (g, ())) (fun b _ => b.length = g.length ∧ (∀ v u, Gr.Ed b v u ↔ Gr.Ed g u v)) (fun _ _ => False) := by
  unfold F_reversed_moves
  apply Ev_yRun
  simp only [Ev_ok, Ev_exc, Os_some, Os_if, Ev_xC, Ev_xV, Ev_xN, Ev_xYes, Ev_x1, Ev_x1o, Ev_x2, Ev_x2o, Ev_xIxV, Ev_xIf, Ev_xAnd, Ev_xOr, Ev_xNot, Ev_xCs, Ev_xUn, Ev_xCh, Ev_xSl, Ev_xMeth, Ev_xCall, Ev_xMake, Ev_xComp, Po_nx, Po_yNil, Po_ySeq, Po_ySet, Po_yRet, Po_yRetC, Po_yExpr, Po_yIf, Po_yBreak, Po_yCont, Po_yRaise, Po_yFor, Po_ySetI, Po_yAugI, Po_yTry, gApp, gCat, gMul, gDiv, gMod, gPow, gRep, id, decide_eq_true_eq, Bool.not_eq_true', decide_eq_false_iff_not, Bool.false_eq_true, if_false, if_true, ite_true, ite_false]
  refine comp_mapP (fun s => s.moves = g) (fun _ => []) rfl (by omega) ?_ ?_
  · intro x hx s hm
    simp only [Ev_ok, Ev_exc, Os_some, Os_if, Ev_xC, Ev_xV, Ev_xN, Ev_xYes, Ev_x1, Ev_x1o, Ev_x2, Ev_x2o, Ev_xIxV, Ev_xIf, Ev_xAnd, Ev_xOr, Ev_xNot, Ev_xCs, Ev_xUn, Ev_xCh, Ev_xSl, Ev_xMeth, Ev_xCall, Ev_xMake, Ev_xComp, Po_nx, Po_yNil, Po_ySeq, Po_ySet, Po_yRet, Po_yRetC, Po_yExpr, Po_yIf, Po_yBreak, Po_yCont, Po_yRaise, Po_yFor, Po_ySetI, Po_yAugI, Po_yTry, gApp, gCat, gMul, gDiv, gMod, gPow, gRep, id, decide_eq_true_eq, Bool.not_eq_true', decide_eq_false_iff_not, Bool.false_eq_true, if_false, if_true, ite_true, ite_false]
    exact ⟨trivial, hm⟩
  intro s hm
  simp only [Ev_ok, Ev_exc, Os_some, Os_if, Ev_xC, Ev_xV, Ev_xN, Ev_xYes, Ev_x1, Ev_x1o, Ev_x2, Ev_x2o, Ev_xIxV, Ev_xIf, Ev_xAnd, Ev_xOr, Ev_xNot, Ev_xCs, Ev_xUn, Ev_xCh, Ev_xSl, Ev_xMeth, Ev_xCall, Ev_xMake, Ev_xComp, Po_nx, Po_yNil, Po_ySeq, Po_ySet, Po_yRet, Po_yRetC, Po_yExpr, Po_yIf, Po_yBreak, Po_yCont, Po_yRaise, Po_yFor, Po_ySetI, Po_yAugI, Po_yTry, gApp, gCat, gMul, gDiv, gMod, gPow, gRep, id, decide_eq_true_eq, Bool.not_eq_true', decide_eq_false_iff_not, Bool.false_eq_true, if_false, if_true, ite_true, ite_false]
  rw [rng1 (by omega) (by rw [show (s.put_back _).moves = g from hm]; omega), show (s.put_back _).moves = g from hm]
  simp only [Ev_ok, Ev_exc, Os_some, Os_if, Ev_xC, Ev_xV, Ev_xN, Ev_xYes, Ev_x1, Ev_x1o, Ev_x2, Ev_x2o, Ev_xIxV, Ev_xIf, Ev_xAnd, Ev_xOr, Ev_xNot, Ev_xCs, Ev_xUn, Ev_xCh, Ev_xSl, Ev_xMeth, Ev_xCall, Ev_xMake, Ev_xComp, Po_nx, Po_yNil, Po_ySeq, Po_ySet, Po_yRet, Po_yRetC, Po_yExpr, Po_yIf, Po_yBreak, Po_yCont, Po_yRaise, Po_yFor, Po_ySetI, Po_yAugI, Po_yTry, gApp, gCat, gMul, gDiv, gMod, gPow, gRep, id, decide_eq_true_eq, Bool.not_eq_true', decide_eq_false_iff_not, Bool.false_eq_true, if_false, if_true, ite_true, ite_false]
  refine po_forL (fun j s => s.moves = g ∧ s.back.length = g.length ∧ (∀ r ∈ s.back, r.length ≤ j * 1000) ∧ ∀ v u, Gr.Ed s.back v u ↔ u < j ∧ Gr.Ed g u v) ⟨hm, by show (List.map _ _).length = _; simp, fun r hr => ?_, fun v u => ?_⟩ ?_ ?_
  · have hr : r ∈ List.map (fun _ => ([] : List Int)) g := hr
    obtain ⟨_, _, rfl⟩ := List.mem_map.mp hr
    exact Nat.zero_le _
  · constructor
    · rintro ⟨_, r, e, m⟩
      have e : (List.map (fun _ => ([] : List Int)) g)[v.toNat]? = some r := e
      have := List.mem_of_getElem? e
      obtain ⟨_, _, rfl⟩ := List.mem_map.mp this
      cases m
    · rintro ⟨h, q⟩
      have := q.1
      omega
  · rintro j x s hx ⟨hm, hl, hr, he⟩
    obtain ⟨rfl, hj⟩ := rng_get hx
    have hj : j < g.length := by simpa using hj
    rw [Int.zero_add]
    simp only [Ev_ok, Ev_exc, Os_some, Os_if, Ev_xC, Ev_xV, Ev_xN, Ev_xYes, Ev_x1, Ev_x1o, Ev_x2, Ev_x2o, Ev_xIxV, Ev_xIf, Ev_xAnd, Ev_xOr, Ev_xNot, Ev_xCs, Ev_xUn, Ev_xCh, Ev_xSl, Ev_xMeth, Ev_xCall, Ev_xMake, Ev_xComp, Po_nx, Po_yNil, Po_ySeq, Po_ySet, Po_yRet, Po_yRetC, Po_yExpr, Po_yIf, Po_yBreak, Po_yCont, Po_yRaise, Po_yFor, Po_ySetI, Po_yAugI, Po_yTry, gApp, gCat, gMul, gDiv, gMod, gPow, gRep, id, decide_eq_true_eq, Bool.not_eq_true', decide_eq_false_iff_not, Bool.false_eq_true, if_false, if_true, ite_true, ite_false]
    have hrow : (s.put_node (j : Int)).moves[j]? = some (g[j]) := by rw [show (s.put_node _).moves = g from hm]; exact List.getElem?_eq_getElem _
    refine Os_intro (gIx_nat hrow) ?_
    have hts : ∀ x, x ∈ g[j] ↔ Gr.Ed g j x := fun x => ed_row (List.getElem?_eq_getElem _)
    have hin : ∀ x ∈ g[j], 0 ≤ x ∧ x < g.length := fun x hx => hg _ (List.getElem_mem _) x hx
    have hlen : g[j].length ≤ 1000 := hd _ (List.getElem_mem _)
    generalize g[j] = ts at hts hin hlen
    refine po_forP (fun ys s => s.moves = g ∧ s.node = j ∧ s.back.length = g.length ∧ (∀ r ∈ s.back, r.length ≤ j * 1000 + ys.length) ∧ ∀ v u, Gr.Ed s.back v u ↔ (u < j ∧ Gr.Ed g u v) ∨ (u = j ∧ v ∈ ys)) ⟨hm, rfl, hl, fun r q => by have := hr r q; simp; omega, fun v u => by rw [show (s.put_node _).back = s.back from rfl, he]; simp⟩ ?_ ?_
    · rintro ys zs x s e1 ⟨hm, hn, hl, hr, he⟩
      obtain ⟨x0, x1⟩ := hin x (by rw [e1]; simp)
      have hys : ys.length < 1000 := by rw [e1] at hlen; simp at hlen; omega
      simp only [Ev_ok, Ev_exc, Os_some, Os_if, Ev_xC, Ev_xV, Ev_xN, Ev_xYes, Ev_x1, Ev_x1o, Ev_x2, Ev_x2o, Ev_xIxV, Ev_xIf, Ev_xAnd, Ev_xOr, Ev_xNot, Ev_xCs, Ev_xUn, Ev_xCh, Ev_xSl, Ev_xMeth, Ev_xCall, Ev_xMake, Ev_xComp, Po_nx, Po_yNil, Po_ySeq, Po_ySet, Po_yRet, Po_yRetC, Po_yExpr, Po_yIf, Po_yBreak, Po_yCont, Po_yRaise, Po_yFor, Po_ySetI, Po_yAugI, Po_yTry, gApp, gCat, gMul, gDiv, gMod, gPow, gRep, id, decide_eq_true_eq, Bool.not_eq_true', decide_eq_false_iff_not, Bool.false_eq_true, if_false, if_true, ite_true, ite_false]
      rw [Ev_xMeth2 (by intro s C xs s' h; simp [xCs, xV, xN, X.bind] at h)]
      simp only [Ev_ok, Ev_exc, Os_some, Os_if, Ev_xC, Ev_xV, Ev_xN, Ev_xYes, Ev_x1, Ev_x1o, Ev_x2, Ev_x2o, Ev_xIxV, Ev_xIf, Ev_xAnd, Ev_xOr, Ev_xNot, Ev_xCs, Ev_xUn, Ev_xCh, Ev_xSl, Ev_xMeth, Ev_xCall, Ev_xMake, Ev_xComp, Po_nx, Po_yNil, Po_ySeq, Po_ySet, Po_yRet, Po_yRetC, Po_yExpr, Po_yIf, Po_yBreak, Po_yCont, Po_yRaise, Po_yFor, Po_ySetI, Po_yAugI, Po_yTry, gApp, gCat, gMul, gDiv, gMod, gPow, gRep, id, decide_eq_true_eq, Bool.not_eq_true', decide_eq_false_iff_not, Bool.false_eq_true, if_false, if_true, ite_true, ite_false]
      have hrow : (s.put_target x).back[x.toNat]? = some (s.back[x.toNat]'(by omega)) := List.getElem?_eq_getElem _
      refine Os_intro (ixN_z x0 (by show x < (s.back.length : Int); omega)) (Os_intro hrow ?_)
      have hrl := hr _ (List.getElem_mem (l := s.back) (n := x.toNat) (by omega))
      have hrow' : s.back[x.toNat]? = some (s.back[x.toNat]'(by omega)) := List.getElem?_eq_getElem _
      generalize s.back[x.toNat]'(by omega) = row at *
      refine ⟨by rw [sizeLine_eq]; omega, hm, hn, ?_, ?_, fun v u => ?_⟩
      · show (s.back.set _ _).length = _
        rw [List.length_set]; exact hl
      · intro r q
        have q : r ∈ s.back.set x.toNat (row ++ [s.node]) := q
        rw [List.length_append]
        rcases List.mem_or_eq_of_mem_set q with q | q
        · have := hr r q; simp; omega
        · rw [q, List.length_append]; simp; omega
      · show Gr.Ed (s.back.set x.toNat (row ++ [s.node])) v u ↔ _
        rw [ed_push x0 hrow', he, hn]
        simp
        constructor
        · rintro ((q | q) | q)
          · exact .inl q
          · exact .inr ⟨q.1, .inl q.2⟩
          · exact .inr ⟨q.2, .inr q.1⟩
        · rintro (q | ⟨q1, q2 | q2⟩)
          · exact .inl (.inl q)
          · exact .inl (.inr ⟨q1, q2⟩)
          · exact .inr ⟨q2, q1⟩
    · rintro s ⟨hm, hn, hl, hr, he⟩
      refine ⟨hm, hl, fun r q => ?_, fun v u => ?_⟩
      · have := hr r q
        rw [Nat.add_mul]; omega
      · rw [he]
        constructor
        · rintro (⟨q1, q2⟩ | ⟨rfl, q2⟩)
          · exact ⟨by omega, q2⟩
          · exact ⟨by omega, (hts v).mp q2⟩
        · rintro ⟨q1, q2⟩
          by_cases h : u = j
          · subst h; exact .inr ⟨rfl, (hts v).mpr q2⟩
          · exact .inl ⟨by omega, q2⟩
  · rintro s ⟨hm, hl, hr, he⟩
    refine ⟨hl, fun v u => ?_⟩
    rw [he, rng_len]
    exact ⟨fun h => h.2, fun h => ⟨by have := h.l.2; simp; omega, h⟩⟩
theorem reversed2_ok {g : List (List Int)} (hg : Gr.Ok g) (hz : g.length ≤ 1000) (hd : ∀ r ∈ g, r.length ≤ 1000) : Ev (F_reversed_moves_2 () (g, ())) (fun b _ => b.length = g.length ∧ (∀ v u, Gr.Ed b v u ↔ Gr.Ed g u v)) (fun _ _ => False) := by
  unfold F_reversed_moves_2
  apply Ev_yRun
  simp only [Ev_ok, Ev_exc, Os_some, Os_if, Ev_xC, Ev_xV, Ev_xN, Ev_xYes, Ev_x1, Ev_x1o, Ev_x2, Ev_x2o, Ev_xIxV, Ev_xIf, Ev_xAnd, Ev_xOr, Ev_xNot, Ev_xCs, Ev_xUn, Ev_xCh, Ev_xSl, Ev_xMeth, Ev_xCall, Ev_xMake, Ev_xComp, Po_nx, Po_yNil, Po_ySeq, Po_ySet, Po_yRet, Po_yRetC, Po_yExpr, Po_yIf, Po_yBreak, Po_yCont, Po_yRaise, Po_yFor, Po_ySetI, Po_yAugI, Po_yTry, gApp, gCat, gMul, gDiv, gMod, gPow, gRep, id, decide_eq_true_eq, Bool.not_eq_true', decide_eq_false_iff_not, Bool.false_eq_true, if_false, if_true, ite_true, ite_false]
  refine comp_mapP (fun s => s.moves = g) (fun _ => []) rfl (by omega) ?_ ?_
  · intro x hx s hm
    simp only [Ev_ok, Ev_exc, Os_some, Os_if, Ev_xC, Ev_xV, Ev_xN, Ev_xYes, Ev_x1, Ev_x1o, Ev_x2, Ev_x2o, Ev_xIxV, Ev_xIf, Ev_xAnd, Ev_xOr, Ev_xNot, Ev_xCs, Ev_xUn, Ev_xCh, Ev_xSl, Ev_xMeth, Ev_xCall, Ev_xMake, Ev_xComp, Po_nx, Po_yNil, Po_ySeq, Po_ySet, Po_yRet, Po_yRetC, Po_yExpr, Po_yIf, Po_yBreak, Po_yCont, Po_yRaise, Po_yFor, Po_ySetI, Po_yAugI, Po_yTry, gApp, gCat, gMul, gDiv, gMod, gPow, gRep, id, decide_eq_true_eq, Bool.not_eq_true', decide_eq_false_iff_not, Bool.false_eq_true, if_false, if_true, ite_true, ite_false]
    exact ⟨trivial, hm⟩
  intro s hm
  simp only [Ev_ok, Ev_exc, Os_some, Os_if, Ev_xC, Ev_xV, Ev_xN, Ev_xYes, Ev_x1, Ev_x1o, Ev_x2, Ev_x2o, Ev_xIxV, Ev_xIf, Ev_xAnd, Ev_xOr, Ev_xNot, Ev_xCs, Ev_xUn, Ev_xCh, Ev_xSl, Ev_xMeth, Ev_xCall, Ev_xMake, Ev_xComp, Po_nx, Po_yNil, Po_ySeq, Po_ySet, Po_yRet, Po_yRetC, Po_yExpr, Po_yIf, Po_yBreak, Po_yCont, Po_yRaise, Po_yFor, Po_ySetI, Po_yAugI, Po_yTry, gApp, gCat, gMul, gDiv, gMod, gPow, gRep, id, decide_eq_true_eq, Bool.not_eq_true', decide_eq_false_iff_not, Bool.false_eq_true, if_false, if_true, ite_true, ite_false]
  rw [rng1 (by omega) (by rw [show (s.put_back _).moves = g from hm]; omega), show (s.put_back _).moves = g from hm]
  simp only [Ev_ok, Ev_exc, Os_some, Os_if, Ev_xC, Ev_xV, Ev_xN, Ev_xYes, Ev_x1, Ev_x1o, Ev_x2, Ev_x2o, Ev_xIxV, Ev_xIf, Ev_xAnd, Ev_xOr, Ev_xNot, Ev_xCs, Ev_xUn, Ev_xCh, Ev_xSl, Ev_xMeth, Ev_xCall, Ev_xMake, Ev_xComp, Po_nx, Po_yNil, Po_ySeq, Po_ySet, Po_yRet, Po_yRetC, Po_yExpr, Po_yIf, Po_yBreak, Po_yCont, Po_yRaise, Po_yFor, Po_ySetI, Po_yAugI, Po_yTry, gApp, gCat, gMul, gDiv, gMod, gPow, gRep, id, decide_eq_true_eq, Bool.not_eq_true', decide_eq_false_iff_not, Bool.false_eq_true, if_false, if_true, ite_true, ite_false]
  refine po_forL (fun j s => s.moves = g ∧ s.back.length = g.length ∧ (∀ r ∈ s.back, r.length ≤ j * 1000) ∧ ∀ v u, Gr.Ed s.back v u ↔ u < j ∧ Gr.Ed g u v) ⟨hm, by show (List.map _ _).length = _; simp, fun r hr => ?_, fun v u => ?_⟩ ?_ ?_
  · have hr : r ∈ List.map (fun _ => ([] : List Int)) g := hr
    obtain ⟨_, _, rfl⟩ := List.mem_map.mp hr
    exact Nat.zero_le _
  · constructor
    · rintro ⟨_, r, e, m⟩
      have e : (List.map (fun _ => ([] : List Int)) g)[v.toNat]? = some r := e
      have := List.mem_of_getElem? e
      obtain ⟨_, _, rfl⟩ := List.mem_map.mp this
      cases m
    · rintro ⟨h, q⟩
      have := q.1
      omega
  · rintro j x s hx ⟨hm, hl, hr, he⟩
    obtain ⟨rfl, hj⟩ := rng_get hx
    have hj : j < g.length := by simpa using hj
    rw [Int.zero_add]
    simp only [Ev_ok, Ev_exc, Os_some, Os_if, Ev_xC, Ev_xV, Ev_xN, Ev_xYes, Ev_x1, Ev_x1o, Ev_x2, Ev_x2o, Ev_xIxV, Ev_xIf, Ev_xAnd, Ev_xOr, Ev_xNot, Ev_xCs, Ev_xUn, Ev_xCh, Ev_xSl, Ev_xMeth, Ev_xCall, Ev_xMake, Ev_xComp, Po_nx, Po_yNil, Po_ySeq, Po_ySet, Po_yRet, Po_yRetC, Po_yExpr, Po_yIf, Po_yBreak, Po_yCont, Po_yRaise, Po_yFor, Po_ySetI, Po_yAugI, Po_yTry, gApp, gCat, gMul, gDiv, gMod, gPow, gRep, id, decide_eq_true_eq, Bool.not_eq_true', decide_eq_false_iff_not, Bool.false_eq_true, if_false, if_true, ite_true, ite_false]
    have hrow : (s.put_node (j : Int)).moves[j]? = some (g[j]) := by rw [show (s.put_node _).moves = g from hm]; exact List.getElem?_eq_getElem _
    refine Os_intro (gIx_nat hrow) ?_
    have hts : ∀ x, x ∈ g[j] ↔ Gr.Ed g j x := fun x => ed_row (List.getElem?_eq_getElem _)
    have hin : ∀ x ∈ g[j], 0 ≤ x ∧ x < g.length := fun x hx => hg _ (List.getElem_mem _) x hx
    have hlen : g[j].length ≤ 1000 := hd _ (List.getElem_mem _)
    generalize g[j] = ts at hts hin hlen
    refine po_forP (fun ys s => s.moves = g ∧ s.node = j ∧ s.back.length = g.length ∧ (∀ r ∈ s.back, r.length ≤ j * 1000 + ys.length) ∧ ∀ v u, Gr.Ed s.back v u ↔ (u < j ∧ Gr.Ed g u v) ∨ (u = j ∧ v ∈ ys)) ⟨hm, rfl, hl, fun r q => by have := hr r q; simp; omega, fun v u => by rw [show (s.put_node _).back = s.back from rfl, he]; simp⟩ ?_ ?_
    · rintro ys zs x s e1 ⟨hm, hn, hl, hr, he⟩
      obtain ⟨x0, x1⟩ := hin x (by rw [e1]; simp)
      have hys : ys.length < 1000 := by rw [e1] at hlen; simp at hlen; omega
      simp only [Ev_ok, Ev_exc, Os_some, Os_if, Ev_xC, Ev_xV, Ev_xN, Ev_xYes, Ev_x1, Ev_x1o, Ev_x2, Ev_x2o, Ev_xIxV, Ev_xIf, Ev_xAnd, Ev_xOr, Ev_xNot, Ev_xCs, Ev_xUn, Ev_xCh, Ev_xSl, Ev_xMeth, Ev_xCall, Ev_xMake, Ev_xComp, Po_nx, Po_yNil, Po_ySeq, Po_ySet, Po_yRet, Po_yRetC, Po_yExpr, Po_yIf, Po_yBreak, Po_yCont, Po_yRaise, Po_yFor, Po_ySetI, Po_yAugI, Po_yTry, gApp, gCat, gMul, gDiv, gMod, gPow, gRep, id, decide_eq_true_eq, Bool.not_eq_true', decide_eq_false_iff_not, Bool.false_eq_true, if_false, if_true, ite_true, ite_false]
      rw [Ev_xMeth2 (by intro s C xs s' h; simp [xCs, xV, xN, X.bind] at h)]
      simp only [Ev_ok, Ev_exc, Os_some, Os_if, Ev_xC, Ev_xV, Ev_xN, Ev_xYes, Ev_x1, Ev_x1o, Ev_x2, Ev_x2o, Ev_xIxV, Ev_xIf, Ev_xAnd, Ev_xOr, Ev_xNot, Ev_xCs, Ev_xUn, Ev_xCh, Ev_xSl, Ev_xMeth, Ev_xCall, Ev_xMake, Ev_xComp, Po_nx, Po_yNil, Po_ySeq, Po_ySet, Po_yRet, Po_yRetC, Po_yExpr, Po_yIf, Po_yBreak, Po_yCont, Po_yRaise, Po_yFor, Po_ySetI, Po_yAugI, Po_yTry, gApp, gCat, gMul, gDiv, gMod, gPow, gRep, id, decide_eq_true_eq, Bool.not_eq_true', decide_eq_false_iff_not, Bool.false_eq_true, if_false, if_true, ite_true, ite_false]
      have hrow : (s.put_target x).back[x.toNat]? = some (s.back[x.toNat]'(by omega)) := List.getElem?_eq_getElem _
      refine Os_intro (ixN_z x0 (by show x < (s.back.length : Int); omega)) (Os_intro hrow ?_)
      have hrl := hr _ (List.getElem_mem (l := s.back) (n := x.toNat) (by omega))
      have hrow' : s.back[x.toNat]? = some (s.back[x.toNat]'(by omega)) := List.getElem?_eq_getElem _
      generalize s.back[x.toNat]'(by omega) = row at *
      refine ⟨by rw [sizeLine_eq]; omega, hm, hn, ?_, ?_, fun v u => ?_⟩
      · show (s.back.set _ _).length = _
        rw [List.length_set]; exact hl
      · intro r q
        have q : r ∈ s.back.set x.toNat (row ++ [s.node]) := q
        rw [List.length_append]
        rcases List.mem_or_eq_of_mem_set q with q | q
        · have := hr r q; simp; omega
        · rw [q, List.length_append]; simp; omega
      · show Gr.Ed (s.back.set x.toNat (row ++ [s.node])) v u ↔ _
        rw [ed_push x0 hrow', he, hn]
        simp
        constructor
        · rintro ((q | q) | q)
          · exact .inl q
          · exact .inr ⟨q.1, .inl q.2⟩
          · exact .inr ⟨q.2, .inr q.1⟩
        · rintro (q | ⟨q1, q2 | q2⟩)
          · exact .inl (.inl q)
          · exact .inl (.inr ⟨q1, q2⟩)
          · exact .inr ⟨q2, q1⟩
    · rintro s ⟨hm, hn, hl, hr, he⟩
      refine ⟨hm, hl, fun r q => ?_, fun v u => ?_⟩
      · have := hr r q
        rw [Nat.add_mul]; omega
      · rw [he]
        constructor
        · rintro (⟨q1, q2⟩ | ⟨rfl, q2⟩)
          · exact ⟨by omega, q2⟩
          · exact ⟨by omega, (hts v).mp q2⟩
        · rintro ⟨q1, q2⟩
          by_cases h : u = j
          · subst h; exact .inr ⟨rfl, (hts v).mpr q2⟩
          · exact .inl ⟨by omega, q2⟩
  · rintro s ⟨hm, hl, hr, he⟩
    refine ⟨hl, fun v u => ?_⟩
    rw [he, rng_len]
    exact ⟨fun h => h.2, fun h => ⟨by have := h.l.2; simp; omega, h⟩⟩
end K35
/-! ## B35 -/
set_option Elab.async false
set_option linter.all false
set_option maxRecDepth 100000
set_option maxHeartbeats 4000000
namespace K35
open PySem PySem.Spec PyProof.Rows L2 Mn Ty
/-! ### the order of a search in depth -/
theorem finishing_ok {g : List (List Int)} (hg : Gr.Ok g) (hz : g.length ≤ 1000) (hd : ∀ r ∈ g, r.length ≤ 1000) : Ev (F_finishing_order () (g, ())) (fun F _ => Gr.Good g F ∧ F.Nodup ∧ ∀ v, v ∈ F ↔ Gr.Node g v) (fun _ _ => False) := by
  have hrow : ∀ v, Gr.Node g v → gIx g v = some (Gr.row g v) := fun v hv => gIx_z hv.1 (by
    have e := List.getElem?_eq_getElem (l := g) (i := v.toNat) (by have := hv.1; have := hv.2; omega)
    unfold Gr.row; rw [List.getD_eq_getElem?_getD, e]; rfl)
  have hdr : ∀ v, (Gr.row g v).length ≤ 1000 := fun v => by
    unfold Gr.row
    rw [List.getD_eq_getElem?_getD]
    cases e : g[v.toNat]? with
    | none => simp
    | some r => exact hd r (List.mem_of_getElem? e)
  unfold F_finishing_order
  apply Ev_yRun
  simp only [Ev_ok, Ev_exc, Os_some, Os_if, Ev_xC, Ev_xV, Ev_xN, Ev_xYes, Ev_x1, Ev_x1o, Ev_x2, Ev_x2o, Ev_xIxV, Ev_xIf, Ev_xAnd, Ev_xOr, Ev_xNot, Ev_xCs, Ev_xUn, Ev_xCh, Ev_xSl, Ev_xMeth, Ev_xCall, Ev_xMake, Ev_xComp, Po_nx, Po_yNil, Po_ySeq, Po_ySet, Po_yRet, Po_yRetC, Po_yExpr, Po_yIf, Po_yBreak, Po_yCont, Po_yRaise, Po_yFor, Po_ySetI, Po_yAugI, Po_yTry, gApp, gCat, gMul, gDiv, gMod, gPow, gRep, id, decide_eq_true_eq, Bool.not_eq_true', decide_eq_false_iff_not, Bool.false_eq_true, if_false, if_true, ite_true, ite_false]
  refine ⟨⟨by omega, by omega, by rw [sizeLine_eq]; simp; omega⟩, ?_⟩
  have e0 : (List.replicate ((g.length : Int)).toNat [false]).flatten = List.replicate g.length false := by simp
  rw [e0]
  refine Os_intro (rng1 (by omega) (by show (g.length : Int) < _; omega)) ?_
  refine po_forL (fun j s => s.moves = g ∧ Gr.Fin g s.seen s.order [] [] ∧ ∀ v : Int, 0 ≤ v → v < j → Gr.Tr s.seen v) ⟨rfl, ⟨Gr.Dfs.nil, by show (List.replicate _ _).length = _; simp, fun v => ⟨fun h => absurd h Gr.tr_rep, fun h => by rcases h with h | h <;> cases h⟩, rfl, fun i p k h => by simp at h, by show (List.replicate _ _).count _ + 0 + 0 = _; simp⟩, fun v h0 h => by omega⟩ ?_ ?_
  · rintro j x s hx ⟨hm, f, old⟩
    obtain ⟨rfl, hj⟩ := rng_get hx
    have hj : j < g.length := by
      have : (s.moves.length : Int).toNat = g.length := by rw [hm]; simp
      simpa using hj
    rw [Int.zero_add]
    have nj : Gr.Node g j := ⟨by omega, by omega⟩
    have hl : s.seen.length = g.length := f.len
    simp only [Ev_ok, Ev_exc, Os_some, Os_if, Ev_xC, Ev_xV, Ev_xN, Ev_xYes, Ev_x1, Ev_x1o, Ev_x2, Ev_x2o, Ev_xIxV, Ev_xIf, Ev_xAnd, Ev_xOr, Ev_xNot, Ev_xCs, Ev_xUn, Ev_xCh, Ev_xSl, Ev_xMeth, Ev_xCall, Ev_xMake, Ev_xComp, Po_nx, Po_yNil, Po_ySeq, Po_ySet, Po_yRet, Po_yRetC, Po_yExpr, Po_yIf, Po_yBreak, Po_yCont, Po_yRaise, Po_yFor, Po_ySetI, Po_yAugI, Po_yTry, gApp, gCat, gMul, gDiv, gMod, gPow, gRep, id, decide_eq_true_eq, Bool.not_eq_true', decide_eq_false_iff_not, Bool.false_eq_true, if_false, if_true, ite_true, ite_false]
    refine Os_intro (gIx_lt nj.1 (by show (j : Int) < (s.seen.length : Int); omega)) ?_
    by_cases ht : Gr.Tr s.seen j
    · rw [show (s.put_root j).seen[(j : Int).toNat]'_ = true from (Gr.tr_get (f := s.seen) nj.1 (by omega)).mpr ht]
      simp only [if_true]
      refine ⟨hm, f, fun v h0 h => ?_⟩
      by_cases hv : v = j
      · subst hv; exact ht
      · exact old v h0 (by omega)
    · rw [show (s.put_root j).seen[(j : Int).toNat]'_ = false by
        show s.seen[(j : Int).toNat]'(by omega) = false
        cases hb : s.seen[(j : Int).toNat]'(by omega) with
        | false => rfl
        | true => exact absurd ((Gr.tr_get nj.1 (by omega)).mp hb) ht]
      simp only [Bool.false_eq_true, if_false]
      refine Os_intro (gSetI_z nj.1 (by show (j : Int) < (s.seen.length : Int); omega)) ?_
      have f0 := f.start nj ht
      refine po_while (fun t => t.moves = g ∧ Gr.Fin g t.seen t.order t.path t.places ∧ ∀ v, Gr.Tr (s.seen.set (j : Int).toNat true) v → Gr.Tr t.seen v) (fun t => Gr.mu t.seen t.places) ⟨hm, f0, fun _ h => h⟩ ?_ ?_
      · show Gr.mu (s.seen.set _ true) [0] < 2 ^ 62
        unfold Gr.mu
        have := List.count_le_length (a := false) (l := s.seen.set (j : Int).toNat true)
        rw [List.length_set] at this
        have e : ([0].map fun k : Int => (1001 - k).toNat).sum = 1001 := by decide
        rw [e]; omega
      rintro t ⟨tm, ft, mono⟩
      simp only [Ev_ok, Ev_exc, Os_some, Os_if, Ev_xC, Ev_xV, Ev_xN, Ev_xYes, Ev_x1, Ev_x1o, Ev_x2, Ev_x2o, Ev_xIxV, Ev_xIf, Ev_xAnd, Ev_xOr, Ev_xNot, Ev_xCs, Ev_xUn, Ev_xCh, Ev_xSl, Ev_xMeth, Ev_xCall, Ev_xMake, Ev_xComp, Po_nx, Po_yNil, Po_ySeq, Po_ySet, Po_yRet, Po_yRetC, Po_yExpr, Po_yIf, Po_yBreak, Po_yCont, Po_yRaise, Po_yFor, Po_ySetI, Po_yAugI, Po_yTry, gApp, gCat, gMul, gDiv, gMod, gPow, gRep, id, decide_eq_true_eq, Bool.not_eq_true', decide_eq_false_iff_not, Bool.false_eq_true, if_false, if_true, ite_true, ite_false]
      rcases List.eq_nil_or_concat t.path with e | ⟨P, v, e⟩
      · simp [e]
        refine ⟨tm, ?_, fun v h0 h => ?_⟩
        · have : t.places = [] := by have := ft.pl; rw [e] at this; exact List.eq_nil_of_length_eq_zero this
          rw [e, this] at ft; exact ft
        · by_cases hv : v = j
          · subst hv; exact mono _ ((Gr.tr_set nj.1 (by omega)).mpr (.inl rfl))
          · exact mono v (Gr.tr_mono nj.1 (by omega) (old v h0 (by omega)))
      · have e : t.path = P ++ [v] := by simpa using e
        obtain ⟨K, k, e2⟩ : ∃ K k, t.places = K ++ [k] := by
          rcases List.eq_nil_or_concat t.places with e2 | ⟨K, k, e2⟩
          · have := ft.pl; rw [e, e2] at this; simp at this
          · exact ⟨K, k, by simpa using e2⟩
        rw [e, e2] at ft
        obtain ⟨nv, k0, k1⟩ := ft.at
        rw [if_pos (by rw [e]; simp <;> omega)]
        rw [e]
        refine Os_intro gIx_last ?_
        rw [show (t.put_node v).places = K ++ [k] from e2]
        refine Os_intro gIx_last ?_
        rw [show (t.put_node v).moves = g from tm]
        refine Os_intro (hrow v nv) ?_
        have hlen := hdr v
        have cnt := ft.cnt
        have pl := ft.pl
        have hl : t.seen.length = g.length := ft.len
        by_cases hk : k = (Gr.row g v).length
        · rw [if_pos hk]
          simp only [gPop, List.getLast?_concat, List.dropLast_concat, Os_some]
          exact ⟨by rw [sizeLine_eq]; omega, ⟨trivial, ft.leave hk, mono⟩, Gr.mu_leave (by omega)⟩
        · rw [if_neg hk]
          have hkt : (Gr.row g v)[k.toNat]? = some ((Gr.row g v)[k.toNat]'(by omega)) := List.getElem?_eq_getElem _
          refine Os_intro (hrow v nv) (Os_intro gIx_last (Os_intro (gIx_z k0 hkt) (Os_intro gIx_last ?_)))
          generalize (Gr.row g v)[k.toNat]'(by omega) = w at *
          have ew : Gr.Ed g v w := (Gr.ed_row_iff nv).mpr (List.mem_of_getElem? hkt)
          have nw := ew.r hg
          have hwl : w < (t.seen.length : Int) := by rw [hl]; exact nw.2
          have es : gSetI (K ++ [k]) (-1) (k + 1) = some (K ++ [k + 1]) := by
            unfold gSetI
            have : ixN (K ++ [k]).length (-1) = some K.length := by
              unfold ixN
              rw [if_neg (by decide), if_pos (by simp <;> omega)]
              simp
              omega
            rw [this]; simp
          refine Os_intro es (Os_intro (gIx_lt nw.1 hwl) ?_)
          by_cases hw : Gr.Tr t.seen w
          · rw [show t.seen[w.toNat]'_ = true from (Gr.tr_get nw.1 hwl).mpr hw]
            rw [if_neg (by decide)]
            exact ⟨⟨rfl, ft.look hkt hw, mono⟩, Gr.mu_look (by omega)⟩
          · rw [show t.seen[w.toNat]'_ = false by
              cases hb : t.seen[w.toNat]'(by have := nw.1; omega) with
              | false => rfl
              | true => exact absurd ((Gr.tr_get nw.1 hwl).mp hb) hw]
            rw [if_pos rfl]
            refine Os_intro (gSetI_z nw.1 hwl) ?_
            exact ⟨by rw [sizeLine_eq]; simp at *; omega, by rw [sizeLine_eq]; simp at *; omega, ⟨rfl, ft.push hg hkt hw, fun x hx => Gr.tr_mono nw.1 hwl (mono x hx)⟩, Gr.mu_push (by omega) nw.1 hwl hw⟩
  · rintro s ⟨hm, f, old⟩
    have nd := f.d.nd
    rw [List.append_nil] at nd
    refine ⟨f.d.good, nd, fun v => ⟨fun h => f.d.nodes v (by simp [h]), fun h => ?_⟩⟩
    have := (f.tr v).mp (old v h.1 (by rw [rng_len]; have := h.2; simp; omega))
    simpa using this
end K35
/-! ## C35 -/
set_option Elab.async false
set_option linter.all false
set_option maxRecDepth 100000
set_option maxHeartbeats 4000000
namespace K35
open PySem PySem.Spec PyProof.Rows L2 Mn Ty
/-! ### classes of nodes that reach each other -/
theorem components_ok {g : List (List Int)} (hg : Gr.Ok g) (hz : g.length ≤ 1000) (hd : ∀ r ∈ g, r.length ≤ 1000) : Ev (F_components () (g, ())) (fun ns _ => ns.length = g.length ∧ ∀ u v : Nat, u < g.length → v < g.length → (ns[u]? = ns[v]? ↔ Gr.Mut g u v)) (fun _ _ => False) := by
  unfold F_components
  apply Ev_yRun
  simp only [Ev_ok, Ev_exc, Os_some, Os_if, Ev_xC, Ev_xV, Ev_xN, Ev_xYes, Ev_x1, Ev_x1o, Ev_x2, Ev_x2o, Ev_xIxV, Ev_xIf, Ev_xAnd, Ev_xOr, Ev_xNot, Ev_xCs, Ev_xUn, Ev_xCh, Ev_xSl, Ev_xMeth, Ev_xCall, Ev_xMake, Ev_xComp, Po_nx, Po_yNil, Po_ySeq, Po_ySet, Po_yRet, Po_yRetC, Po_yExpr, Po_yIf, Po_yBreak, Po_yCont, Po_yRaise, Po_yFor, Po_ySetI, Po_yAugI, Po_yTry, gApp, gCat, gMul, gDiv, gMod, gPow, gRep, id, decide_eq_true_eq, Bool.not_eq_true', decide_eq_false_iff_not, Bool.false_eq_true, if_false, if_true, ite_true, ite_false]
  refine ⟨⟨by omega, by omega, by rw [sizeLine_eq]; simp; omega⟩, ?_⟩
  have e0 : (List.replicate ((g.length : Int)).toNat [(-1 : Int)]).flatten = List.replicate g.length (-1) := by simp
  rw [e0]
  refine (reversed2_ok hg hz hd).mono ?_
  rintro b _ ⟨hbl, hb⟩
  refine (finishing_ok hg hz hd).mono ?_
  rintro F _ ⟨good, nd, all⟩
  refine po_forP (fun ys s => s.back = b ∧ Gr.Cl g s.numbers s.count ∧ ∀ v ∈ ys, Gr.Tr (Gr.fl s.numbers) v) ⟨rfl, ⟨by show (List.replicate _ _).length = _; simp, Int.le_refl _, fun v x h => ?_, fun u v _ h => ?_, fun u v x y h1 h2 hx hy => ?_⟩, fun v h => nomatch h⟩ ?_ ?_
  · have h : (List.replicate g.length (-1 : Int))[v]? = some x := h
    rw [List.getElem?_replicate] at h
    split at h
    · cases h; show (-1 : Int) < 0; decide
    · cases h
  · exfalso
    obtain ⟨_, x, h, hx⟩ := Gr.tr_fl.mp h
    have h : (List.replicate g.length (-1 : Int))[v.toNat]? = some x := h
    rw [List.getElem?_replicate] at h
    split at h
    · cases h; omega
    · cases h
  · exfalso
    have h : (List.replicate g.length (-1 : Int))[u]? = some x := h1
    rw [List.getElem?_replicate] at h
    split at h
    · cases h; omega
    · cases h
  · rintro ys zs r s e1 ⟨hb', c, done⟩
    have e1' : F = zs.reverse ++ r :: ys.reverse := by
      have := congrArg List.reverse e1
      rw [List.reverse_reverse] at this
      rw [this]; simp
    have nr : Gr.Node g r := (all r).mp (by rw [e1']; simp)
    have hl : s.numbers.length = g.length := c.len
    simp only [Ev_ok, Ev_exc, Os_some, Os_if, Ev_xC, Ev_xV, Ev_xN, Ev_xYes, Ev_x1, Ev_x1o, Ev_x2, Ev_x2o, Ev_xIxV, Ev_xIf, Ev_xAnd, Ev_xOr, Ev_xNot, Ev_xCs, Ev_xUn, Ev_xCh, Ev_xSl, Ev_xMeth, Ev_xCall, Ev_xMake, Ev_xComp, Po_nx, Po_yNil, Po_ySeq, Po_ySet, Po_yRet, Po_yRetC, Po_yExpr, Po_yIf, Po_yBreak, Po_yCont, Po_yRaise, Po_yFor, Po_ySetI, Po_yAugI, Po_yTry, gApp, gCat, gMul, gDiv, gMod, gPow, gRep, id, decide_eq_true_eq, Bool.not_eq_true', decide_eq_false_iff_not, Bool.false_eq_true, if_false, if_true, ite_true, ite_false]
    refine Os_intro (gIx_lt nr.1 (by show r < (s.numbers.length : Int); rw [hl]; exact nr.2)) ?_
    have hget : s.numbers[r.toNat]? = some (s.numbers[r.toNat]'(by have := nr.1; have := nr.2; omega)) := List.getElem?_eq_getElem _
    by_cases ht : Gr.Tr (Gr.fl s.numbers) r
    · obtain ⟨_, x, e, hx⟩ := Gr.tr_fl.mp ht
      rw [hget] at e
      have e := Option.some.inj e
      rw [if_pos (by show 0 ≤ s.numbers[r.toNat]'_; rw [e]; exact hx)]
      refine ⟨hb', c, fun v hv => ?_⟩
      rcases List.mem_append.mp hv with hv | hv
      · exact done v hv
      · rw [List.mem_singleton.mp hv]; exact ht
    · rw [if_neg (fun h => ht (Gr.tr_fl.mpr ⟨nr.1, _, hget, h⟩))]
      refine Os_intro (gSetI_z nr.1 (by show r < (s.numbers.length : Int); rw [hl]; exact nr.2)) ?_
      have o0 := Gr.Co.start c nr ht
      refine po_while (fun t => t.back = b ∧ t.count = s.count ∧ Gr.Co g s.numbers s.count r t.numbers t.stack) (fun t => 2 * (Gr.fl t.numbers).count false + t.stack.length) ⟨hb', rfl, o0⟩ ?_ ?_
      · have := o0.w.cnt
        show _ < 2 ^ 62
        show 2 * (Gr.fl (s.numbers.set r.toNat s.count)).count false + [r].length < _
        omega
      rintro t ⟨tb, tc, o⟩
      simp only [Ev_ok, Ev_exc, Os_some, Os_if, Ev_xC, Ev_xV, Ev_xN, Ev_xYes, Ev_x1, Ev_x1o, Ev_x2, Ev_x2o, Ev_xIxV, Ev_xIf, Ev_xAnd, Ev_xOr, Ev_xNot, Ev_xCs, Ev_xUn, Ev_xCh, Ev_xSl, Ev_xMeth, Ev_xCall, Ev_xMake, Ev_xComp, Po_nx, Po_yNil, Po_ySeq, Po_ySet, Po_yRet, Po_yRetC, Po_yExpr, Po_yIf, Po_yBreak, Po_yCont, Po_yRaise, Po_yFor, Po_ySetI, Po_yAugI, Po_yTry, gApp, gCat, gMul, gDiv, gMod, gPow, gRep, id, decide_eq_true_eq, Bool.not_eq_true', decide_eq_false_iff_not, Bool.false_eq_true, if_false, if_true, ite_true, ite_false]
      rcases List.eq_nil_or_concat t.stack with e | ⟨st, u, e⟩
      · simp [e]
        rw [e] at o
        obtain ⟨q1, q2, q3⟩ := o.fin hg good e1' (fun v hv => (all v).mpr hv) (fun v hv => done v (by simpa using hv)) c nr ht
        rw [tc]
        refine ⟨tb, q1, fun v hv => ?_⟩
        rcases hv with hv | rfl
        · exact q2 v (done v hv)
        · exact q3
      · have e : t.stack = st ++ [u] := by simpa using e
        rw [if_pos (by rw [e]; simp <;> omega)]
        rw [e] at o
        have w := o.w
        have hu := w.stk u (by simp)
        have tl : t.numbers.length = g.length := by have := w.len; rwa [Gr.fl_len] at this
        have nu : Gr.Node g u := ⟨hu.1, by have := hu.lt; rw [Gr.fl_len, tl] at this; exact this⟩
        rw [e]
        simp only [gPop, List.getLast?_concat, List.dropLast_concat, Os_some]
        have ub : u.toNat < b.length := by rw [hbl]; have := nu.1; have := nu.2; omega
        have hrow : b[u.toNat]? = some (b[u.toNat]) := List.getElem?_eq_getElem _
        rw [tb]
        refine Os_intro (gIx_z nu.1 hrow) ?_
        have hts : ∀ x, x ∈ b[u.toNat] ↔ Gr.Ed g x u := fun x => by
          rw [← hb u x]
          exact ⟨fun h => ⟨nu.1, _, hrow, h⟩, fun ⟨_, r, e1, e2⟩ => by rw [hrow] at e1; cases e1; exact e2⟩
        generalize b[u.toNat] = ts at hts
        refine po_forP (fun ys s' => s'.back = b ∧ s'.count = s.count ∧ Gr.Mk (Gr.fl t.numbers) st ys (Gr.fl s'.numbers) s'.stack ∧ (∀ (v : Nat) x, s.numbers[v]? = some x → 0 ≤ x → s'.numbers[v]? = some x) ∧ (∀ (v : Nat) x y, s.numbers[v]? = some x → x < 0 → s'.numbers[v]? = some y → y < 0 ∨ y = s.count)) ⟨tb, tc, Gr.Mk.zero, o.old, o.new⟩ ?_ ?_
        · rintro ys' zs' x s' e2 ⟨hm, hc, m, old, new⟩
          have nx : Gr.Node g x := ((hts x).mp (by rw [e2]; simp)).l
          have hl' : s'.numbers.length = g.length := by have := m.len; rw [Gr.fl_len, Gr.fl_len, tl] at this; exact this
          have hxl : x < (s'.numbers.length : Int) := by rw [hl']; exact nx.2
          simp only [Ev_ok, Ev_exc, Os_some, Os_if, Ev_xC, Ev_xV, Ev_xN, Ev_xYes, Ev_x1, Ev_x1o, Ev_x2, Ev_x2o, Ev_xIxV, Ev_xIf, Ev_xAnd, Ev_xOr, Ev_xNot, Ev_xCs, Ev_xUn, Ev_xCh, Ev_xSl, Ev_xMeth, Ev_xCall, Ev_xMake, Ev_xComp, Po_nx, Po_yNil, Po_ySeq, Po_ySet, Po_yRet, Po_yRetC, Po_yExpr, Po_yIf, Po_yBreak, Po_yCont, Po_yRaise, Po_yFor, Po_ySetI, Po_yAugI, Po_yTry, gApp, gCat, gMul, gDiv, gMod, gPow, gRep, id, decide_eq_true_eq, Bool.not_eq_true', decide_eq_false_iff_not, Bool.false_eq_true, if_false, if_true, ite_true, ite_false]
          refine Os_intro (gIx_lt nx.1 hxl) ?_
          have hget : s'.numbers[x.toNat]? = some (s'.numbers[x.toNat]'(by have := nx.1; omega)) := List.getElem?_eq_getElem _
          obtain ⟨q1, q2⟩ := m.step (t := x) nx.1 (by rw [Gr.fl_len]; exact hxl)
          by_cases ht : Gr.Tr (Gr.fl s'.numbers) x
          · obtain ⟨_, y, e, hy⟩ := Gr.tr_fl.mp ht
            rw [hget] at e
            have e := Option.some.inj e
            rw [if_neg (by show ¬ s'.numbers[x.toNat]'_ < 0; rw [e]; omega)]
            exact ⟨hm, hc, q1 ht, old, new⟩
          · rw [if_pos (by
              show s'.numbers[x.toNat]'_ < 0
              exact Int.lt_of_not_ge fun h => ht (Gr.tr_fl.mpr ⟨nx.1, _, hget, h⟩))]
            refine Os_intro (gSetI_z nx.1 hxl) ?_
            have k := Gr.Co.keep c nx.1 ht hxl old new
            have := m.cnt
            have := w.cnt
            rw [List.length_append] at this
            refine ⟨by show s'.stack.length < _; rw [sizeLine_eq]; simp at *; omega, hm, hc, ?_, ?_⟩
            · show Gr.Mk _ _ _ (Gr.fl (s'.numbers.set x.toNat s'.count)) _
              rw [hc, Gr.fl_set c.pos]
              exact q2 ht
            · show (∀ (v : Nat) y, _ → _ → (s'.numbers.set x.toNat s'.count)[v]? = some y) ∧ (∀ (v : Nat) y z, _ → _ → (s'.numbers.set x.toNat s'.count)[v]? = some z → _)
              rw [hc]
              exact k
        · rintro s' ⟨hm, hc, m, old, new⟩
          refine ⟨⟨hm, hc, ⟨w.pop m hts (fun a v h p => Gr.P_step hg c a v h p), old, new, (m.tr r).mpr (.inl o.rt)⟩⟩, ?_⟩
          have := m.cnt
          have := Gr.count_le m
          rw [List.length_append]
          simp
          omega
  · rintro s ⟨_, c, done⟩
    refine ⟨c.len, fun u v hu hv => ?_⟩
    have nu : Gr.Tr (Gr.fl s.numbers) u := done u (by simp; exact (all u).mpr ⟨by omega, by omega⟩)
    have nv : Gr.Tr (Gr.fl s.numbers) v := done v (by simp; exact (all v).mpr ⟨by omega, by omega⟩)
    obtain ⟨_, x, ex, hx⟩ := Gr.tr_fl.mp nu
    obtain ⟨_, y, ey, hy⟩ := Gr.tr_fl.mp nv
    simp at ex ey
    rw [ex, ey]
    have := c.cls u v x y ex ey hx hy
    simp
    exact this
end K35
/-! ## D35 -/
set_option Elab.async false
set_option linter.all false
set_option maxRecDepth 100000
set_option maxHeartbeats 4000000
namespace K35
open PySem PySem.Spec PyProof.Rows L2 Mn Ty
/-! ### the graph cut to low priorities -/
def pr (ps : List Int) (v : Int) : Int := ps.getD v.toNat 0
def low (ps : List Int) (g : List (List Int)) (L : Int) : List (List Int) := (List.range g.length).map fun i => if ps.getD i 0 ≤ L then (g.getD i []).filter (fun k => decide (pr ps k ≤ L)) else []
theorem low_len {ps : List Int} {g : List (List Int)} {L : Int} : (low ps g L).length = g.length := by unfold low; simp
theorem low_row {ps : List Int} {g : List (List Int)} {L : Int} {i : Nat} (h : i < g.length) : (low ps g L)[i]? = some (if ps.getD i 0 ≤ L then (g.getD i []).filter (fun k => decide (pr ps k ≤ L)) else []) := by
  unfold low
  rw [List.getElem?_map, List.getElem?_range h]; rfl
theorem getD_row {α : Type} {g : List α} {i : Nat} {r d : α} (e : g[i]? = some r) : g.getD i d = r := by rw [List.getD_eq_getElem?_getD, e]; rfl
theorem low_ed {ps : List Int} {g : List (List Int)} {L u v : Int} : Gr.Ed (low ps g L) u v ↔ Gr.Ed g u v ∧ pr ps u ≤ L ∧ pr ps v ≤ L := by
  constructor
  · rintro ⟨h0, r, e, hv⟩
    have hl : u.toNat < g.length := by have := (List.getElem?_eq_some_iff.mp e).1; rw [low_len] at this; exact this
    rw [low_row hl] at e
    cases e
    split at hv
    · have hv := List.mem_filter.mp hv
      rw [getD_row (List.getElem?_eq_getElem hl)] at hv
      exact ⟨⟨h0, _, List.getElem?_eq_getElem hl, hv.1⟩, by assumption, by simpa using hv.2⟩
    · cases hv
  · rintro ⟨⟨h0, r, e, hv⟩, h1, h2⟩
    have hl := (List.getElem?_eq_some_iff.mp e).1
    refine ⟨h0, _, low_row hl, ?_⟩
    rw [if_pos (show ps.getD u.toNat 0 ≤ L from h1), getD_row e]
    exact List.mem_filter.mpr ⟨hv, by simpa using h2⟩
theorem low_mem {ps : List Int} {g : List (List Int)} {L : Int} {r : List Int} (h : r ∈ low ps g L) : ∃ r0 ∈ g, (∀ t ∈ r, t ∈ r0) ∧ r.length ≤ r0.length := by
  obtain ⟨i, hi, rfl⟩ := List.mem_map.mp h
  rw [List.mem_range] at hi
  refine ⟨g[i], List.getElem_mem hi, ?_⟩
  show (∀ t ∈ (if ps.getD i 0 ≤ L then _ else _), _) ∧ (if ps.getD i 0 ≤ L then _ else _ : List Int).length ≤ _
  rw [getD_row (List.getElem?_eq_getElem hi)]
  by_cases c : ps.getD i 0 ≤ L
  · rw [if_pos c]; exact ⟨fun t ht => (List.mem_filter.mp ht).1, List.length_filter_le _ _⟩
  · rw [if_neg c]; exact ⟨fun t ht => (nomatch ht), Nat.zero_le _⟩
theorem low_good {ps : List Int} {g : List (List Int)} {L : Int} (hg : Gr.Ok g) : Gr.Ok (low ps g L) := fun r hr t ht => by
  obtain ⟨r0, h1, h2, _⟩ := low_mem hr
  rw [low_len]
  exact hg r0 h1 t (h2 t ht)
theorem pr_get {ps : List Int} {v : Int} (h0 : 0 ≤ v) (h1 : v < ps.length) : ps[v.toNat]? = some (pr ps v) := by
  unfold pr
  rw [List.getD_eq_getElem?_getD, List.getElem?_eq_getElem (by omega)]; rfl
theorem pr_nat {ps : List Int} {j : Nat} (h1 : j < ps.length) : ps[j]? = some (pr ps j) := by
  have := pr_get (ps := ps) (v := (j : Int)) (by omega) (by omega)
  rwa [Int.toNat_natCast] at this
theorem pr_mem {ps : List Int} {v : Int} (h0 : 0 ≤ v) (h1 : v < ps.length) : pr ps v ∈ ps := List.mem_of_getElem? (pr_get h0 h1)
/-- some circle whose greatest priority is good for the other player -/
def BadC (ps : List Int) (g : List (List Int)) (p : Int) : Prop := ∃ v, pr ps v % 2 ≠ p ∧ Gr.Cyc (low ps g (pr ps v)) v
theorem has_bad_ok {ps : List Int} {g : List (List Int)} {p : Int} (hg : Gr.Ok g) (hl : ps.length = g.length) (hz : g.length < 64) (hd : ∀ r ∈ g, r.length ≤ 1000) : Ev (F_has_bad_cycle () (ps, g, p, ())) (fun r _ => r = true ↔ BadC ps g p) (fun _ _ => False) := by
  unfold F_has_bad_cycle
  apply Ev_yRun
  simp only [Ev_ok, Ev_exc, Os_some, Os_if, Ev_xC, Ev_xV, Ev_xN, Ev_xYes, Ev_x1, Ev_x1o, Ev_x2, Ev_x2o, Ev_xIxV, Ev_xIf, Ev_xAnd, Ev_xOr, Ev_xNot, Ev_xCs, Ev_xUn, Ev_xCh, Ev_xSl, Ev_xMeth, Ev_xCall, Ev_xMake, Ev_xComp, Po_nx, Po_yNil, Po_ySeq, Po_ySet, Po_yRet, Po_yRetC, Po_yExpr, Po_yIf, Po_yBreak, Po_yCont, Po_yRaise, Po_yFor, Po_ySetI, Po_yAugI, Po_yTry, gApp, gCat, gMul, gDiv, gMod, gPow, gRep, id, decide_eq_true_eq, Bool.not_eq_true', decide_eq_false_iff_not, Bool.false_eq_true, if_false, if_true, ite_true, ite_false]
  refine Os_intro (gSrt_ok (by omega)) ?_
  refine po_forP (fun ys s => s.priorities = ps ∧ s.moves = g ∧ s.player = p ∧ ∀ v, pr ps v ∈ ys → pr ps v % 2 ≠ p → ¬ Gr.Cyc (low ps g (pr ps v)) v) ⟨rfl, rfl, rfl, fun v h => nomatch h⟩ ?_ ?_
  · rintro ys zs L s e1 ⟨h1, h2, h3, h4⟩
    simp only [Ev_ok, Ev_exc, Os_some, Os_if, Ev_xC, Ev_xV, Ev_xN, Ev_xYes, Ev_x1, Ev_x1o, Ev_x2, Ev_x2o, Ev_xIxV, Ev_xIf, Ev_xAnd, Ev_xOr, Ev_xNot, Ev_xCs, Ev_xUn, Ev_xCh, Ev_xSl, Ev_xMeth, Ev_xCall, Ev_xMake, Ev_xComp, Po_nx, Po_yNil, Po_ySeq, Po_ySet, Po_yRet, Po_yRetC, Po_yExpr, Po_yIf, Po_yBreak, Po_yCont, Po_yRaise, Po_yFor, Po_ySetI, Po_yAugI, Po_yTry, gApp, gCat, gMul, gDiv, gMod, gPow, gRep, id, decide_eq_true_eq, Bool.not_eq_true', decide_eq_false_iff_not, Bool.false_eq_true, if_false, if_true, ite_true, ite_false]
    refine ⟨by omega, ?_⟩
    have skip : (L % 2 ≠ p → ∀ v, pr ps v = L → ¬ Gr.Cyc (low ps g L) v) → ∀ v, pr ps v ∈ ys ++ [L] → pr ps v % 2 ≠ p → ¬ Gr.Cyc (low ps g (pr ps v)) v := fun k v hv hb => by
      rcases List.mem_append.mp hv with hv | hv
      · exact h4 v hv hb
      · have e := List.mem_singleton.mp hv
        rw [e]
        rw [e] at hb
        exact k hb v e
    by_cases hp : L % 2 = p
    · rw [if_pos (by rw [h3]; exact hp)]
      exact ⟨h1, h2, h3, skip fun h => absurd hp h⟩
    · rw [if_neg (by rw [h3]; exact hp)]
      have hlen : s.moves.length = g.length := by rw [h2]
      refine Os_intro (rng1 (by omega) (by omega)) ?_
      refine po_forB (fun j s => s.priorities = ps ∧ s.moves = g ∧ s.player = p ∧ s.level = L ∧ s.low = (low ps g L).take j) (fun s => s.priorities = ps ∧ s.moves = g ∧ s.player = p ∧ s.level = L ∧ s.low = low ps g L) ⟨h1, h2, h3, rfl, rfl⟩ ?_ ?_ ?_
      · rintro j x s hx ⟨h1, h2, h3, h5, h6⟩
        obtain ⟨rfl, hj⟩ := rng_get hx
        have hj : j < g.length := by rw [hlen] at hj; simpa using hj
        rw [Int.zero_add]
        simp only [Ev_ok, Ev_exc, Os_some, Os_if, Ev_xC, Ev_xV, Ev_xN, Ev_xYes, Ev_x1, Ev_x1o, Ev_x2, Ev_x2o, Ev_xIxV, Ev_xIf, Ev_xAnd, Ev_xOr, Ev_xNot, Ev_xCs, Ev_xUn, Ev_xCh, Ev_xSl, Ev_xMeth, Ev_xCall, Ev_xMake, Ev_xComp, Po_nx, Po_yNil, Po_ySeq, Po_ySet, Po_yRet, Po_yRetC, Po_yExpr, Po_yIf, Po_yBreak, Po_yCont, Po_yRaise, Po_yFor, Po_ySetI, Po_yAugI, Po_yTry, gApp, gCat, gMul, gDiv, gMod, gPow, gRep, id, decide_eq_true_eq, Bool.not_eq_true', decide_eq_false_iff_not, Bool.false_eq_true, if_false, if_true, ite_true, ite_false]
        rw [show (s.put_position (j : Int)).priorities = ps from h1]
        refine Os_intro (gIx_nat (pr_nat (by omega))) ?_
        rw [show (s.put_position (j : Int)).level = L from h5]
        have row := low_row (ps := ps) (L := L) hj
        have hlj : s.low.length ≤ g.length := by rw [h6]; have := low_len (ps := ps) (g := g) (L := L); rw [List.length_take]; omega
        by_cases hc : pr ps j ≤ L
        · rw [if_pos hc]
          rw [if_pos (show ps.getD j 0 ≤ L by have := hc; unfold pr at this; rwa [Int.toNat_natCast] at this), getD_row (List.getElem?_eq_getElem hj)] at row
          rw [show (s.put_position (j : Int)).moves = g from h2]
          refine Os_intro (gIx_nat (List.getElem?_eq_getElem hj)) ?_
          refine comp_pure (fun s => s.priorities = ps ∧ s.moves = g ∧ s.player = p ∧ s.level = L ∧ s.low = (low ps g L).take j) (fun k => decide (pr ps k ≤ L)) (fun k => k) ⟨h1, h2, h3, h5, h6⟩ (by have := hd _ (List.getElem_mem hj); omega) ?_ ?_
          · rintro k hk s ⟨h1, h2, h3, h5, h6⟩
            obtain ⟨k0, k1⟩ := hg _ (List.getElem_mem hj) k hk
            simp only [Ev_ok, Ev_exc, Os_some, Os_if, Ev_xC, Ev_xV, Ev_xN, Ev_xYes, Ev_x1, Ev_x1o, Ev_x2, Ev_x2o, Ev_xIxV, Ev_xIf, Ev_xAnd, Ev_xOr, Ev_xNot, Ev_xCs, Ev_xUn, Ev_xCh, Ev_xSl, Ev_xMeth, Ev_xCall, Ev_xMake, Ev_xComp, Po_nx, Po_yNil, Po_ySeq, Po_ySet, Po_yRet, Po_yRetC, Po_yExpr, Po_yIf, Po_yBreak, Po_yCont, Po_yRaise, Po_yFor, Po_ySetI, Po_yAugI, Po_yTry, gApp, gCat, gMul, gDiv, gMod, gPow, gRep, id, decide_eq_true_eq, Bool.not_eq_true', decide_eq_false_iff_not, Bool.false_eq_true, if_false, if_true, ite_true, ite_false]
            rw [show (s.put_k_c0 k).priorities = ps from h1]
            refine Os_intro (gIx_z k0 (pr_get k0 (by omega))) ?_
            rw [show (s.put_k_c0 k).level = L from h5]
            refine ⟨rfl, ?_⟩
            split
            · exact ⟨by (first | assumption | rfl | trivial), by (first | assumption | rfl | trivial), by (first | assumption | rfl | trivial), by (first | assumption | rfl | trivial), by (first | assumption | rfl | trivial), by (first | assumption | rfl | trivial)⟩
            · exact ⟨by (first | assumption | rfl | trivial), by (first | assumption | rfl | trivial), by (first | assumption | rfl | trivial), by (first | assumption | rfl | trivial), by (first | assumption | rfl | trivial)⟩
          · rintro s ⟨h1, h2, h3, h5, h6⟩
            have hlj : s.low.length ≤ g.length := by rw [h6]; have := low_len (ps := ps) (g := g) (L := L); rw [List.length_take]; omega
            refine ⟨by show s.low.length < _; rw [sizeLine_eq]; omega, h1, h2, h3, h5, ?_⟩
            show s.low ++ [_] = _
            rw [List.take_add_one, row, h6, List.map_id']
            rfl
        · rw [if_neg hc]
          rw [if_neg (show ¬ ps.getD j 0 ≤ L by have := hc; unfold pr at this; rwa [Int.toNat_natCast] at this)] at row
          refine ⟨by show s.low.length < _; rw [sizeLine_eq]; omega, by (first | assumption | rfl | trivial), by (first | assumption | rfl | trivial), by (first | assumption | rfl | trivial), by (first | assumption | rfl | trivial), ?_⟩
          show s.low ++ [_] = _
          rw [List.take_add_one, row, h6]
          rfl
      · rintro s ⟨h1, h2, h3, h5, h6⟩
        rw [rng_len, hlen] at h6
        refine ⟨h1, h2, h3, h5, ?_⟩
        rw [h6, List.take_of_length_le (by rw [low_len]; omega)]
      rintro s ⟨h1, h2, h3, h5, h6⟩
      rw [h6]
      refine (components_ok (low_good hg) (by rw [low_len]; omega) (fun r hr => by obtain ⟨r0, a, _, b⟩ := low_mem hr; have := hd r0 a; omega)).mono ?_
      rintro ns _ ⟨nl, cls⟩
      rw [low_len] at nl cls
      rw [low_len]
      refine Os_intro (rng1 (by omega) (by omega)) ?_
      refine po_forL (fun j s => s.priorities = ps ∧ s.moves = g ∧ s.player = p ∧ s.level = L ∧ s.low = low ps g L ∧ s.numbers = ns ∧ ∀ v : Int, v < j → pr ps v = L → ¬ Gr.Cyc (low ps g L) v) ⟨h1, h2, h3, h5, h6, rfl, fun v hv _ ⟨w, e, _⟩ => by have := e.1; omega⟩ ?_ ?_
      · rintro j x s hx ⟨h1, h2, h3, h5, h6, h7, h8⟩
        obtain ⟨rfl, hj⟩ := rng_get hx
        have hj : j < g.length := by simpa using hj
        rw [Int.zero_add]
        simp only [Ev_ok, Ev_exc, Os_some, Os_if, Ev_xC, Ev_xV, Ev_xN, Ev_xYes, Ev_x1, Ev_x1o, Ev_x2, Ev_x2o, Ev_xIxV, Ev_xIf, Ev_xAnd, Ev_xOr, Ev_xNot, Ev_xCs, Ev_xUn, Ev_xCh, Ev_xSl, Ev_xMeth, Ev_xCall, Ev_xMake, Ev_xComp, Po_nx, Po_yNil, Po_ySeq, Po_ySet, Po_yRet, Po_yRetC, Po_yExpr, Po_yIf, Po_yBreak, Po_yCont, Po_yRaise, Po_yFor, Po_ySetI, Po_yAugI, Po_yTry, gApp, gCat, gMul, gDiv, gMod, gPow, gRep, id, decide_eq_true_eq, Bool.not_eq_true', decide_eq_false_iff_not, Bool.false_eq_true, if_false, if_true, ite_true, ite_false]
        rw [show (s.put_position (j : Int)).priorities = ps from h1]
        refine Os_intro (gIx_nat (pr_nat (by omega))) ?_
        rw [show (s.put_position (j : Int)).level = L from h5]
        by_cases hc : pr ps j = L
        · rw [if_pos hc]
          have row := low_row (ps := ps) (L := L) hj
          generalize (if ps.getD j 0 ≤ L then (g.getD j []).filter (fun k => decide (pr ps k ≤ L)) else []) = ts at row
          rw [show (s.put_position (j : Int)).low = low ps g L from h6]
          refine Os_intro (gIx_nat row) ?_
          have hts : ∀ x, x ∈ ts ↔ Gr.Ed (low ps g L) j x := fun x => ed_row row
          refine po_forP (fun ys s => s.priorities = ps ∧ s.moves = g ∧ s.player = p ∧ s.level = L ∧ s.low = low ps g L ∧ s.numbers = ns ∧ s.position = j ∧ ∀ t ∈ ys, ¬ Gr.Mut (low ps g L) t j) ⟨h1, h2, h3, h5, h6, h7, rfl, fun t h => nomatch h⟩ ?_ ?_
          · rintro ys zs x s e1 ⟨h1, h2, h3, h5, h6, h7, h9, h10⟩
            have ex : Gr.Ed (low ps g L) j x := (hts x).mp (by rw [e1]; simp)
            obtain ⟨x0, x1⟩ := ex.r (low_good hg)
            rw [low_len] at x1
            simp only [Ev_ok, Ev_exc, Os_some, Os_if, Ev_xC, Ev_xV, Ev_xN, Ev_xYes, Ev_x1, Ev_x1o, Ev_x2, Ev_x2o, Ev_xIxV, Ev_xIf, Ev_xAnd, Ev_xOr, Ev_xNot, Ev_xCs, Ev_xUn, Ev_xCh, Ev_xSl, Ev_xMeth, Ev_xCall, Ev_xMake, Ev_xComp, Po_nx, Po_yNil, Po_ySeq, Po_ySet, Po_yRet, Po_yRetC, Po_yExpr, Po_yIf, Po_yBreak, Po_yCont, Po_yRaise, Po_yFor, Po_ySetI, Po_yAugI, Po_yTry, gApp, gCat, gMul, gDiv, gMod, gPow, gRep, id, decide_eq_true_eq, Bool.not_eq_true', decide_eq_false_iff_not, Bool.false_eq_true, if_false, if_true, ite_true, ite_false]
            rw [show (s.put_target x).numbers = ns from h7]
            have e2 : ns[x.toNat]? = some (ns[x.toNat]'(by omega)) := List.getElem?_eq_getElem _
            have e3 : ns[j]? = some (ns[j]'(by omega)) := List.getElem?_eq_getElem _
            refine Os_intro (gIx_z x0 e2) ?_
            rw [show (s.put_target x).position = j from h9]
            refine Os_intro (gIx_nat e3) ?_
            have key := cls x.toNat j (by omega) hj
            rw [e2, e3, Int.toNat_of_nonneg x0] at key
            by_cases h : ns[x.toNat]'(by omega) = ns[j]'(by omega)
            · rw [if_pos h]
              have mt := key.mp (by rw [h])
              exact ⟨fun _ => ⟨j, by rw [hc]; exact hp, by rw [hc]; exact ⟨x, ex, mt.1⟩⟩, fun _ => by (first | assumption | rfl | trivial)⟩
            · rw [if_neg h]
              refine ⟨by (first | assumption | rfl | trivial), by (first | assumption | rfl | trivial), by (first | assumption | rfl | trivial), by (first | assumption | rfl | trivial), by (first | assumption | rfl | trivial), by (first | assumption | rfl | trivial), by (first | assumption | rfl | trivial), fun t ht => ?_⟩
              rcases List.mem_append.mp ht with ht | ht
              · exact h10 t ht
              · rw [List.mem_singleton.mp ht]
                exact fun m => h (Option.some.inj (key.mpr m))
          · rintro s ⟨h1, h2, h3, h5, h6, h7, h9, h10⟩
            refine ⟨h1, h2, h3, h5, h6, h7, fun v hv hb hcy => ?_⟩
            by_cases q : v = j
            · subst q
              obtain ⟨w, ew, st⟩ := hcy
              exact h10 w ((hts w).mpr ew) ⟨st, .one ew⟩
            · exact h8 v (by omega) hb hcy
        · rw [if_neg hc]
          refine ⟨by (first | assumption | rfl | trivial), by (first | assumption | rfl | trivial), by (first | assumption | rfl | trivial), by (first | assumption | rfl | trivial), by (first | assumption | rfl | trivial), by (first | assumption | rfl | trivial), fun v hv hb hcy => ?_⟩
          by_cases q : v = j
          · subst q; exact hc hb
          · exact h8 v (by omega) hb hcy
      · rintro s ⟨h1, h2, h3, h5, h6, h7, h8⟩
        refine ⟨h1, h2, h3, skip fun _ v hb hcy => ?_⟩
        have ⟨w, ew, _⟩ := hcy
        have := ew.l.2
        rw [low_len] at this
        rw [rng_len] at h8
        exact h8 v (by omega) hb hcy
  · rintro s ⟨h1, h2, h3, h4⟩
    refine ⟨False.elim, fun ⟨v, hv, hc⟩ => ?_⟩
    have ⟨w, ew, _⟩ := hc
    have n := (low_ed.mp ew).1.l
    exact h4 v (mem_srtSet.mpr (pr_mem n.1 (by have := n.2; omega))) hv hc
end K35
/-! ## E35 -/
set_option Elab.async false
set_option linter.all false
set_option maxRecDepth 100000
set_option maxHeartbeats 4000000
namespace K35
open PySem PySem.Spec PyProof.Rows L2 Mn Ty
/-! ### the law's own search -/
theorem star_with {α : Type} {R : α → α → Prop} {P : α → Prop} (k : ∀ a b, R a b → P a → P b) {a b : α} (h : Gr.Star R a b) : P a → Gr.Star (fun x y => R x y ∧ P x) a b := by
  induction h with
  | refl a => exact fun _ => .refl a
  | step r _ ih => exact fun p => .step ⟨r, p⟩ (ih (k _ _ r p))
structure Bq (g : List (List Int)) (al : List Bool) (P : Int → Prop) (n : Nat) (sn : List Bool) (q : List Int) : Prop where
  len : sn.length = g.length
  tr : ∀ v, Gr.Tr sn v ↔ v ∈ q
  cnt : q.length = sn.count true
  p : ∀ v ∈ q, P v
  ex : ∀ i, i < n → ∀ u, q[i]? = some u → ∀ y, Gr.Ed g u y → Gr.Tr al y → y ∈ q
theorem Bq.push {g : List (List Int)} {al sn : List Bool} {P : Int → Prop} {n : Nat} {q : List Int} (b : Bq g al P n sn q) (hn : n ≤ q.length) {x : Int} (h0 : 0 ≤ x) (h1 : x < g.length) (h : ¬ Gr.Tr sn x) (hp : P x) : Bq g al P n (sn.set x.toNat true) (q ++ [x]) where
  len := by rw [List.length_set]; exact b.len
  tr v := by
    rw [Gr.tr_set h0 (by rw [b.len]; exact h1), b.tr]
    simp
    exact Or.comm
  cnt := by
    have := b.len
    rw [List.length_append, Gr.count_set_true, b.cnt]
    · rfl
    · cases e : sn[x.toNat]? with
      | none => have := List.getElem?_eq_none_iff.mp e; omega
      | some v => cases v with
        | false => rfl
        | true => exact absurd ⟨h0, e⟩ h
  p v hv := by
    rcases List.mem_append.mp hv with hv | hv
    · exact b.p v hv
    · rw [List.mem_singleton.mp hv]; exact hp
  ex i hi u hu y e a := by
    rw [List.getElem?_append_left (by omega)] at hu
    exact List.mem_append_left _ (b.ex i hi u hu y e a)
theorem Bq.le {g : List (List Int)} {al sn : List Bool} {P : Int → Prop} {n : Nat} {q : List Int} (b : Bq g al P n sn q) : q.length ≤ g.length := by
  rw [b.cnt, ← b.len]; exact Gr.count_true_le
theorem law_reached_ok {g : List (List Int)} {starts : List Int} {al : List Bool} (hg : Gr.Ok g) (hs : ∀ v ∈ starts, Gr.Node g v) (hal : al.length = g.length) (hz : g.length ≤ 1000) : Ev (F_law_reached () (g, starts, al, ())) (fun r _ => r.length = g.length ∧ ∀ v, Gr.Tr r v ↔ ∃ s ∈ starts, Gr.Tr al s ∧ Gr.Star (fun x y => Gr.Ed g x y ∧ Gr.Tr al y) s v) (fun _ _ => False) := by
  generalize hP : (fun v => ∃ s ∈ starts, Gr.Tr al s ∧ Gr.Star (fun x y => Gr.Ed g x y ∧ Gr.Tr al y) s v) = P
  have hP' : ∀ v, (∃ s ∈ starts, Gr.Tr al s ∧ Gr.Star (fun x y => Gr.Ed g x y ∧ Gr.Tr al y) s v) ↔ P v := fun v => by rw [← hP]
  have sP : ∀ u y, P u → Gr.Ed g u y → Gr.Tr al y → P y := fun u y h e a => by
    rw [← hP'] at h ⊢
    obtain ⟨s, h1, h2, h3⟩ := h
    exact ⟨s, h1, h2, h3.snoc ⟨e, a⟩⟩
  unfold F_law_reached
  apply Ev_yRun
  simp only [Ev_ok, Ev_exc, Os_some, Os_if, Ev_xC, Ev_xV, Ev_xN, Ev_xYes, Ev_x1, Ev_x1o, Ev_x2, Ev_x2o, Ev_xIxV, Ev_xIf, Ev_xAnd, Ev_xOr, Ev_xNot, Ev_xCs, Ev_xUn, Ev_xCh, Ev_xSl, Ev_xMeth, Ev_xCall, Ev_xMake, Ev_xComp, Po_nx, Po_yNil, Po_ySeq, Po_ySet, Po_yRet, Po_yRetC, Po_yExpr, Po_yIf, Po_yBreak, Po_yCont, Po_yRaise, Po_yFor, Po_ySetI, Po_yAugI, Po_yTry, gApp, gCat, gMul, gDiv, gMod, gPow, gRep, id, decide_eq_true_eq, Bool.not_eq_true', decide_eq_false_iff_not, Bool.false_eq_true, if_false, if_true, ite_true, ite_false]
  refine ⟨⟨by omega, by omega, by rw [sizeLine_eq]; simp; omega⟩, ?_⟩
  have e0 : (List.replicate ((g.length : Int)).toNat [false]).flatten = List.replicate g.length false := by simp
  rw [e0]
  have al_get : ∀ x : Int, 0 ≤ x → x < g.length → gIx al x = some (decide (Gr.Tr al x)) := fun x h0 h1 => by
    rw [gIx_lt h0 (by omega)]
    congr 1
    rw [Bool.eq_iff_iff, Gr.tr_get h0 (by omega), decide_eq_true_eq]
  have sn_get : ∀ (sn : List Bool), sn.length = g.length → ∀ x : Int, 0 ≤ x → x < g.length → gIx sn x = some (decide (Gr.Tr sn x)) := fun sn hl x h0 h1 => by
    rw [gIx_lt h0 (by omega)]
    congr 1
    rw [Bool.eq_iff_iff, Gr.tr_get h0 (by omega), decide_eq_true_eq]
  refine po_forB (fun j s => s.lmoves = g ∧ s.lallowed = al ∧ Bq g al P 0 s.lseen s.lqueue ∧ ∀ i, i < j → ∀ x, starts[i]? = some x → Gr.Tr al x → x ∈ s.lqueue) (fun s => s.lmoves = g ∧ s.lallowed = al ∧ Bq g al P 0 s.lseen s.lqueue ∧ ∀ x ∈ starts, Gr.Tr al x → x ∈ s.lqueue) ⟨rfl, rfl, ⟨by show (List.replicate _ _).length = _; simp, fun v => ⟨fun h => absurd h Gr.tr_rep, fun h => nomatch h⟩, by show 0 = (List.replicate _ _).count true; simp [List.count_replicate], fun v h => (nomatch h), fun i h => (by omega)⟩, fun i h => (by omega)⟩ ?_ ?_ ?_
  · rintro j x s hx ⟨h1, h2, b, h4⟩
    have xm := List.mem_of_getElem? hx
    obtain ⟨x0, x1⟩ := hs x xm
    simp only [Ev_ok, Ev_exc, Os_some, Os_if, Ev_xC, Ev_xV, Ev_xN, Ev_xYes, Ev_x1, Ev_x1o, Ev_x2, Ev_x2o, Ev_xIxV, Ev_xIf, Ev_xAnd, Ev_xOr, Ev_xNot, Ev_xCs, Ev_xUn, Ev_xCh, Ev_xSl, Ev_xMeth, Ev_xCall, Ev_xMake, Ev_xComp, Po_nx, Po_yNil, Po_ySeq, Po_ySet, Po_yRet, Po_yRetC, Po_yExpr, Po_yIf, Po_yBreak, Po_yCont, Po_yRaise, Po_yFor, Po_ySetI, Po_yAugI, Po_yTry, gApp, gCat, gMul, gDiv, gMod, gPow, gRep, id, decide_eq_true_eq, Bool.not_eq_true', decide_eq_false_iff_not, Bool.false_eq_true, if_false, if_true, ite_true, ite_false]
    rw [show (s.put_lstart x).lallowed = al from h2]
    refine Os_intro (al_get x x0 x1) ?_
    have next : ∀ (q : List Int), (∀ y ∈ s.lqueue, y ∈ q) → (Gr.Tr al x → x ∈ q) → ∀ i, i < j + 1 → ∀ y, starts[i]? = some y → Gr.Tr al y → y ∈ q := fun q k1 k2 i hi y hy ha => by
      by_cases e : i = j
      · subst e; rw [hx] at hy; cases hy; exact k2 ha
      · exact k1 y (h4 i (by omega) y hy ha)
    by_cases ha : Gr.Tr al x
    · rw [if_pos (by simpa using ha)]
      refine Os_intro (sn_get _ b.len x x0 x1) ?_
      by_cases ht : Gr.Tr s.lseen x
      · rw [if_neg (by simpa using ht)]
        exact ⟨h1, by (first | assumption | rfl | trivial), b, next _ (fun y h => h) fun _ => (b.tr x).mp ht⟩
      · rw [if_pos (by simpa using ht)]
        refine Os_intro (gSetI_z x0 (by show x < (s.lseen.length : Int); rw [b.len]; exact x1)) ?_
        have := b.le
        refine ⟨by show s.lqueue.length < _; rw [sizeLine_eq]; omega, h1, by (first | assumption | rfl | trivial), b.push (Nat.zero_le _) x0 x1 ht ((hP' x).mp ⟨x, xm, ha, .refl x⟩), next _ (fun y h => List.mem_append_left _ h) fun _ => by simp⟩
    · rw [if_neg (by simpa using ha)]
      exact ⟨h1, by (first | assumption | rfl | trivial), b, next _ (fun y h => h) fun h => absurd h ha⟩
  · rintro s ⟨h1, h2, b, h4⟩
    refine ⟨h1, h2, b, fun x hx ha => ?_⟩
    obtain ⟨i, hi, e⟩ := List.getElem_of_mem hx
    exact h4 i hi x (by rw [List.getElem?_eq_getElem hi, e]) ha
  rintro s ⟨h1, h2, b, h4⟩
  rw [h1]
  refine Os_intro (rng1 (by omega) (by omega)) ?_
  refine po_forL (fun j s => s.lmoves = g ∧ s.lallowed = al ∧ Bq g al P j s.lseen s.lqueue ∧ ∀ x ∈ starts, Gr.Tr al x → x ∈ s.lqueue) ⟨h1, h2, b, h4⟩ ?_ ?_
  · rintro j x s hx ⟨h1, h2, b, h4⟩
    obtain ⟨rfl, hj⟩ := rng_get hx
    rw [Int.zero_add]
    simp only [Ev_ok, Ev_exc, Os_some, Os_if, Ev_xC, Ev_xV, Ev_xN, Ev_xYes, Ev_x1, Ev_x1o, Ev_x2, Ev_x2o, Ev_xIxV, Ev_xIf, Ev_xAnd, Ev_xOr, Ev_xNot, Ev_xCs, Ev_xUn, Ev_xCh, Ev_xSl, Ev_xMeth, Ev_xCall, Ev_xMake, Ev_xComp, Po_nx, Po_yNil, Po_ySeq, Po_ySet, Po_yRet, Po_yRetC, Po_yExpr, Po_yIf, Po_yBreak, Po_yCont, Po_yRaise, Po_yFor, Po_ySetI, Po_yAugI, Po_yTry, gApp, gCat, gMul, gDiv, gMod, gPow, gRep, id, decide_eq_true_eq, Bool.not_eq_true', decide_eq_false_iff_not, Bool.false_eq_true, if_false, if_true, ite_true, ite_false]
    by_cases hq : j < s.lqueue.length
    · rw [if_pos (by show (j : Int) < (s.lqueue.length : Int); omega)]
      have eu : s.lqueue[j]? = some (s.lqueue[j]) := List.getElem?_eq_getElem hq
      have um : s.lqueue[j] ∈ s.lqueue := List.getElem_mem hq
      generalize s.lqueue[j] = u at eu um
      have tu := (b.tr u).mpr um
      have u0 := tu.1
      have u1 := tu.lt
      rw [b.len] at u1
      rw [show (s.put_lat (j : Int)).lmoves = g from h1]
      refine Os_intro (gIx_nat (show (s.put_lat (j : Int)).lqueue[j]? = _ from eu)) ?_
      have row : g[u.toNat]? = some (g[u.toNat]'(by omega)) := List.getElem?_eq_getElem _
      refine Os_intro (gIx_z u0 row) ?_
      have hts : ∀ x, x ∈ g[u.toNat]'(by omega) ↔ Gr.Ed g u x := fun x => ⟨fun h => ⟨u0, _, row, h⟩, fun ⟨_, r, a1, a2⟩ => by rw [row] at a1; cases a1; exact a2⟩
      generalize g[u.toNat]'(by omega) = ts at hts
      have up := b.p u um
      refine po_forP (fun ys s => s.lmoves = g ∧ s.lallowed = al ∧ Bq g al P j s.lseen s.lqueue ∧ (∀ x ∈ starts, Gr.Tr al x → x ∈ s.lqueue) ∧ s.lqueue[j]? = some u ∧ ∀ y ∈ ys, Gr.Tr al y → y ∈ s.lqueue) ⟨h1, h2, b, h4, eu, fun y h => nomatch h⟩ ?_ ?_
      · rintro ys zs x s e1 ⟨h1, h2, b, h4, eu, h6⟩
        have ex : Gr.Ed g u x := (hts x).mp (by rw [e1]; simp)
        obtain ⟨x0, x1⟩ := ex.r hg
        simp only [Ev_ok, Ev_exc, Os_some, Os_if, Ev_xC, Ev_xV, Ev_xN, Ev_xYes, Ev_x1, Ev_x1o, Ev_x2, Ev_x2o, Ev_xIxV, Ev_xIf, Ev_xAnd, Ev_xOr, Ev_xNot, Ev_xCs, Ev_xUn, Ev_xCh, Ev_xSl, Ev_xMeth, Ev_xCall, Ev_xMake, Ev_xComp, Po_nx, Po_yNil, Po_ySeq, Po_ySet, Po_yRet, Po_yRetC, Po_yExpr, Po_yIf, Po_yBreak, Po_yCont, Po_yRaise, Po_yFor, Po_ySetI, Po_yAugI, Po_yTry, gApp, gCat, gMul, gDiv, gMod, gPow, gRep, id, decide_eq_true_eq, Bool.not_eq_true', decide_eq_false_iff_not, Bool.false_eq_true, if_false, if_true, ite_true, ite_false]
        rw [show (s.put_ltarget x).lallowed = al from h2]
        refine Os_intro (al_get x x0 x1) ?_
        have next : ∀ (q : List Int), (∀ y ∈ s.lqueue, y ∈ q) → (Gr.Tr al x → x ∈ q) → ∀ y ∈ ys ++ [x], Gr.Tr al y → y ∈ q := fun q k1 k2 y hy ha => by
          rcases List.mem_append.mp hy with hy | hy
          · exact k1 y (h6 y hy ha)
          · rw [List.mem_singleton.mp hy] at ha ⊢; exact k2 ha
        by_cases ha : Gr.Tr al x
        · rw [if_pos (by simpa using ha)]
          refine Os_intro (sn_get _ b.len x x0 x1) ?_
          by_cases ht : Gr.Tr s.lseen x
          · rw [if_neg (by simpa using ht)]
            exact ⟨h1, by (first | assumption | rfl | trivial), b, h4, eu, next _ (fun y h => h) fun _ => (b.tr x).mp ht⟩
          · rw [if_pos (by simpa using ht)]
            refine Os_intro (gSetI_z x0 (by show x < (s.lseen.length : Int); rw [b.len]; exact x1)) ?_
            have := b.le
            have hq2 : j < s.lqueue.length := (List.getElem?_eq_some_iff.mp eu).1
            refine ⟨by show s.lqueue.length < _; rw [sizeLine_eq]; omega, h1, by (first | assumption | rfl | trivial), b.push (by omega) x0 x1 ht (sP u x up ex ha), fun y hy hay => List.mem_append_left _ (h4 y hy hay), ?_, next _ (fun y h => List.mem_append_left _ h) fun _ => by simp⟩
            show (s.lqueue ++ [x])[j]? = _
            rw [List.getElem?_append_left hq2]; exact eu
        · rw [if_neg (by simpa using ha)]
          exact ⟨h1, by (first | assumption | rfl | trivial), b, h4, eu, next _ (fun y h => h) fun h => absurd h ha⟩
      · rintro s ⟨h1, h2, b, h4, eu, h6⟩
        refine ⟨h1, h2, ⟨b.len, b.tr, b.cnt, b.p, fun i hi v hv y e a => ?_⟩, h4⟩
        by_cases q : i = j
        · subst q; rw [eu] at hv; cases hv; exact h6 y ((hts y).mpr e) a
        · exact b.ex i (by omega) v hv y e a
    · rw [if_neg (by show ¬ (j : Int) < (s.lqueue.length : Int); omega)]
      refine ⟨h1, h2, ⟨b.len, b.tr, b.cnt, b.p, fun i hi v hv y e a => ?_⟩, h4⟩
      by_cases q : i = j
      · subst q; have := (List.getElem?_eq_some_iff.mp hv).1; exact absurd this hq
      · exact b.ex i (by omega) v hv y e a
  · rintro s ⟨h1, h2, b, h4⟩
    rw [rng_len] at b
    refine ⟨b.len, fun v => ?_⟩
    rw [hP']
    constructor
    · exact fun h => b.p v ((b.tr v).mp h)
    · rw [← hP']
      rintro ⟨s0, q1, q2, q3⟩
      refine (b.tr v).mpr (q3.keep (P := fun v => v ∈ s.lqueue) (fun a c e h => ?_) (h4 s0 q1 q2))
      obtain ⟨i, hi, ei⟩ := List.getElem_of_mem h
      have := b.le
      exact b.ex i (by omega) a (by rw [List.getElem?_eq_getElem hi, ei]) c e.1 e.2
end K35
/-! ## F35 -/
set_option Elab.async false
set_option linter.all false
set_option maxRecDepth 100000
set_option maxHeartbeats 4000000
namespace K35
open PySem PySem.Spec PyProof.Rows L2 Mn Ty
/-! ### the moves that are left -/
def lft (o : List Int) (g : List (List Int)) (p : Int) (ch : List Int) : List (List Int) := (List.range g.length).map fun i => if o.getD i 0 = p then (if ch.getD i 0 < 0 then [] else [ch.getD i 0]) else g.getD i []
theorem lft_len {o : List Int} {g : List (List Int)} {p : Int} {ch : List Int} : (lft o g p ch).length = g.length := by unfold lft; simp
theorem lft_row {o : List Int} {g : List (List Int)} {p : Int} {ch : List Int} {i : Nat} (h : i < g.length) : (lft o g p ch)[i]? = some (if o.getD i 0 = p then (if ch.getD i 0 < 0 then [] else [ch.getD i 0]) else g.getD i []) := by
  unfold lft
  rw [List.getElem?_map, List.getElem?_range h]; rfl
theorem getD_nat {ps : List Int} {j : Nat} (h1 : j < ps.length) : ps[j]? = some (ps.getD j 0) := by
  rw [List.getD_eq_getElem?_getD, List.getElem?_eq_getElem h1]; rfl
theorem lft_mem {o : List Int} {g : List (List Int)} {p : Int} {ch : List Int} (hl : ch.length = g.length) {r : List Int} (h : r ∈ lft o g p ch) : r ∈ g ∨ ∃ c ∈ ch, (∀ t ∈ r, t = c ∧ 0 ≤ c) ∧ r.length ≤ 1 := by
  obtain ⟨i, hi, rfl⟩ := List.mem_map.mp h
  rw [List.mem_range] at hi
  have hc : ch.getD i 0 ∈ ch := List.mem_of_getElem? (getD_nat (by omega))
  by_cases c1 : o.getD i 0 = p
  · rw [if_pos c1]
    right
    refine ⟨_, hc, ?_⟩
    by_cases c2 : ch.getD i 0 < 0
    · rw [if_pos c2]; exact ⟨fun t ht => (nomatch ht), by simp⟩
    · rw [if_neg c2]; exact ⟨fun t ht => ⟨by simpa using ht, by omega⟩, by simp⟩
  · rw [if_neg c1, getD_row (List.getElem?_eq_getElem hi)]
    exact .inl (List.getElem_mem hi)
theorem lft_good {o : List Int} {g : List (List Int)} {p : Int} {ch : List Int} (hg : Gr.Ok g) (hl : ch.length = g.length) (hc : ∀ c ∈ ch, c < g.length) : Gr.Ok (lft o g p ch) := fun r hr t ht => by
  rw [lft_len]
  rcases lft_mem hl hr with h | ⟨c, h1, h2, _⟩
  · exact hg r h t ht
  · obtain ⟨rfl, h3⟩ := h2 t ht
    exact ⟨h3, hc _ h1⟩
theorem lft_rows {o : List Int} {g : List (List Int)} {p : Int} {ch : List Int} (hl : ch.length = g.length) (hd : ∀ r ∈ g, r.length ≤ 1000) : ∀ r ∈ lft o g p ch, r.length ≤ 1000 := fun r hr => by
  rcases lft_mem hl hr with h | ⟨c, _, _, h2⟩
  · exact hd r h
  · omega
theorem take_row {α : Type} {l : List α} {j : Nat} {r : α} (h : l[j]? = some r) : l.take (j + 1) = l.take j ++ [r] := by rw [List.take_add_one, h]; rfl
theorem chosen_ok {G : C_Game} {p : Int} {ch : List Int} (ho : G.owners.length = G.moves.length) (hl : ch.length = G.moves.length) (hz : G.moves.length < 64) : Ev (F_chosen_moves () (G, p, ch, ())) (fun r _ => r = lft G.owners G.moves p ch) (fun _ _ => False) := by
  unfold F_chosen_moves
  apply Ev_yRun
  simp only [Ev_ok, Ev_exc, Os_some, Os_if, Ev_xC, Ev_xV, Ev_xN, Ev_xYes, Ev_x1, Ev_x1o, Ev_x2, Ev_x2o, Ev_xIxV, Ev_xIf, Ev_xAnd, Ev_xOr, Ev_xNot, Ev_xCs, Ev_xUn, Ev_xCh, Ev_xSl, Ev_xMeth, Ev_xCall, Ev_xMake, Ev_xComp, Po_nx, Po_yNil, Po_ySeq, Po_ySet, Po_yRet, Po_yRetC, Po_yExpr, Po_yIf, Po_yBreak, Po_yCont, Po_yRaise, Po_yFor, Po_ySetI, Po_yAugI, Po_yTry, gApp, gCat, gMul, gDiv, gMod, gPow, gRep, id, decide_eq_true_eq, Bool.not_eq_true', decide_eq_false_iff_not, Bool.false_eq_true, if_false, if_true, ite_true, ite_false]
  refine Os_intro (rng1 (by omega) (by omega)) ?_
  refine po_forL (fun j s => s.game = G ∧ s.player = p ∧ s.choices = ch ∧ s.moves = (lft G.owners G.moves p ch).take j) ⟨rfl, rfl, rfl, rfl⟩ ?_ ?_
  · rintro j x s hx ⟨h1, h2, h3, h4⟩
    obtain ⟨rfl, hj⟩ := rng_get hx
    have hj : j < G.moves.length := by simpa using hj
    rw [Int.zero_add]
    have row := lft_row (o := G.owners) (p := p) (ch := ch) hj
    have hz2 : s.moves.length < PySem.sizeLine := by rw [h4, List.length_take, lft_len, sizeLine_eq]; omega
    simp only [Ev_ok, Ev_exc, Os_some, Os_if, Ev_xC, Ev_xV, Ev_xN, Ev_xYes, Ev_x1, Ev_x1o, Ev_x2, Ev_x2o, Ev_xIxV, Ev_xIf, Ev_xAnd, Ev_xOr, Ev_xNot, Ev_xCs, Ev_xUn, Ev_xCh, Ev_xSl, Ev_xMeth, Ev_xCall, Ev_xMake, Ev_xComp, Po_nx, Po_yNil, Po_ySeq, Po_ySet, Po_yRet, Po_yRetC, Po_yExpr, Po_yIf, Po_yBreak, Po_yCont, Po_yRaise, Po_yFor, Po_ySetI, Po_yAugI, Po_yTry, gApp, gCat, gMul, gDiv, gMod, gPow, gRep, id, decide_eq_true_eq, Bool.not_eq_true', decide_eq_false_iff_not, Bool.false_eq_true, if_false, if_true, ite_true, ite_false]
    rw [show (s.put_position (j : Int)).game = G from h1]
    refine Os_intro (gIx_nat (getD_nat (by omega))) ?_
    rw [show (s.put_position (j : Int)).player = p from h2]
    by_cases c1 : G.owners.getD j 0 = p
    · rw [if_neg (by simpa using c1)]
      rw [if_pos c1] at row
      rw [show (s.put_position (j : Int)).choices = ch from h3]
      refine Os_intro (gIx_nat (getD_nat (by omega))) ?_
      by_cases c2 : ch.getD j 0 < 0
      · rw [if_pos c2]
        rw [if_pos c2] at row
        exact ⟨hz2, by (first | assumption | rfl | trivial), by (first | assumption | rfl | trivial), by (first | assumption | rfl | trivial), by show s.moves ++ [_] = _; rw [take_row row, h4]⟩
      · rw [if_neg c2]
        rw [if_neg c2] at row
        refine Os_intro (gIx_nat (getD_nat (by omega))) ?_
        exact ⟨hz2, by (first | assumption | rfl | trivial), by (first | assumption | rfl | trivial), by (first | assumption | rfl | trivial), by show s.moves ++ [_] = _; rw [take_row row, h4]⟩
    · rw [if_pos (by simpa using c1)]
      rw [if_neg c1, getD_row (List.getElem?_eq_getElem hj)] at row
      refine Os_intro (gIx_nat (List.getElem?_eq_getElem hj)) ?_
      exact ⟨hz2, by (first | assumption | rfl | trivial), by (first | assumption | rfl | trivial), by (first | assumption | rfl | trivial), by show s.moves ++ [_] = _; rw [take_row row, h4]⟩
  · rintro s ⟨h1, h2, h3, h4⟩
    rw [h4, rng_len, List.take_of_length_le (by rw [lft_len]; omega)]
theorem left_ok {o : List Int} {g : List (List Int)} {p : Int} {ch : List Int} (ho : o.length = g.length) (hl : ch.length = g.length) (hz : g.length < 64) : Ev (F_law_left () (o, g, p, ch, ())) (fun r _ => r = lft o g p ch) (fun _ _ => False) := by
  unfold F_law_left
  apply Ev_yRun
  simp only [Ev_ok, Ev_exc, Os_some, Os_if, Ev_xC, Ev_xV, Ev_xN, Ev_xYes, Ev_x1, Ev_x1o, Ev_x2, Ev_x2o, Ev_xIxV, Ev_xIf, Ev_xAnd, Ev_xOr, Ev_xNot, Ev_xCs, Ev_xUn, Ev_xCh, Ev_xSl, Ev_xMeth, Ev_xCall, Ev_xMake, Ev_xComp, Po_nx, Po_yNil, Po_ySeq, Po_ySet, Po_yRet, Po_yRetC, Po_yExpr, Po_yIf, Po_yBreak, Po_yCont, Po_yRaise, Po_yFor, Po_ySetI, Po_yAugI, Po_yTry, gApp, gCat, gMul, gDiv, gMod, gPow, gRep, id, decide_eq_true_eq, Bool.not_eq_true', decide_eq_false_iff_not, Bool.false_eq_true, if_false, if_true, ite_true, ite_false]
  refine Os_intro (rng1 (by omega) (by omega)) ?_
  refine po_forL (fun j s => s.lowners = o ∧ s.lmoves = g ∧ s.lplayer = p ∧ s.lchoices = ch ∧ s.lfound = (lft o g p ch).take j) ⟨rfl, rfl, rfl, rfl, rfl⟩ ?_ ?_
  · rintro j x s hx ⟨h1, h0, h2, h3, h4⟩
    obtain ⟨rfl, hj⟩ := rng_get hx
    have hj : j < g.length := by simpa using hj
    rw [Int.zero_add]
    have row := lft_row (o := o) (p := p) (ch := ch) hj
    have hz2 : s.lfound.length < PySem.sizeLine := by rw [h4, List.length_take, lft_len, sizeLine_eq]; omega
    simp only [Ev_ok, Ev_exc, Os_some, Os_if, Ev_xC, Ev_xV, Ev_xN, Ev_xYes, Ev_x1, Ev_x1o, Ev_x2, Ev_x2o, Ev_xIxV, Ev_xIf, Ev_xAnd, Ev_xOr, Ev_xNot, Ev_xCs, Ev_xUn, Ev_xCh, Ev_xSl, Ev_xMeth, Ev_xCall, Ev_xMake, Ev_xComp, Po_nx, Po_yNil, Po_ySeq, Po_ySet, Po_yRet, Po_yRetC, Po_yExpr, Po_yIf, Po_yBreak, Po_yCont, Po_yRaise, Po_yFor, Po_ySetI, Po_yAugI, Po_yTry, gApp, gCat, gMul, gDiv, gMod, gPow, gRep, id, decide_eq_true_eq, Bool.not_eq_true', decide_eq_false_iff_not, Bool.false_eq_true, if_false, if_true, ite_true, ite_false]
    rw [show (s.put_lk (j : Int)).lowners = o from h1]
    refine Os_intro (gIx_nat (getD_nat (by omega))) ?_
    rw [show (s.put_lk (j : Int)).lplayer = p from h2]
    by_cases c1 : o.getD j 0 = p
    · rw [if_neg (by simpa using c1)]
      rw [if_pos c1] at row
      rw [show (s.put_lk (j : Int)).lchoices = ch from h3]
      refine Os_intro (gIx_nat (getD_nat (by omega))) ?_
      by_cases c2 : ch.getD j 0 < 0
      · rw [if_pos c2]
        rw [if_pos c2] at row
        exact ⟨hz2, by (first | assumption | rfl | trivial), by (first | assumption | rfl | trivial), by (first | assumption | rfl | trivial), by (first | assumption | rfl | trivial), by show s.lfound ++ [_] = _; rw [take_row row, h4]⟩
      · rw [if_neg c2]
        rw [if_neg c2] at row
        refine Os_intro (gIx_nat (getD_nat (by omega))) ?_
        exact ⟨hz2, by (first | assumption | rfl | trivial), by (first | assumption | rfl | trivial), by (first | assumption | rfl | trivial), by (first | assumption | rfl | trivial), by show s.lfound ++ [_] = _; rw [take_row row, h4]⟩
    · rw [if_pos (by simpa using c1)]
      rw [if_neg c1, getD_row (List.getElem?_eq_getElem hj)] at row
      rw [show (s.put_lk (j : Int)).lmoves = g from h0]
      refine Os_intro (gIx_nat (List.getElem?_eq_getElem hj)) ?_
      exact ⟨hz2, by (first | assumption | rfl | trivial), by (first | assumption | rfl | trivial), by (first | assumption | rfl | trivial), by (first | assumption | rfl | trivial), by show s.lfound ++ [_] = _; rw [take_row row, h4]⟩
  · rintro s ⟨h1, h0, h2, h3, h4⟩
    rw [h4, rng_len, List.take_of_length_le (by rw [lft_len]; omega)]
/-- every play is won -/
def Win (ps : List Int) (g : List (List Int)) (p st : Int) : Prop := (∀ v, Gr.Star (Gr.Ed g) st v → ∃ w, Gr.Ed g v w) ∧ ¬ ∃ v, Gr.Star (Gr.Ed g) st v ∧ pr ps v % 2 ≠ p ∧ Gr.Cyc (low ps g (pr ps v)) v
theorem rng_at {n i : Nat} (h : i < n) : (rng 0 n)[i]? = some (i : Int) := by
  cases e : (rng 0 n)[i]? with
  | none => have := List.getElem?_eq_none_iff.mp e; rw [rng_len] at this; omega
  | some x => obtain ⟨rfl, _⟩ := rng_get e; simp
theorem low_cyc {ps : List Int} {g : List (List Int)} (hg : Gr.Ok g) {k : Int} {al : List Bool} (hal : ∀ v, Gr.Tr al v ↔ Gr.Node g v ∧ pr ps v ≤ pr ps k) {ts : List Int} (hts : ∀ x, x ∈ ts ↔ Gr.Ed g k x) :
    (∃ s ∈ ts, Gr.Tr al s ∧ Gr.Star (fun x y => Gr.Ed g x y ∧ Gr.Tr al y) s k) ↔ Gr.Cyc (low ps g (pr ps k)) k := by
  constructor
  · rintro ⟨s, h1, h2, h3⟩
    refine ⟨s, low_ed.mpr ⟨(hts s).mp h1, Int.le_refl _, ((hal s).mp h2).2⟩, ?_⟩
    exact (star_with (P := fun x => pr ps x ≤ pr ps k) (fun a b e _ => ((hal b).mp e.2).2) h3 ((hal s).mp h2).2).mono fun a b e => low_ed.mpr ⟨e.1.1, e.2, ((hal b).mp e.1.2).2⟩
  · rintro ⟨w, h1, h2⟩
    obtain ⟨a1, a2, a3⟩ := low_ed.mp h1
    refine ⟨w, (hts w).mpr a1, (hal w).mpr ⟨a1.r hg, a3⟩, h2.mono fun a b e => ?_⟩
    obtain ⟨b1, b2, b3⟩ := low_ed.mp e
    exact ⟨b1, (hal b).mpr ⟨b1.r hg, b3⟩⟩
theorem wins_ok {ps : List Int} {g : List (List Int)} {p st : Int} (hg : Gr.Ok g) (hl : ps.length = g.length) (hz : g.length < 64) (hs : Gr.Node g st) : Ev (F_law_wins () (ps, g, p, st, ())) (fun r _ => r = true ↔ Win ps g p st) (fun _ _ => False) := by
  unfold F_law_wins
  apply Ev_yRun
  simp only [Ev_ok, Ev_exc, Os_some, Os_if, Ev_xC, Ev_xV, Ev_xN, Ev_xYes, Ev_x1, Ev_x1o, Ev_x2, Ev_x2o, Ev_xIxV, Ev_xIf, Ev_xAnd, Ev_xOr, Ev_xNot, Ev_xCs, Ev_xUn, Ev_xCh, Ev_xSl, Ev_xMeth, Ev_xCall, Ev_xMake, Ev_xComp, Po_nx, Po_yNil, Po_ySeq, Po_ySet, Po_yRet, Po_yRetC, Po_yExpr, Po_yIf, Po_yBreak, Po_yCont, Po_yRaise, Po_yFor, Po_ySetI, Po_yAugI, Po_yTry, gApp, gCat, gMul, gDiv, gMod, gPow, gRep, id, decide_eq_true_eq, Bool.not_eq_true', decide_eq_false_iff_not, Bool.false_eq_true, if_false, if_true, ite_true, ite_false]
  refine ⟨⟨by omega, by omega, by rw [sizeLine_eq]; simp; omega⟩, ?_⟩
  have e0 : (List.replicate ((g.length : Int)).toNat [true]).flatten = List.replicate g.length true := by simp
  rw [e0]
  refine (law_reached_ok hg (starts := [st]) (fun v hv => by rw [List.mem_singleton.mp hv]; exact hs) (by simp) (by omega)).mono ?_
  rintro sn _ ⟨sl, st0⟩
  have tr : ∀ v, Gr.Tr sn v ↔ Gr.Star (Gr.Ed g) st v := fun v => by
    rw [st0]
    constructor
    · rintro ⟨s, h1, _, h3⟩
      rw [List.mem_singleton.mp h1] at h3
      exact h3.mono fun a b e => e.1
    · intro h
      refine ⟨st, by simp, Gr.tr_rep_true.mpr hs, h.mono fun a b e => ⟨e, Gr.tr_rep_true.mpr (e.r hg)⟩⟩
  have sn_get : ∀ k : Nat, k < g.length → gIx sn (k : Int) = some (decide (Gr.Tr sn k)) := fun k h1 => by
    rw [gIx_lt (by omega) (by omega)]
    congr 1
    rw [Bool.eq_iff_iff, Gr.tr_get (by omega) (by omega), decide_eq_true_eq]
  refine Os_intro (rng1 (by omega) (by omega)) ?_
  refine po_forB (fun j s => s.lcount = (g.length : Int) ∧ s.lmoves = g ∧ s.lseen = sn ∧ s.lpriorities = ps ∧ s.lplayer = p ∧ ∀ v : Int, v < j → Gr.Tr sn v → ∃ w, Gr.Ed g v w) (fun s => s.lcount = (g.length : Int) ∧ s.lmoves = g ∧ s.lseen = sn ∧ s.lpriorities = ps ∧ s.lplayer = p ∧ ∀ v : Int, Gr.Tr sn v → ∃ w, Gr.Ed g v w) ⟨rfl, rfl, rfl, rfl, rfl, fun v h t => by have := t.1; omega⟩ ?_ ?_ ?_
  · rintro j x s hx ⟨h1, h2, h3, h4, h5, h6⟩
    obtain ⟨rfl, hj⟩ := rng_get hx
    have hj : j < g.length := by simpa using hj
    rw [Int.zero_add]
    simp only [Ev_ok, Ev_exc, Os_some, Os_if, Ev_xC, Ev_xV, Ev_xN, Ev_xYes, Ev_x1, Ev_x1o, Ev_x2, Ev_x2o, Ev_xIxV, Ev_xIf, Ev_xAnd, Ev_xOr, Ev_xNot, Ev_xCs, Ev_xUn, Ev_xCh, Ev_xSl, Ev_xMeth, Ev_xCall, Ev_xMake, Ev_xComp, Po_nx, Po_yNil, Po_ySeq, Po_ySet, Po_yRet, Po_yRetC, Po_yExpr, Po_yIf, Po_yBreak, Po_yCont, Po_yRaise, Po_yFor, Po_ySetI, Po_yAugI, Po_yTry, gApp, gCat, gMul, gDiv, gMod, gPow, gRep, id, decide_eq_true_eq, Bool.not_eq_true', decide_eq_false_iff_not, Bool.false_eq_true, if_false, if_true, ite_true, ite_false]
    rw [show (s.put_lk (j : Int)).lseen = sn from h3]
    refine Os_intro (sn_get j hj) ?_
    have next : (Gr.Tr sn j → ∃ w, Gr.Ed g j w) → ∀ v : Int, v < (j + 1 : Nat) → Gr.Tr sn v → ∃ w, Gr.Ed g v w := fun k v hv ht => by
      by_cases q : v = j
      · subst q; exact k ht
      · exact h6 v (by omega) ht
    by_cases ht : Gr.Tr sn j
    · rw [if_pos (by simpa using ht)]
      rw [show (s.put_lk (j : Int)).lmoves = g from h2]
      have row : g[j]? = some g[j] := List.getElem?_eq_getElem hj
      refine Os_intro (gIx_nat row) ?_
      have hts : ∀ x, x ∈ g[j] ↔ Gr.Ed g j x := fun x => ed_row row
      generalize g[j] = ts at hts
      cases ts with
      | nil =>
        rw [if_pos (by simp)]
        refine ⟨False.elim, fun ⟨w1, _⟩ => ?_⟩
        obtain ⟨w, e⟩ := w1 j ((tr j).mp ht)
        exact nomatch (hts w).mpr e
      | cons t ts =>
        rw [if_neg (by simp; omega)]
        exact ⟨h1, by (first | assumption | rfl | trivial), by (first | assumption | rfl | trivial), h4, h5, next fun _ => ⟨t, (hts t).mp List.mem_cons_self⟩⟩
    · rw [if_neg (by simpa using ht)]
      exact ⟨h1, h2, by (first | assumption | rfl | trivial), h4, h5, next fun h => absurd h ht⟩
  · rintro s ⟨h1, h2, h3, h4, h5, h6⟩
    rw [rng_len] at h6
    exact ⟨h1, h2, h3, h4, h5, fun v t => h6 v (by have := t.lt; omega) t⟩
  rintro s ⟨h1, h2, h3, h4, h5, h6⟩
  rw [h1]
  refine Os_intro (rng1 (by omega) (by omega)) ?_
  refine po_forL (fun j s => s.lcount = (g.length : Int) ∧ s.lmoves = g ∧ s.lseen = sn ∧ s.lpriorities = ps ∧ s.lplayer = p ∧ ∀ v : Int, v < j → Gr.Tr sn v → pr ps v % 2 ≠ p → ¬ Gr.Cyc (low ps g (pr ps v)) v) ⟨h1, h2, h3, h4, h5, fun v h t => by have := t.1; omega⟩ ?_ ?_
  · rintro j x s hx ⟨h1, h2, h3, h4, h5, h7⟩
    obtain ⟨rfl, hj⟩ := rng_get hx
    have hj : j < g.length := by simpa using hj
    rw [Int.zero_add]
    have next : (Gr.Tr sn j → pr ps j % 2 ≠ p → ¬ Gr.Cyc (low ps g (pr ps j)) j) → ∀ v : Int, v < (j + 1 : Nat) → Gr.Tr sn v → pr ps v % 2 ≠ p → ¬ Gr.Cyc (low ps g (pr ps v)) v := fun k v hv ht => by
      by_cases q : v = j
      · subst q; exact k ht
      · exact h7 v (by omega) ht
    simp only [Ev_ok, Ev_exc, Os_some, Os_if, Ev_xC, Ev_xV, Ev_xN, Ev_xYes, Ev_x1, Ev_x1o, Ev_x2, Ev_x2o, Ev_xIxV, Ev_xIf, Ev_xAnd, Ev_xOr, Ev_xNot, Ev_xCs, Ev_xUn, Ev_xCh, Ev_xSl, Ev_xMeth, Ev_xCall, Ev_xMake, Ev_xComp, Po_nx, Po_yNil, Po_ySeq, Po_ySet, Po_yRet, Po_yRetC, Po_yExpr, Po_yIf, Po_yBreak, Po_yCont, Po_yRaise, Po_yFor, Po_ySetI, Po_yAugI, Po_yTry, gApp, gCat, gMul, gDiv, gMod, gPow, gRep, id, decide_eq_true_eq, Bool.not_eq_true', decide_eq_false_iff_not, Bool.false_eq_true, if_false, if_true, ite_true, ite_false]
    rw [show (s.put_lk (j : Int)).lseen = sn from h3]
    refine Os_intro (sn_get j hj) ?_
    by_cases ht : Gr.Tr sn j
    · rw [if_pos (by simpa using ht)]
      rw [h4]
      refine Os_intro (gIx_nat (pr_nat (by omega))) ?_
      refine ⟨by omega, ?_⟩
      by_cases hp : pr ps j % 2 = p
      · rw [if_neg (by rw [h5]; simpa using hp)]
        exact ⟨h1, h2, by (first | assumption | rfl | trivial), by (first | assumption | rfl | trivial), h5, next fun _ q => absurd hp q⟩
      · rw [if_pos (by rw [h5]; simpa using hp)]
        rw [h1]
        refine Os_intro (rng1 (by omega) (by omega)) ?_
        refine comp_mapP (fun s => s.lcount = (g.length : Int) ∧ s.lmoves = g ∧ s.lseen = sn ∧ s.lpriorities = ps ∧ s.lplayer = p ∧ s.lk = j) (fun i => decide (pr ps i ≤ pr ps j)) ⟨h1, h2, h3, h4, h5, rfl⟩ (by rw [rng_len]; omega) ?_ ?_
        · rintro i hi s ⟨h1, h2, h3, h4, h5, h8⟩
          obtain ⟨q, hq, eq⟩ := List.getElem_of_mem hi
          obtain ⟨rfl, hq2⟩ := rng_get (show (rng 0 ((g.length : Int)).toNat)[q]? = some i by rw [List.getElem?_eq_getElem hq, eq])
          have hq2 : q < g.length := by simpa using hq2
          rw [Int.zero_add]
          simp only [Ev_ok, Ev_exc, Os_some, Os_if, Ev_xC, Ev_xV, Ev_xN, Ev_xYes, Ev_x1, Ev_x1o, Ev_x2, Ev_x2o, Ev_xIxV, Ev_xIf, Ev_xAnd, Ev_xOr, Ev_xNot, Ev_xCs, Ev_xUn, Ev_xCh, Ev_xSl, Ev_xMeth, Ev_xCall, Ev_xMake, Ev_xComp, Po_nx, Po_yNil, Po_ySeq, Po_ySet, Po_yRet, Po_yRetC, Po_yExpr, Po_yIf, Po_yBreak, Po_yCont, Po_yRaise, Po_yFor, Po_ySetI, Po_yAugI, Po_yTry, gApp, gCat, gMul, gDiv, gMod, gPow, gRep, id, decide_eq_true_eq, Bool.not_eq_true', decide_eq_false_iff_not, Bool.false_eq_true, if_false, if_true, ite_true, ite_false]
          rw [show (s.put_lj_c0 (q : Int)).lpriorities = ps from h4]
          refine Os_intro (gIx_nat (pr_nat (by omega))) ?_
          rw [show (s.put_lj_c0 (q : Int)).lk = j from h8]
          refine Os_intro (gIx_nat (pr_nat (by omega))) ?_
          exact ⟨by (first | assumption | rfl | trivial), by (first | assumption | rfl | trivial), by (first | assumption | rfl | trivial), by (first | assumption | rfl | trivial), by (first | assumption | rfl | trivial), by (first | assumption | rfl | trivial), by (first | assumption | rfl | trivial)⟩
        · rintro s ⟨h1, h2, h3, h4, h5, h8⟩
          dsimp only
          rw [h2, h8]
          have row : g[j]? = some g[j] := List.getElem?_eq_getElem hj
          refine Os_intro (gIx_nat row) ?_
          have hts : ∀ x, x ∈ g[j] ↔ Gr.Ed g j x := fun x => ed_row row
          generalize g[j] = ts at hts
          have all : ∀ v, Gr.Tr ((rng 0 ((g.length : Int)).toNat).map fun i => decide (pr ps i ≤ pr ps j)) v ↔ Gr.Node g v ∧ pr ps v ≤ pr ps j := fun v => by
            unfold Gr.Tr Gr.Node
            rw [List.getElem?_map]
            constructor
            · rintro ⟨v0, e⟩
              cases e2 : (rng 0 ((g.length : Int)).toNat)[v.toNat]? with
              | none => rw [e2] at e; cases e
              | some x =>
                rw [e2] at e
                obtain ⟨rfl, hv⟩ := rng_get e2
                have e := Option.some.inj e
                rw [decide_eq_true_eq, Int.zero_add, Int.toNat_of_nonneg v0] at e
                exact ⟨⟨v0, by omega⟩, e⟩
            · rintro ⟨⟨v0, v1⟩, e⟩
              refine ⟨v0, ?_⟩
              rw [rng_at (by omega), Int.toNat_of_nonneg v0]
              show some (decide _) = _
              rw [decide_eq_true e]
          refine (law_reached_ok hg (starts := ts) (fun v hv => ((hts v).mp hv).r hg) (by rw [List.length_map, rng_len]; omega) (by omega)).mono ?_
          rintro rr _ ⟨rl, rt⟩
          have hk := (rt j).trans (low_cyc hg all hts)
          refine Os_intro (show gIx rr (j : Int) = some (decide (Gr.Tr rr j)) by
            rw [gIx_lt (by omega) (by omega)]
            congr 1
            rw [Bool.eq_iff_iff, Gr.tr_get (by omega) (by omega), decide_eq_true_eq]) ?_
          by_cases q : Gr.Tr rr j
          · rw [if_pos (by simpa using q)]
            exact ⟨False.elim, fun ⟨_, w⟩ => w ⟨j, (tr j).mp ht, hp, hk.mp q⟩⟩
          · rw [if_neg (by simpa using q)]
            exact ⟨h1, by (first | assumption | rfl | trivial), h3, h4, h5, next fun _ _ => fun c => q (hk.mpr c)⟩
    · rw [if_neg (by simpa using ht)]
      exact ⟨h1, h2, by (first | assumption | rfl | trivial), h4, h5, next fun h => absurd h ht⟩
  · rintro s ⟨h1, h2, h3, h4, h5, h7⟩
    rw [rng_len] at h7
    refine ⟨fun _ => ⟨fun v hv => h6 v ((tr v).mpr hv), fun ⟨v, q1, q2, q3⟩ => h7 v (by have := ((tr v).mpr q1).lt; omega) ((tr v).mpr q1) q2 q3⟩, fun _ => by (first | assumption | rfl | trivial)⟩
end K35
/-! ## G35 -/
set_option Elab.async false
set_option linter.all false
set_option maxRecDepth 100000
set_option maxHeartbeats 4000000
namespace K35
open PySem PySem.Spec PyProof.Rows L2 Mn Ty
theorem choices_ok {G : C_Game} {p pos : Int} {ch : List Int} (hg : Gr.Ok G.moves) (ho : G.owners.length = G.moves.length) (hp : G.priorities.length = G.moves.length) (hl : ch.length = G.moves.length) (hc : ∀ c ∈ ch, c < G.moves.length) (hz : G.moves.length < 64) (hd : ∀ r ∈ G.moves, r.length ≤ 1000) :
    Ev (F_choices_win () (G, p, ch, pos, ())) (fun r _ => (0 ≤ pos ∧ pos < G.moves.length) ∧ (r = true ↔ Win G.priorities (lft G.owners G.moves p ch) p pos)) (fun C _ => C = "InvalidPosition" ∧ (pos < 0 ∨ (G.moves.length : Int) ≤ pos)) := by
  unfold F_choices_win
  apply Ev_yRun
  simp only [Ev_ok, Ev_exc, Os_some, Os_if, Ev_xC, Ev_xV, Ev_xN, Ev_xYes, Ev_x1, Ev_x1o, Ev_x2, Ev_x2o, Ev_xIxV, Ev_xIf, Ev_xAnd, Ev_xOr, Ev_xNot, Ev_xCs, Ev_xUn, Ev_xCh, Ev_xSl, Ev_xMeth, Ev_xCall, Ev_xMake, Ev_xComp, Po_nx, Po_yNil, Po_ySeq, Po_ySet, Po_yRet, Po_yRetC, Po_yExpr, Po_yIf, Po_yBreak, Po_yCont, Po_yRaise, Po_yFor, Po_ySetI, Po_yAugI, Po_yTry, gApp, gCat, gMul, gDiv, gMod, gPow, gRep, id, decide_eq_true_eq, Bool.not_eq_true', decide_eq_false_iff_not, Bool.false_eq_true, if_false, if_true, ite_true, ite_false]
  have h0 := lft_good (o := G.owners) (p := p) hg hl hc
  have hdl := lft_rows (o := G.owners) (p := p) hl hd
  have hlen : (lft G.owners G.moves p ch).length = G.moves.length := lft_len
  by_cases c1 : pos < 0
  · rw [if_pos c1]; exact ⟨trivial, .inl c1⟩
  rw [if_neg c1]
  by_cases c2 : (G.moves.length : Int) ≤ pos
  · rw [if_pos c2]; exact ⟨trivial, .inr c2⟩
  rw [if_neg c2]
  refine (chosen_ok ho hl hz).mono ?_ (fun _ _ h => h.elim)
  rintro g1 _ e1
  rw [e1]
  generalize lft G.owners G.moves p ch = g0 at h0 hdl hlen
  clear e1
  refine (reachable_ok h0 (starts := [pos]) (fun v hv => by rw [List.mem_singleton.mp hv]; exact ⟨by omega, by omega⟩) (by omega)).mono ?_ (fun _ _ h => h.elim)
  rintro sn i ⟨rfl, sl, st⟩
  have tr : ∀ v, Gr.Tr sn v ↔ Gr.Star (Gr.Ed g0) pos v := fun v => by
    rw [st]
    exact ⟨fun ⟨s, h1, h2⟩ => by rw [List.mem_singleton.mp h1] at h2; exact h2, fun h => ⟨pos, by simp, h⟩⟩
  have sn_get : ∀ k : Nat, k < g0.length → gIx sn (k : Int) = some (decide (Gr.Tr sn k)) := fun k h1 => by
    rw [gIx_lt (by omega) (by omega)]
    congr 1
    rw [Bool.eq_iff_iff, Gr.tr_get (by omega) (by omega), decide_eq_true_eq]
  dsimp only
  refine Os_intro (rng1 (by omega) (by omega)) ?_
  refine po_forB (fun j s => s.game = G ∧ s.player = p ∧ s.seen = sn ∧ s.moves.length = g0.length ∧ (∀ i : Nat, i < g0.length → s.moves[i]? = if i < j ∧ ¬ Gr.Tr sn i then some [] else g0[i]?) ∧ ∀ v : Int, v < j → Gr.Tr sn v → ∃ w, Gr.Ed g0 v w) (fun s => s.game = G ∧ s.player = p ∧ s.moves.length = g0.length ∧ (∀ i : Nat, i < g0.length → s.moves[i]? = if ¬ Gr.Tr sn i then some [] else g0[i]?) ∧ ∀ v : Int, Gr.Tr sn v → ∃ w, Gr.Ed g0 v w) ⟨rfl, rfl, rfl, rfl, fun i hi => by rw [if_neg (by omega)], fun v h t => by have := t.1; omega⟩ ?_ ?_ ?_
  · rintro j x s hx ⟨h1, h2, h3, h4, h5, h6⟩
    obtain ⟨rfl, hj⟩ := rng_get hx
    have hj : j < g0.length := by simpa using hj
    rw [Int.zero_add]
    have next : (Gr.Tr sn j → ∃ w, Gr.Ed g0 j w) → ∀ v : Int, v < (j + 1 : Nat) → Gr.Tr sn v → ∃ w, Gr.Ed g0 v w := fun k v hv ht => by
      by_cases q : v = j
      · subst q; exact k ht
      · exact h6 v (by omega) ht
    simp only [Ev_ok, Ev_exc, Os_some, Os_if, Ev_xC, Ev_xV, Ev_xN, Ev_xYes, Ev_x1, Ev_x1o, Ev_x2, Ev_x2o, Ev_xIxV, Ev_xIf, Ev_xAnd, Ev_xOr, Ev_xNot, Ev_xCs, Ev_xUn, Ev_xCh, Ev_xSl, Ev_xMeth, Ev_xCall, Ev_xMake, Ev_xComp, Po_nx, Po_yNil, Po_ySeq, Po_ySet, Po_yRet, Po_yRetC, Po_yExpr, Po_yIf, Po_yBreak, Po_yCont, Po_yRaise, Po_yFor, Po_ySetI, Po_yAugI, Po_yTry, gApp, gCat, gMul, gDiv, gMod, gPow, gRep, id, decide_eq_true_eq, Bool.not_eq_true', decide_eq_false_iff_not, Bool.false_eq_true, if_false, if_true, ite_true, ite_false]
    rw [show (s.put_k (j : Int)).seen = sn from h3]
    refine Os_intro (sn_get j hj) ?_
    by_cases ht : Gr.Tr sn j
    · rw [if_neg (by simpa using ht)]
      have row : g0[j]? = some g0[j] := List.getElem?_eq_getElem hj
      have rowm : s.moves[j]? = some g0[j] := by rw [h5 j hj, if_neg (by omega), row]
      refine Os_intro (gIx_nat (show (s.put_k (j : Int)).moves[j]? = _ from rowm)) ?_
      have hts : ∀ x, x ∈ g0[j] ↔ Gr.Ed g0 j x := fun x => ed_row row
      generalize g0[j] = ts at hts
      have keep : ∀ i : Nat, i < g0.length → s.moves[i]? = if i < j + 1 ∧ ¬ Gr.Tr sn i then some [] else g0[i]? := fun i hi => by
        rw [h5 i hi]
        by_cases q : i = j
        · subst q; rw [if_neg (by omega), if_neg (fun h => h.2 ht)]
        · by_cases q2 : i < j ∧ ¬ Gr.Tr sn i
          · rw [if_pos q2, if_pos ⟨by omega, q2.2⟩]
          · rw [if_neg q2, if_neg (fun h => q2 ⟨by omega, h.2⟩)]
      cases ts with
      | nil =>
        rw [if_pos (by simp)]
        refine ⟨⟨by omega, by omega⟩, fun h => (by cases h), fun ⟨w1, _⟩ => ?_⟩
        obtain ⟨w, e⟩ := w1 j ((tr j).mp ht)
        exact nomatch (hts w).mpr e
      | cons t ts =>
        rw [if_neg (by simp; omega)]
        exact ⟨by (first | assumption | rfl | trivial), by (first | assumption | rfl | trivial), by (first | assumption | rfl | trivial), h4, keep, next fun _ => ⟨t, (hts t).mp List.mem_cons_self⟩⟩
    · rw [if_pos (by simpa using ht)]
      refine Os_intro (gSetI_z (by omega) (by show (j : Int) < (s.moves.length : Int); omega)) ?_
      refine ⟨by (first | assumption | rfl | trivial), by (first | assumption | rfl | trivial), by (first | assumption | rfl | trivial), by show (s.moves.set _ _).length = _; rw [List.length_set]; exact h4, fun i hi => ?_, next fun h => absurd h ht⟩
      show (s.moves.set ((j : Int)).toNat [])[i]? = _
      rw [Int.toNat_natCast]
      by_cases q : i = j
      · subst q
        rw [List.getElem?_set_self (by omega), if_pos ⟨by omega, ht⟩]
      · rw [List.getElem?_set_ne (by omega), h5 i hi]
        by_cases q2 : i < j ∧ ¬ Gr.Tr sn i
        · rw [if_pos q2, if_pos ⟨by omega, q2.2⟩]
        · rw [if_neg q2, if_neg (fun h => q2 ⟨by omega, h.2⟩)]
  · rintro s ⟨h1, h2, h3, h4, h5, h6⟩
    rw [rng_len, Int.toNat_natCast] at h5 h6
    refine ⟨h1, h2, h4, fun i hi => ?_, fun v t => h6 v (by have := t.lt; omega) t⟩
    rw [h5 i hi]
    by_cases q : Gr.Tr sn i
    · rw [if_neg (fun h => h.2 q), if_neg (fun h => h q)]
    · rw [if_pos ⟨hi, q⟩, if_pos q]
  rintro s ⟨h1, h2, h4, h5, h6⟩
  have ed : ∀ u v, Gr.Ed s.moves u v ↔ Gr.Ed g0 u v ∧ Gr.Tr sn u := fun u v => by
    constructor
    · rintro ⟨u0, r, e, hv⟩
      have hu := (List.getElem?_eq_some_iff.mp e).1
      rw [h5 _ (by omega), Int.toNat_of_nonneg u0] at e
      by_cases q : Gr.Tr sn u
      · rw [if_neg (fun h => h q)] at e; exact ⟨⟨u0, r, e, hv⟩, q⟩
      · rw [if_pos q] at e; cases e; exact nomatch hv
    · rintro ⟨⟨u0, r, e, hv⟩, q⟩
      have hu := (List.getElem?_eq_some_iff.mp e).1
      exact ⟨u0, r, by rw [h5 _ hu, Int.toNat_of_nonneg u0, if_neg (fun h => h q)]; exact e, hv⟩
  have rows : ∀ r ∈ s.moves, r = [] ∨ r ∈ g0 := fun r hr => by
    obtain ⟨i, hi, e⟩ := List.getElem_of_mem hr
    have e2 : s.moves[i]? = some r := by rw [List.getElem?_eq_getElem hi, e]
    rw [h5 i (by omega)] at e2
    split at e2
    · cases e2; exact .inl rfl
    · exact .inr (List.mem_of_getElem? e2)
  have okm : Gr.Ok s.moves := fun r hr t ht => by
    rw [h4]
    rcases rows r hr with rfl | h
    · exact nomatch ht
    · exact h0 r h t ht
  rw [h1, h2]
  refine (has_bad_ok (p := p) okm (by omega) (by omega) (fun r hr => by
    rcases rows r hr with rfl | h
    · simp
    · exact hdl r h)).mono ?_ (fun _ _ h => h.elim)
  rintro b _ hb
  refine ⟨⟨by omega, by omega⟩, ?_⟩
  have key : Win G.priorities g0 p pos ↔ ¬ BadC G.priorities s.moves p := by
    have lowed : ∀ L u v, Gr.Ed (low G.priorities s.moves L) u v ↔ Gr.Ed (low G.priorities g0 L) u v ∧ Gr.Tr sn u := fun L u v => by
      rw [low_ed, low_ed, ed]
      exact ⟨fun ⟨⟨a, b⟩, c⟩ => ⟨⟨a, c⟩, b⟩, fun ⟨⟨a, c⟩, b⟩ => ⟨⟨a, b⟩, c⟩⟩
    constructor
    · rintro ⟨_, w⟩ ⟨v, v1, u, e, st⟩
      obtain ⟨a1, a2⟩ := (lowed _ _ _).mp e
      exact w ⟨v, (tr v).mp a2, v1, u, a1, st.mono fun a b e => ((lowed _ _ _).mp e).1⟩
    · intro nb
      refine ⟨fun v hv => h6 v ((tr v).mpr hv), ?_⟩
      rintro ⟨v, v0, v1, u, e, st⟩
      have tv := (tr v).mpr v0
      have cl : ∀ a b, Gr.Ed (low G.priorities g0 (pr G.priorities v)) a b → Gr.Tr sn a → Gr.Tr sn b := fun a b e t => (tr b).mpr (((tr a).mp t).snoc (low_ed.mp e).1)
      exact nb ⟨v, v1, u, (lowed _ _ _).mpr ⟨e, tv⟩, (star_with cl st (cl _ _ e tv)).mono fun a b e => (lowed _ _ _).mpr e⟩
  rw [key, ← hb]
  cases b <;> simp
end K35
/-! ## H35 -/
set_option Elab.async false
set_option linter.all false
set_option maxRecDepth 100000
set_option maxHeartbeats 4000000
namespace K35
open PySem PySem.Spec PyProof.Rows L2 Mn Ty
/-! ### ascending lists -/
theorem lasc_ok {ds : List Int} {n k : Int} (h0 : 0 ≤ n) (hn : n ≤ 1000) : Ev (F_law_ascending (ds, ()) (n, k, ())) (fun r _ => Gr.Asc r n) (fun _ _ => False) := by
  unfold F_law_ascending
  apply Ev_yRun
  simp only [Ev_ok, Ev_exc, Os_some, Os_if, Ev_xC, Ev_xV, Ev_xN, Ev_xYes, Ev_x1, Ev_x1o, Ev_x2, Ev_x2o, Ev_xIxV, Ev_xIf, Ev_xAnd, Ev_xOr, Ev_xNot, Ev_xCs, Ev_xUn, Ev_xCh, Ev_xSl, Ev_xMeth, Ev_xCall, Ev_xMake, Ev_xComp, Po_nx, Po_yNil, Po_ySeq, Po_ySet, Po_yRet, Po_yRetC, Po_yExpr, Po_yIf, Po_yBreak, Po_yCont, Po_yRaise, Po_yFor, Po_ySetI, Po_yAugI, Po_yTry, gApp, gCat, gMul, gDiv, gMod, gPow, gRep, id, decide_eq_true_eq, Bool.not_eq_true', decide_eq_false_iff_not, Bool.false_eq_true, if_false, if_true, ite_true, ite_false]
  refine Os_intro (rng1 (by omega) (by omega)) ?_
  refine comp_inv (fun ys acc s => acc.Sublist ys) (List.Sublist.refl _) ?_ ?_
  · rintro ys zs x acc s e1 hs
    simp only [Ev_ok, Ev_exc, Os_some, Os_if, Ev_xC, Ev_xV, Ev_xN, Ev_xYes, Ev_x1, Ev_x1o, Ev_x2, Ev_x2o, Ev_xIxV, Ev_xIf, Ev_xAnd, Ev_xOr, Ev_xNot, Ev_xCs, Ev_xUn, Ev_xCh, Ev_xSl, Ev_xMeth, Ev_xCall, Ev_xMake, Ev_xComp, Po_nx, Po_yNil, Po_ySeq, Po_ySet, Po_yRet, Po_yRetC, Po_yExpr, Po_yIf, Po_yBreak, Po_yCont, Po_yRaise, Po_yFor, Po_ySetI, Po_yAugI, Po_yTry, gApp, gCat, gMul, gDiv, gMod, gPow, gRep, id, decide_eq_true_eq, Bool.not_eq_true', decide_eq_false_iff_not, Bool.false_eq_true, if_false, if_true, ite_true, ite_false]
    refine (take_ok (k := 10) (by decide)).mono ?_
    rintro r i ⟨r0, r1⟩
    have hl : acc.length < sizeLine := by
      have := hs.length_le
      have e := congrArg List.length e1
      rw [rng_len, List.length_append, List.length_cons] at e
      rw [sizeLine_eq]; omega
    split
    · exact ⟨hl, hs.append (List.Sublist.refl _)⟩
    · exact hs.trans (List.sublist_append_left _ _)
  · rintro acc s hs
    have := Gr.asc_sub (n := n.toNat) hs
    rwa [Int.toNat_of_nonneg h0] at this
structure VG (o ps : List Int) (g : List (List Int)) : Prop where
  lo : o.length = g.length
  lp : ps.length = g.length
  pos : 0 < g.length
  sz : g.length ≤ 6
  own : ∀ x ∈ o, x = 0 ∨ x = 1
  pri : ∀ x ∈ ps, 0 ≤ x
  rows : ∀ r ∈ g, r ≠ [] ∧ Gr.Asc r g.length
theorem VG.ok {o ps : List Int} {g : List (List Int)} (v : VG o ps g) : Gr.Ok g := fun r hr t ht => (v.rows r hr).2.2 t ht
theorem VG.len {o ps : List Int} {g : List (List Int)} (v : VG o ps g) : ∀ r ∈ g, r.length ≤ 6 := fun r hr => by
  have := (v.rows r hr).2.len
  have := v.sz
  omega
theorem game_ok {o ps : List Int} {g : List (List Int)} (V : VG o ps g) : Ev (F_Game_init (o, ps, g, ())) (fun G _ => G.owners = o ∧ G.priorities = ps ∧ G.moves = g) (fun _ _ => False) := by
  have h1 := V.sz
  have h2 := V.pos
  unfold F_Game_init
  apply Ev_yInit
  simp only [Ev_ok, Ev_exc, Os_some, Os_if, Ev_xC, Ev_xV, Ev_xN, Ev_xYes, Ev_x1, Ev_x1o, Ev_x2, Ev_x2o, Ev_xIxV, Ev_xIf, Ev_xAnd, Ev_xOr, Ev_xNot, Ev_xCs, Ev_xUn, Ev_xCh, Ev_xSl, Ev_xMeth, Ev_xCall, Ev_xMake, Ev_xComp, Po_nx, Po_yNil, Po_ySeq, Po_ySet, Po_yRet, Po_yRetC, Po_yExpr, Po_yIf, Po_yBreak, Po_yCont, Po_yRaise, Po_yFor, Po_ySetI, Po_yAugI, Po_yTry, gApp, gCat, gMul, gDiv, gMod, gPow, gRep, id, decide_eq_true_eq, Bool.not_eq_true', decide_eq_false_iff_not, Bool.false_eq_true, if_false, if_true, ite_true, ite_false]
  have lo := V.lo
  have lp := V.lp
  rw [if_pos (by omega), if_pos (by omega)]
  refine po_forB (fun _ s => s.count = (g.length : Int) ∧ s.owners = o ∧ s.priorities = ps ∧ s.moves = g ∧ s.valid = true) (fun s => s.count = (g.length : Int) ∧ s.owners = o ∧ s.priorities = ps ∧ s.moves = g ∧ s.valid = true) ⟨rfl, rfl, rfl, rfl, decide_eq_true (by omega)⟩ ?_ (fun s h => h) ?_
  · rintro j x s hx ⟨k1, k2, k3, k4, k5⟩
    simp only [Ev_ok, Ev_exc, Os_some, Os_if, Ev_xC, Ev_xV, Ev_xN, Ev_xYes, Ev_x1, Ev_x1o, Ev_x2, Ev_x2o, Ev_xIxV, Ev_xIf, Ev_xAnd, Ev_xOr, Ev_xNot, Ev_xCs, Ev_xUn, Ev_xCh, Ev_xSl, Ev_xMeth, Ev_xCall, Ev_xMake, Ev_xComp, Po_nx, Po_yNil, Po_ySeq, Po_ySet, Po_yRet, Po_yRetC, Po_yExpr, Po_yIf, Po_yBreak, Po_yCont, Po_yRaise, Po_yFor, Po_ySetI, Po_yAugI, Po_yTry, gApp, gCat, gMul, gDiv, gMod, gPow, gRep, id, decide_eq_true_eq, Bool.not_eq_true', decide_eq_false_iff_not, Bool.false_eq_true, if_false, if_true, ite_true, ite_false]
    rw [show (s.put_owner x).valid = true from k5]
    simp only [if_true]
    rcases V.own x (List.mem_of_getElem? hx) with q | q
    · rw [if_pos (show x = 0 from q)]; exact ⟨by (first | assumption | rfl | trivial), by (first | assumption | rfl | trivial), by (first | assumption | rfl | trivial), by (first | assumption | rfl | trivial), by (first | assumption | rfl | trivial)⟩
    · rw [if_neg (show ¬ x = 0 by omega)]
      exact ⟨by (first | assumption | rfl | trivial), by (first | assumption | rfl | trivial), by (first | assumption | rfl | trivial), by (first | assumption | rfl | trivial), q⟩
  rintro s ⟨k1, k2, k3, k4, k5⟩
  rw [k3]
  refine po_forB (fun _ s => s.count = (g.length : Int) ∧ s.owners = o ∧ s.priorities = ps ∧ s.moves = g ∧ s.valid = true) (fun s => s.count = (g.length : Int) ∧ s.owners = o ∧ s.priorities = ps ∧ s.moves = g ∧ s.valid = true) ⟨k1, k2, k3, k4, k5⟩ ?_ (fun s h => h) ?_
  · rintro j x s hx ⟨k1, k2, k3, k4, k5⟩
    simp only [Ev_ok, Ev_exc, Os_some, Os_if, Ev_xC, Ev_xV, Ev_xN, Ev_xYes, Ev_x1, Ev_x1o, Ev_x2, Ev_x2o, Ev_xIxV, Ev_xIf, Ev_xAnd, Ev_xOr, Ev_xNot, Ev_xCs, Ev_xUn, Ev_xCh, Ev_xSl, Ev_xMeth, Ev_xCall, Ev_xMake, Ev_xComp, Po_nx, Po_yNil, Po_ySeq, Po_ySet, Po_yRet, Po_yRetC, Po_yExpr, Po_yIf, Po_yBreak, Po_yCont, Po_yRaise, Po_yFor, Po_ySetI, Po_yAugI, Po_yTry, gApp, gCat, gMul, gDiv, gMod, gPow, gRep, id, decide_eq_true_eq, Bool.not_eq_true', decide_eq_false_iff_not, Bool.false_eq_true, if_false, if_true, ite_true, ite_false]
    rw [show (s.put_priority x).valid = true from k5]
    simp only [if_true]
    exact ⟨by (first | assumption | rfl | trivial), by (first | assumption | rfl | trivial), by (first | assumption | rfl | trivial), by (first | assumption | rfl | trivial), V.pri x (List.mem_of_getElem? hx)⟩
  rintro s ⟨k1, k2, k3, k4, k5⟩
  rw [k4]
  refine po_forB (fun _ s => s.count = (g.length : Int) ∧ s.owners = o ∧ s.priorities = ps ∧ s.moves = g ∧ s.valid = true) (fun s => s.count = (g.length : Int) ∧ s.owners = o ∧ s.priorities = ps ∧ s.moves = g ∧ s.valid = true) ⟨k1, k2, k3, k4, k5⟩ ?_ (fun s h => h) ?_
  · rintro j r s hx ⟨k1, k2, k3, k4, k5⟩
    obtain ⟨r1, r2⟩ := V.rows r (List.mem_of_getElem? hx)
    have rp : 0 < r.length := List.length_pos_iff.mpr r1
    simp only [Ev_ok, Ev_exc, Os_some, Os_if, Ev_xC, Ev_xV, Ev_xN, Ev_xYes, Ev_x1, Ev_x1o, Ev_x2, Ev_x2o, Ev_xIxV, Ev_xIf, Ev_xAnd, Ev_xOr, Ev_xNot, Ev_xCs, Ev_xUn, Ev_xCh, Ev_xSl, Ev_xMeth, Ev_xCall, Ev_xMake, Ev_xComp, Po_nx, Po_yNil, Po_ySeq, Po_ySet, Po_yRet, Po_yRetC, Po_yExpr, Po_yIf, Po_yBreak, Po_yCont, Po_yRaise, Po_yFor, Po_ySetI, Po_yAugI, Po_yTry, gApp, gCat, gMul, gDiv, gMod, gPow, gRep, id, decide_eq_true_eq, Bool.not_eq_true', decide_eq_false_iff_not, Bool.false_eq_true, if_false, if_true, ite_true, ite_false]
    rw [show (s.put_targets r).valid = true from k5]
    simp only [if_true]
    refine po_forP (fun ys s => (∀ zs, r = ys ++ zs → ∀ t ∈ zs, s.last < t) ∧ s.count = (g.length : Int) ∧ s.owners = o ∧ s.priorities = ps ∧ s.moves = g ∧ s.valid = true) ⟨fun zs e t ht => ?_, k1, k2, k3, k4, decide_eq_true (by omega)⟩ ?_ (fun s h => h.2)
    · show (-1 : Int) < t
      have := (r2.2 t (by rw [e]; simpa using ht)).1
      omega
    · rintro ys zs x s e ⟨k0, k1, k2, k3, k4, k5⟩
      have a1 := k0 _ e x List.mem_cons_self
      have a2 := (r2.2 x (by rw [e]; simp)).2
      simp only [Ev_ok, Ev_exc, Os_some, Os_if, Ev_xC, Ev_xV, Ev_xN, Ev_xYes, Ev_x1, Ev_x1o, Ev_x2, Ev_x2o, Ev_xIxV, Ev_xIf, Ev_xAnd, Ev_xOr, Ev_xNot, Ev_xCs, Ev_xUn, Ev_xCh, Ev_xSl, Ev_xMeth, Ev_xCall, Ev_xMake, Ev_xComp, Po_nx, Po_yNil, Po_ySeq, Po_ySet, Po_yRet, Po_yRetC, Po_yExpr, Po_yIf, Po_yBreak, Po_yCont, Po_yRaise, Po_yFor, Po_ySetI, Po_yAugI, Po_yTry, gApp, gCat, gMul, gDiv, gMod, gPow, gRep, id, decide_eq_true_eq, Bool.not_eq_true', decide_eq_false_iff_not, Bool.false_eq_true, if_false, if_true, ite_true, ite_false]
      rw [show (s.put_target x).valid = true from k5]
      simp only [if_true]
      rw [if_pos (show s.last < x from a1)]
      refine ⟨fun zs2 e2 t ht => ?_, by (first | assumption | rfl | trivial), by (first | assumption | rfl | trivial), by (first | assumption | rfl | trivial), by (first | assumption | rfl | trivial), by show x < s.count; rw [k1]; exact a2⟩
      show x < t
      have pw := r2.1
      rw [e2, List.append_assoc, List.pairwise_append] at pw
      exact (List.pairwise_cons.mp pw.2.1).1 t ht
  rintro s ⟨k1, k2, k3, k4, k5⟩
  rw [if_neg (by rw [k5]; simp), k4]
  refine comp_mapP (fun s => s.self_owners = o ∧ s.self_priorities = ps) (fun r => r) ⟨k2, k3⟩ (by omega) ?_ ?_
  · rintro r hr s ⟨q1, q2⟩
    simp only [Ev_ok, Ev_exc, Os_some, Os_if, Ev_xC, Ev_xV, Ev_xN, Ev_xYes, Ev_x1, Ev_x1o, Ev_x2, Ev_x2o, Ev_xIxV, Ev_xIf, Ev_xAnd, Ev_xOr, Ev_xNot, Ev_xCs, Ev_xUn, Ev_xCh, Ev_xSl, Ev_xMeth, Ev_xCall, Ev_xMake, Ev_xComp, Po_nx, Po_yNil, Po_ySeq, Po_ySet, Po_yRet, Po_yRetC, Po_yExpr, Po_yIf, Po_yBreak, Po_yCont, Po_yRaise, Po_yFor, Po_ySetI, Po_yAugI, Po_yTry, gApp, gCat, gMul, gDiv, gMod, gPow, gRep, id, decide_eq_true_eq, Bool.not_eq_true', decide_eq_false_iff_not, Bool.false_eq_true, if_false, if_true, ite_true, ite_false]
    exact ⟨by (first | assumption | rfl | trivial), by (first | assumption | rfl | trivial), by (first | assumption | rfl | trivial)⟩
  · rintro s ⟨q1, q2⟩
    rw [List.map_id']
    refine (reversed_ok V.ok (by omega) (fun r hr => by have := V.len r hr; omega)).mono ?_ (fun _ _ h => h)
    exact fun b _ _ => ⟨q1, q2, rfl⟩
theorem flat_ok {g : List (List Int)} (hz : g.length ≤ 1000) : Ev (F_law_flat () (g, ())) (fun r _ => r = g) (fun _ _ => False) := by
  unfold F_law_flat
  apply Ev_yRun
  simp only [Ev_ok, Ev_exc, Os_some, Os_if, Ev_xC, Ev_xV, Ev_xN, Ev_xYes, Ev_x1, Ev_x1o, Ev_x2, Ev_x2o, Ev_xIxV, Ev_xIf, Ev_xAnd, Ev_xOr, Ev_xNot, Ev_xCs, Ev_xUn, Ev_xCh, Ev_xSl, Ev_xMeth, Ev_xCall, Ev_xMake, Ev_xComp, Po_nx, Po_yNil, Po_ySeq, Po_ySet, Po_yRet, Po_yRetC, Po_yExpr, Po_yIf, Po_yBreak, Po_yCont, Po_yRaise, Po_yFor, Po_ySetI, Po_yAugI, Po_yTry, gApp, gCat, gMul, gDiv, gMod, gPow, gRep, id, decide_eq_true_eq, Bool.not_eq_true', decide_eq_false_iff_not, Bool.false_eq_true, if_false, if_true, ite_true, ite_false]
  refine comp_mapP (fun _ => True) (fun r => r) trivial (by show g.length ≤ _; omega) ?_ ?_
  · rintro r hr s _
    simp only [Ev_ok, Ev_exc, Os_some, Os_if, Ev_xC, Ev_xV, Ev_xN, Ev_xYes, Ev_x1, Ev_x1o, Ev_x2, Ev_x2o, Ev_xIxV, Ev_xIf, Ev_xAnd, Ev_xOr, Ev_xNot, Ev_xCs, Ev_xUn, Ev_xCh, Ev_xSl, Ev_xMeth, Ev_xCall, Ev_xMake, Ev_xComp, Po_nx, Po_yNil, Po_ySeq, Po_ySet, Po_yRet, Po_yRetC, Po_yExpr, Po_yIf, Po_yBreak, Po_yCont, Po_yRaise, Po_yFor, Po_ySetI, Po_yAugI, Po_yTry, gApp, gCat, gMul, gDiv, gMod, gPow, gRep, id, decide_eq_true_eq, Bool.not_eq_true', decide_eq_false_iff_not, Bool.false_eq_true, if_false, if_true, ite_true, ite_false]
    exact ⟨trivial, trivial⟩
  · rintro s _
    rw [List.map_id']
theorem outcome_ok {G : C_Game} {p pos : Int} {ch : List Int} {o ps : List Int} {g : List (List Int)} (V : VG o ps g) (e1 : G.owners = o) (e2 : G.priorities = ps) (e3 : G.moves = g) (hl : ch.length = g.length) (hc : ∀ c ∈ ch, c < g.length) :
    Ev (F_law_outcome () (G, p, ch, pos, ())) (fun r _ => (0 ≤ pos ∧ pos < g.length → ∃ b, r = some b ∧ (b = true ↔ Win ps (lft o g p ch) p pos)) ∧ (pos < 0 ∨ (g.length : Int) ≤ pos → r = none)) (fun _ _ => False) := by
  subst e1 e2 e3
  unfold F_law_outcome
  apply Ev_yRun
  simp only [Ev_ok, Ev_exc, Os_some, Os_if, Ev_xC, Ev_xV, Ev_xN, Ev_xYes, Ev_x1, Ev_x1o, Ev_x2, Ev_x2o, Ev_xIxV, Ev_xIf, Ev_xAnd, Ev_xOr, Ev_xNot, Ev_xCs, Ev_xUn, Ev_xCh, Ev_xSl, Ev_xMeth, Ev_xCall, Ev_xMake, Ev_xComp, Po_nx, Po_yNil, Po_ySeq, Po_ySet, Po_yRet, Po_yRetC, Po_yExpr, Po_yIf, Po_yBreak, Po_yCont, Po_yRaise, Po_yFor, Po_ySetI, Po_yAugI, Po_yTry, gApp, gCat, gMul, gDiv, gMod, gPow, gRep, id, decide_eq_true_eq, Bool.not_eq_true', decide_eq_false_iff_not, Bool.false_eq_true, if_false, if_true, ite_true, ite_false]
  have := V.sz
  refine (choices_ok V.ok V.lo V.lp hl hc (by omega) (fun r hr => by have := V.len r hr; omega)).mono ?_ ?_
  · rintro b _ ⟨h1, h2⟩
    exact ⟨fun _ => ⟨b, rfl, h2⟩, fun h => by omega⟩
  · rintro C _ ⟨rfl, h⟩
    show Po _ _ _ _ _ _
    simp only [Ev_ok, Ev_exc, Os_some, Os_if, Ev_xC, Ev_xV, Ev_xN, Ev_xYes, Ev_x1, Ev_x1o, Ev_x2, Ev_x2o, Ev_xIxV, Ev_xIf, Ev_xAnd, Ev_xOr, Ev_xNot, Ev_xCs, Ev_xUn, Ev_xCh, Ev_xSl, Ev_xMeth, Ev_xCall, Ev_xMake, Ev_xComp, Po_nx, Po_yNil, Po_ySeq, Po_ySet, Po_yRet, Po_yRetC, Po_yExpr, Po_yIf, Po_yBreak, Po_yCont, Po_yRaise, Po_yFor, Po_ySetI, Po_yAugI, Po_yTry, gApp, gCat, gMul, gDiv, gMod, gPow, gRep, id, decide_eq_true_eq, Bool.not_eq_true', decide_eq_false_iff_not, Bool.false_eq_true, if_false, if_true, ite_true, ite_false]
    exact ⟨fun k => by omega, fun _ => by (first | assumption | rfl | trivial)⟩
end K35
/-! ## L35 -/
set_option Elab.async false
set_option linter.all false
set_option maxRecDepth 100000
set_option maxHeartbeats 4000000
namespace K35
open PySem PySem.Spec PyProof.Rows L2 Mn Ty
theorem lgame_ok {ds : List Int} : Ev (F_law_game (ds, ()) (6, ())) (fun r _ => VG r.1 r.2.1 r.2.2) (fun _ _ => False) := by
  unfold F_law_game
  apply Ev_yRun
  simp only [Ev_ok, Ev_exc, Os_some, Os_if, Ev_xC, Ev_xV, Ev_xN, Ev_xYes, Ev_x1, Ev_x1o, Ev_x2, Ev_x2o, Ev_xIxV, Ev_xIf, Ev_xAnd, Ev_xOr, Ev_xNot, Ev_xCs, Ev_xUn, Ev_xCh, Ev_xSl, Ev_xMeth, Ev_xCall, Ev_xMake, Ev_xComp, Po_nx, Po_yNil, Po_ySeq, Po_ySet, Po_yRet, Po_yRetC, Po_yExpr, Po_yIf, Po_yBreak, Po_yCont, Po_yRaise, Po_yFor, Po_ySetI, Po_yAugI, Po_yTry, gApp, gCat, gMul, gDiv, gMod, gPow, gRep, id, decide_eq_true_eq, Bool.not_eq_true', decide_eq_false_iff_not, Bool.false_eq_true, if_false, if_true, ite_true, ite_false]
  refine (take_ok (k := 6) (by decide)).mono ?_
  rintro c _ ⟨c0, c1⟩
  refine (take_ok (k := 5) (by decide)).mono ?_
  rintro t _ ⟨t0, t1⟩
  refine Os_intro (rng1 (by omega) (by omega)) ?_
  refine comp_inv (fun ys acc s => s.lcount = 1 + c ∧ s.ltop = 1 + t ∧ acc.length = ys.length ∧ ∀ x ∈ acc, x = 0 ∨ x = 1) ⟨rfl, rfl, rfl, fun x h => nomatch h⟩ ?_ ?_
  · rintro ys zs x acc s e1 ⟨h1, h2, h3, h4⟩
    simp only [Ev_ok, Ev_exc, Os_some, Os_if, Ev_xC, Ev_xV, Ev_xN, Ev_xYes, Ev_x1, Ev_x1o, Ev_x2, Ev_x2o, Ev_xIxV, Ev_xIf, Ev_xAnd, Ev_xOr, Ev_xNot, Ev_xCs, Ev_xUn, Ev_xCh, Ev_xSl, Ev_xMeth, Ev_xCall, Ev_xMake, Ev_xComp, Po_nx, Po_yNil, Po_ySeq, Po_ySet, Po_yRet, Po_yRetC, Po_yExpr, Po_yIf, Po_yBreak, Po_yCont, Po_yRaise, Po_yFor, Po_ySetI, Po_yAugI, Po_yTry, gApp, gCat, gMul, gDiv, gMod, gPow, gRep, id, decide_eq_true_eq, Bool.not_eq_true', decide_eq_false_iff_not, Bool.false_eq_true, if_false, if_true, ite_true, ite_false]
    refine (take_ok (k := 2) (by decide)).mono ?_
    rintro r _ ⟨r0, r1⟩
    have e := congrArg List.length e1
    rw [rng_len, List.length_append, List.length_cons] at e
    refine ⟨by rw [sizeLine_eq]; omega, by (first | assumption | rfl | trivial), by (first | assumption | rfl | trivial), by simp [h3], fun y hy => ?_⟩
    rcases List.mem_append.mp hy with hy | hy
    · exact h4 y hy
    · rw [List.mem_singleton.mp hy]; omega
  rintro os s ⟨h1, h2, h3, h4⟩
  rw [rng_len] at h3
  simp only [Ev_ok, Ev_exc, Os_some, Os_if, Ev_xC, Ev_xV, Ev_xN, Ev_xYes, Ev_x1, Ev_x1o, Ev_x2, Ev_x2o, Ev_xIxV, Ev_xIf, Ev_xAnd, Ev_xOr, Ev_xNot, Ev_xCs, Ev_xUn, Ev_xCh, Ev_xSl, Ev_xMeth, Ev_xCall, Ev_xMake, Ev_xComp, Po_nx, Po_yNil, Po_ySeq, Po_ySet, Po_yRet, Po_yRetC, Po_yExpr, Po_yIf, Po_yBreak, Po_yCont, Po_yRaise, Po_yFor, Po_ySetI, Po_yAugI, Po_yTry, gApp, gCat, gMul, gDiv, gMod, gPow, gRep, id, decide_eq_true_eq, Bool.not_eq_true', decide_eq_false_iff_not, Bool.false_eq_true, if_false, if_true, ite_true, ite_false]
  rw [show (s.put_lowners os).lcount = 1 + c from h1]
  refine Os_intro (rng1 (by omega) (by omega)) ?_
  refine comp_inv (fun ys acc s => s.lcount = 1 + c ∧ s.ltop = 1 + t ∧ s.lowners = os ∧ acc.length = ys.length ∧ ∀ x ∈ acc, 0 ≤ x) ⟨h1, h2, rfl, rfl, fun x h => nomatch h⟩ ?_ ?_
  · rintro ys zs x acc s e1 ⟨h1, h2, h5, h3, h4⟩
    simp only [Ev_ok, Ev_exc, Os_some, Os_if, Ev_xC, Ev_xV, Ev_xN, Ev_xYes, Ev_x1, Ev_x1o, Ev_x2, Ev_x2o, Ev_xIxV, Ev_xIf, Ev_xAnd, Ev_xOr, Ev_xNot, Ev_xCs, Ev_xUn, Ev_xCh, Ev_xSl, Ev_xMeth, Ev_xCall, Ev_xMake, Ev_xComp, Po_nx, Po_yNil, Po_ySeq, Po_ySet, Po_yRet, Po_yRetC, Po_yExpr, Po_yIf, Po_yBreak, Po_yCont, Po_yRaise, Po_yFor, Po_ySetI, Po_yAugI, Po_yTry, gApp, gCat, gMul, gDiv, gMod, gPow, gRep, id, decide_eq_true_eq, Bool.not_eq_true', decide_eq_false_iff_not, Bool.false_eq_true, if_false, if_true, ite_true, ite_false]
    rw [show (s.put_lk_c1 x).ltop = 1 + t from h2]
    refine (take_ok (k := 1 + t) (by omega)).mono ?_
    rintro r _ ⟨r0, r1⟩
    have e := congrArg List.length e1
    rw [rng_len, List.length_append, List.length_cons] at e
    refine ⟨by rw [sizeLine_eq]; omega, by (first | assumption | rfl | trivial), by (first | assumption | rfl | trivial), by (first | assumption | rfl | trivial), by simp [h3], fun y hy => ?_⟩
    rcases List.mem_append.mp hy with hy | hy
    · exact h4 y hy
    · rw [List.mem_singleton.mp hy]; exact r0
  rintro ps s ⟨h1, h2, h5, h6, h7⟩
  rw [rng_len] at h6
  simp only [Ev_ok, Ev_exc, Os_some, Os_if, Ev_xC, Ev_xV, Ev_xN, Ev_xYes, Ev_x1, Ev_x1o, Ev_x2, Ev_x2o, Ev_xIxV, Ev_xIf, Ev_xAnd, Ev_xOr, Ev_xNot, Ev_xCs, Ev_xUn, Ev_xCh, Ev_xSl, Ev_xMeth, Ev_xCall, Ev_xMake, Ev_xComp, Po_nx, Po_yNil, Po_ySeq, Po_ySet, Po_yRet, Po_yRetC, Po_yExpr, Po_yIf, Po_yBreak, Po_yCont, Po_yRaise, Po_yFor, Po_ySetI, Po_yAugI, Po_yTry, gApp, gCat, gMul, gDiv, gMod, gPow, gRep, id, decide_eq_true_eq, Bool.not_eq_true', decide_eq_false_iff_not, Bool.false_eq_true, if_false, if_true, ite_true, ite_false]
  refine (take_ok (k := 4) (by decide)).mono ?_
  rintro sh _ _
  rw [show s.lcount = 1 + c from h1]
  refine Os_intro (rng1 (by omega) (by omega)) ?_
  refine po_forL (fun j s => s.lcount = 1 + c ∧ s.lowners = os ∧ s.lpriorities = ps ∧ s.lmoves.length = j ∧ ∀ r ∈ s.lmoves, r ≠ [] ∧ Gr.Asc r (1 + c)) ⟨h1, h5, rfl, rfl, fun r h => nomatch h⟩ ?_ ?_
  · rintro j x s hx ⟨k1, k2, k3, k4, k5⟩
    obtain ⟨rfl, hj⟩ := rng_get hx
    simp only [Ev_ok, Ev_exc, Os_some, Os_if, Ev_xC, Ev_xV, Ev_xN, Ev_xYes, Ev_x1, Ev_x1o, Ev_x2, Ev_x2o, Ev_xIxV, Ev_xIf, Ev_xAnd, Ev_xOr, Ev_xNot, Ev_xCs, Ev_xUn, Ev_xCh, Ev_xSl, Ev_xMeth, Ev_xCall, Ev_xMake, Ev_xComp, Po_nx, Po_yNil, Po_ySeq, Po_ySet, Po_yRet, Po_yRetC, Po_yExpr, Po_yIf, Po_yBreak, Po_yCont, Po_yRaise, Po_yFor, Po_ySetI, Po_yAugI, Po_yTry, gApp, gCat, gMul, gDiv, gMod, gPow, gRep, id, decide_eq_true_eq, Bool.not_eq_true', decide_eq_false_iff_not, Bool.false_eq_true, if_false, if_true, ite_true, ite_false]
    rw [show (s.put_lk (0 + (j : Int))).lcount = 1 + c from k1]
    refine (lasc_ok (by omega) (by omega)).mono ?_
    rintro row _ ha
    have add : ∀ (row : List Int), row ≠ [] ∧ Gr.Asc row (1 + c) → ∀ r ∈ s.lmoves ++ [row], r ≠ [] ∧ Gr.Asc r (1 + c) := fun row h r hr => by
      rcases List.mem_append.mp hr with hr | hr
      · exact k5 r hr
      · rw [List.mem_singleton.mp hr]; exact h
    split
    · refine (take_ok (k := 1 + c) (by omega)).mono ?_
      rintro z _ ⟨z0, z1⟩
      refine ⟨by show s.lmoves.length < _; rw [sizeLine_eq]; omega, by (first | assumption | rfl | trivial), by (first | assumption | rfl | trivial), by (first | assumption | rfl | trivial), by show (s.lmoves ++ [_]).length = _; simp [k4], add _ ⟨by simp, by simp, fun y hy => by rw [List.mem_singleton.mp hy]; exact ⟨z0, z1⟩⟩⟩
    · rename_i hne
      refine ⟨by show s.lmoves.length < _; rw [sizeLine_eq]; omega, by (first | assumption | rfl | trivial), by (first | assumption | rfl | trivial), by (first | assumption | rfl | trivial), by show (s.lmoves ++ [_]).length = _; simp [k4], add _ ⟨fun e => hne ?_, ha⟩⟩
      show (row.length : Int) = 0
      rw [show row = [] from e]; rfl
  · rintro s ⟨k1, k2, k3, k4, k5⟩
    rw [rng_len] at k4
    have el : (s.lmoves.length : Int) = 1 + c := by omega
    exact ⟨by show s.lowners.length = s.lmoves.length; rw [k2]; omega, by show s.lpriorities.length = s.lmoves.length; rw [k3]; omega, by show 0 < s.lmoves.length; omega, by show s.lmoves.length ≤ 6; omega, by show ∀ x ∈ s.lowners, _; rw [k2]; exact h4, by show ∀ x ∈ s.lpriorities, _; rw [k3]; exact h7, by show ∀ r ∈ s.lmoves, r ≠ [] ∧ Gr.Asc r (s.lmoves.length : Int); rw [el]; exact k5⟩
theorem lft_same {o : List Int} {g : List (List Int)} {p : Int} {ch oth : List Int} (ho : o.length = g.length) (h : ∀ i : Nat, i < g.length → o.getD i 0 = p → oth[i]? = ch[i]?) : lft o g p oth = lft o g p ch := by
  unfold lft
  refine List.map_congr_left fun i hi => ?_
  rw [List.mem_range] at hi
  by_cases c : o.getD i 0 = p
  · rw [if_pos c, if_pos c, List.getD_eq_getElem?_getD, List.getD_eq_getElem?_getD, h i hi c]
  · rw [if_neg c, if_neg c]
theorem law_ok (ns : List Int) (hl : ns.length ≤ 63) : F_law () (ns, ()) = .ok true () := by
  apply Ev.ok
  unfold F_law
  apply Ev_yRun
  simp only [Ev_ok, Ev_exc, Os_some, Os_if, Ev_xC, Ev_xV, Ev_xN, Ev_xYes, Ev_x1, Ev_x1o, Ev_x2, Ev_x2o, Ev_xIxV, Ev_xIf, Ev_xAnd, Ev_xOr, Ev_xNot, Ev_xCs, Ev_xUn, Ev_xCh, Ev_xSl, Ev_xMeth, Ev_xCall, Ev_xMake, Ev_xComp, Po_nx, Po_yNil, Po_ySeq, Po_ySet, Po_yRet, Po_yRetC, Po_yExpr, Po_yIf, Po_yBreak, Po_yCont, Po_yRaise, Po_yFor, Po_ySetI, Po_yAugI, Po_yTry, gApp, gCat, gMul, gDiv, gMod, gPow, gRep, id, decide_eq_true_eq, Bool.not_eq_true', decide_eq_false_iff_not, Bool.false_eq_true, if_false, if_true, ite_true, ite_false]
  refine (draws_ok hl (by decide) (by decide)).mono ?_
  rintro ds _ _
  refine lgame_ok.mono ?_
  rintro ⟨o, ps, g⟩ _ V
  have V : VG o ps g := V
  have sz := V.sz
  have pos := V.pos
  refine (flat_ok (by show g.length ≤ _; omega)).mono ?_
  rintro g2 _ e2
  rw [e2]
  refine (game_ok V).mono ?_ (fun _ _ h => h)
  rintro G _ ⟨G1, G2, G3⟩
  refine (take_ok (k := 2) (by decide)).mono ?_
  rintro p _ _
  dsimp only
  refine Os_intro (rng1 (by omega) (by omega)) ?_
  refine po_forB (fun j s => s.lmoves = g ∧ s.lowners = o ∧ s.lpriorities = ps ∧ s.lplayer = p ∧ s.lgame_here = G ∧ s.lchoices.length = j ∧ s.lother.length = j ∧ (∀ c ∈ s.lchoices, c < (g.length : Int)) ∧ (∀ c ∈ s.lother, c < (g.length : Int)) ∧ ∀ i : Nat, i < j → o.getD i 0 = p → s.lother[i]? = s.lchoices[i]?) (fun s => s.lmoves = g ∧ s.lowners = o ∧ s.lpriorities = ps ∧ s.lplayer = p ∧ s.lgame_here = G ∧ s.lchoices.length = g.length ∧ s.lother.length = g.length ∧ (∀ c ∈ s.lchoices, c < (g.length : Int)) ∧ (∀ c ∈ s.lother, c < (g.length : Int)) ∧ ∀ i : Nat, i < g.length → o.getD i 0 = p → s.lother[i]? = s.lchoices[i]?) ⟨rfl, rfl, rfl, rfl, rfl, rfl, rfl, fun x h => (nomatch h), fun x h => (nomatch h), fun i h => by omega⟩ ?_ ?_ ?_
  · rintro j x s hx ⟨h1, h2, h3, h4, h5, h6, h7, h8, h9, h10⟩
    obtain ⟨rfl, hj⟩ := rng_get hx
    have hj : j < g.length := by simpa using hj
    rw [Int.zero_add]
    have add : ∀ (cc oo : Int), cc < g.length → oo < g.length → (o.getD j 0 = p → oo = cc) → (s.lchoices ++ [cc]).length = j + 1 ∧ (s.lother ++ [oo]).length = j + 1 ∧ (∀ c ∈ s.lchoices ++ [cc], c < (g.length : Int)) ∧ (∀ c ∈ s.lother ++ [oo], c < (g.length : Int)) ∧ ∀ i : Nat, i < j + 1 → o.getD i 0 = p → (s.lother ++ [oo])[i]? = (s.lchoices ++ [cc])[i]? := fun cc oo a b k => by
      refine ⟨by simp [h6], by simp [h7], fun c hc => ?_, fun c hc => ?_, fun i hi hp => ?_⟩
      · rcases List.mem_append.mp hc with hc | hc
        · exact h8 c hc
        · rw [List.mem_singleton.mp hc]; exact a
      · rcases List.mem_append.mp hc with hc | hc
        · exact h9 c hc
        · rw [List.mem_singleton.mp hc]; exact b
      · by_cases q : i = j
        · subst q
          rw [List.getElem?_append_right (by omega), List.getElem?_append_right (by omega), k hp, h6, h7]
        · rw [List.getElem?_append_left (by omega), List.getElem?_append_left (by omega)]
          exact h10 i (by omega) hp
    have row : g[j]? = some g[j] := List.getElem?_eq_getElem hj
    obtain ⟨ne, asc⟩ := V.rows _ (List.getElem_mem hj)
    generalize g[j] = ts at row ne asc
    have tp : 0 < ts.length := List.length_pos_iff.mpr ne
    have tb : ∀ r : Int, 0 ≤ r → r < ts.length → ∃ c, gIx ts r = some c ∧ c < g.length := fun r r0 r1 => ⟨_, gIx_lt r0 r1, (asc.2 _ (List.getElem_mem _)).2⟩
    simp only [Ev_ok, Ev_exc, Os_some, Os_if, Ev_xC, Ev_xV, Ev_xN, Ev_xYes, Ev_x1, Ev_x1o, Ev_x2, Ev_x2o, Ev_xIxV, Ev_xIf, Ev_xAnd, Ev_xOr, Ev_xNot, Ev_xCs, Ev_xUn, Ev_xCh, Ev_xSl, Ev_xMeth, Ev_xCall, Ev_xMake, Ev_xComp, Po_nx, Po_yNil, Po_ySeq, Po_ySet, Po_yRet, Po_yRetC, Po_yExpr, Po_yIf, Po_yBreak, Po_yCont, Po_yRaise, Po_yFor, Po_ySetI, Po_yAugI, Po_yTry, gApp, gCat, gMul, gDiv, gMod, gPow, gRep, id, decide_eq_true_eq, Bool.not_eq_true', decide_eq_false_iff_not, Bool.false_eq_true, if_false, if_true, ite_true, ite_false]
    rw [show (s.put_lk (j : Int)).lmoves = g from h1]
    refine Os_intro (gIx_nat row) (Os_intro (gIx_nat row) ?_)
    refine (take_ok (k := ts.length) (by omega)).mono ?_
    rintro r _ ⟨r0, r1⟩
    obtain ⟨c, ec, cb⟩ := tb r r0 r1
    refine Os_intro ec ?_
    refine (take_ok (k := 6) (by decide)).mono ?_
    rintro z _ _
    have lt1 : s.lchoices.length < PySem.sizeLine := by rw [sizeLine_eq]; omega
    have lt2 : s.lother.length < PySem.sizeLine := by rw [sizeLine_eq]; omega
    rw [h2, h4, h5]
    have own := getD_nat (ps := o) (j := j) (by rw [V.lo]; exact hj)
    split
    all_goals
      refine ⟨lt1, ?_⟩
      refine Os_intro (gIx_nat own) ?_
      by_cases ho : o.getD j 0 = p
      · rw [if_neg (by simpa using ho)]
        exact ⟨lt2, rfl, rfl, h3, rfl, rfl, add _ _ (by omega) (by omega) (fun _ => rfl)⟩
      · rw [if_pos (by simpa using ho)]
        refine Os_intro (gIx_nat row) (Os_intro (gIx_nat row) ?_)
        refine (take_ok (k := ts.length) (by omega)).mono ?_
        rintro r' _ ⟨r0', r1'⟩
        obtain ⟨c', ec', cb'⟩ := tb r' r0' r1'
        refine Os_intro ec' ?_
        exact ⟨lt2, rfl, rfl, h3, rfl, rfl, add _ _ (by omega) (by omega) (fun h => absurd h ho)⟩
  · rintro s ⟨h1, h2, h3, h4, h5, h6, h7, h8, h9, h10⟩
    rw [rng_len, Int.toNat_natCast] at h6 h7 h10
    exact ⟨h1, h2, h3, h4, h5, h6, h7, h8, h9, h10⟩
  rintro s ⟨h1, h2, h3, h4, h5, h6, h7, h8, h9, h10⟩
  rw [h1, h2, h3, h4, h5]
  refine (take_ok (k := g.length) (by omega)).mono ?_
  rintro q _ ⟨q0, q1⟩
  refine (take_ok (k := 8) (by decide)).mono ?_
  rintro z _ _
  split
  · refine (take_ok (k := 2) (by decide)).mono ?_
    rintro u _ ⟨u0, u1⟩
    have hu : u = 0 ∨ u = 1 := by omega
    have : ∃ c : Int, gIx [-1, (g.length : Int)] u = some c ∧ (c < 0 ∨ (g.length : Int) ≤ c) := by
      rcases hu with rfl | rfl
      · exact ⟨-1, rfl, .inl (by decide)⟩
      · exact ⟨g.length, rfl, .inr (Int.le_refl _)⟩
    obtain ⟨c, ec, cb⟩ := this
    refine Os_intro ec ?_
    refine (outcome_ok V G1 G2 G3 h6 h8).mono ?_ (fun _ _ h => h)
    rintro r _ ⟨_, k2⟩
    rw [k2 cb]
    exact ⟨rfl, trivial⟩
  · refine (outcome_ok V G1 G2 G3 h6 h8).mono ?_ (fun _ _ h => h)
    rintro r _ ⟨k1, _⟩
    obtain ⟨b, rfl, hb⟩ := k1 ⟨q0, q1⟩
    rw [if_neg (by simp)]
    refine (left_ok V.lo h6 (by omega)).mono ?_ (fun _ _ h => h)
    rintro g3 _ e3
    rw [e3]
    refine (wins_ok (lft_good V.ok h6 h8) (by rw [lft_len]; exact V.lp) (by rw [lft_len]; omega) ⟨q0, by rw [lft_len]; exact q1⟩).mono ?_ (fun _ _ h => h)
    rintro b2 _ hb2
    have e4 : b = b2 := by rw [Bool.eq_iff_iff, hb, hb2]
    subst e4
    rw [if_pos rfl]
    refine (outcome_ok V G1 G2 G3 h7 h9).mono ?_ (fun _ _ h => h)
    rintro r _ ⟨k1, _⟩
    obtain ⟨b3, rfl, hb3⟩ := k1 ⟨q0, q1⟩
    rw [lft_same V.lo h10] at hb3
    have e5 : b3 = b := by rw [Bool.eq_iff_iff, hb, hb3]
    rw [e5]
    exact ⟨rfl, trivial⟩
end K35
/-! ## K35F -/
set_option Elab.async false
set_option linter.all false
namespace K35
open Mn
theorem law_true (ns : List Int) (hl : ns.length ≤ 63) : ∃ h', m_law [.sl (ns.map MV.int)] [] = .ok (.bl true) h' := by
  have z := ty_law () (ns, ()) [.sl (ns.map MV.int)] [] [] ⟨_, rfl, rfl, rfl⟩ List.nodup_nil
  rw [law_ok ns hl] at z
  obtain ⟨v, h', _, _, e, _, r, _⟩ := z
  exact ⟨h', by rw [e, r.1]⟩
end K35
open PySem PySem.W PyProof.Rows
set_option maxRecDepth 100000 in
set_option maxHeartbeats 0 in
theorem PySem.Challenge.cw_reactivesynth_k35_choices_win_holds : PySem.Challenge.rw_reactivesynth_k35_choices_win.Holds := by
  w_on; o_law; k_head; (case hw => w_witness2)
  k_fill
  refine L2.walk_of (l := PySem.Challenge.rw_reactivesynth_k35_choices_win) (n := 63) (k := 6) (x := "_law_script") (CX := fun w => L2.CX PySem.Challenge.pw_reactivesynth_k35_choices_win w) (sp := fun w => Mn.spL _ K35.m_law) rfl (by decide) rfl ⟨rfl, by decide, by decide⟩ (fun w h Y => PySem.W.kIn_of Y) ?F (fun _ _ a ns hl _ hS => Mn.law_sp hS (K35.law_true ns hl)) (fun _ _ _ _ _ h => ?X)
  case F =>
    intro w mg fa h KX G hmg
    refine' Mn.law_run h hmg (fun base => K35.ok_law (K35.txt_mk KX G ?oa_Game ?og_Game ?oh_Game ?oo_Game ?os_Game ?om_Game ?ok_Game ?on_Game_owners ?on_Game_priorities ?on_Game_moves ?on_Game_sources ?a_reversed_moves ?l_reversed_moves ?c_reversed_moves ?k_reversed_moves ?a_Game_init ?l_Game_init ?c_Game_init ?k_Game_init ?i_Game_init ?a_law_draws ?l_law_draws ?c_law_draws ?k_law_draws ?a_law_take ?l_law_take ?c_law_take ?k_law_take ?a_law_flat ?l_law_flat ?c_law_flat ?k_law_flat ?a_law_ascending ?l_law_ascending ?c_law_ascending ?k_law_ascending ?a_law_game ?l_law_game ?c_law_game ?k_law_game ?a_law_left ?l_law_left ?c_law_left ?k_law_left ?a_law_reached ?l_law_reached ?c_law_reached ?k_law_reached ?a_law_wins ?l_law_wins ?c_law_wins ?k_law_wins ?a_reachable ?l_reachable ?c_reachable ?k_reachable ?a_chosen_moves ?l_chosen_moves ?c_chosen_moves ?k_chosen_moves ?a_finishing_order ?l_finishing_order ?c_finishing_order ?k_finishing_order ?a_components ?l_components ?c_components ?k_components ?a_has_bad_cycle ?l_has_bad_cycle ?c_has_bad_cycle ?k_has_bad_cycle ?a_choices_win ?l_choices_win ?c_choices_win ?k_choices_win ?a_law_outcome ?l_law_outcome ?c_law_outcome ?k_law_outcome ?a_law ?l_law ?c_law ?k_law ?z_bool ?z_int ?z_isinstance ?z_len ?z_list ?z_range ?z_set ?z_sorted ?z_tuple ?xa_InvalidGame ?xq_InvalidGame ?xk_InvalidGame ?xb_InvalidGame ?xt_InvalidGame ?xa_InvalidPosition ?xq_InvalidPosition ?xk_InvalidPosition ?xb_InvalidPosition ?xt_InvalidPosition ?xi_InvalidPosition ?xs_InvalidPosition_InvalidPosition))
    (case oa_Game => k_is); (case og_Game => k_is); (case oh_Game => k_is); (case oo_Game => k_is); (case os_Game => k_is); (case om_Game => k_is); (case ok_Game => k_is); (case on_Game_owners => k_is); (case on_Game_priorities => k_is); (case on_Game_moves => k_is); (case on_Game_sources => k_is); (case a_reversed_moves => k_is); (case l_reversed_moves => k_is); (case c_reversed_moves => k_is); (case k_reversed_moves => k_is); (case a_Game_init => k_is); (case l_Game_init => k_is); (case c_Game_init => k_is); (case k_Game_init => k_is); (case i_Game_init => k_is); (case a_law_draws => k_is); (case l_law_draws => k_is); (case c_law_draws => k_is); (case k_law_draws => k_is); (case a_law_take => k_is); (case l_law_take => k_is); (case c_law_take => k_is); (case k_law_take => k_is); (case a_law_flat => k_is); (case l_law_flat => k_is); (case c_law_flat => k_is); (case k_law_flat => k_is); (case a_law_ascending => k_is); (case l_law_ascending => k_is); (case c_law_ascending => k_is); (case k_law_ascending => k_is); (case a_law_game => k_is); (case l_law_game => k_is); (case c_law_game => k_is); (case k_law_game => k_is); (case a_law_left => k_is); (case l_law_left => k_is); (case c_law_left => k_is); (case k_law_left => k_is); (case a_law_reached => k_is); (case l_law_reached => k_is); (case c_law_reached => k_is); (case k_law_reached => k_is); (case a_law_wins => k_is); (case l_law_wins => k_is); (case c_law_wins => k_is); (case k_law_wins => k_is); (case a_reachable => k_is); (case l_reachable => k_is); (case c_reachable => k_is); (case k_reachable => k_is); (case a_chosen_moves => k_is); (case l_chosen_moves => k_is); (case c_chosen_moves => k_is); (case k_chosen_moves => k_is); (case a_finishing_order => k_is); (case l_finishing_order => k_is); (case c_finishing_order => k_is); (case k_finishing_order => k_is); (case a_components => k_is); (case l_components => k_is); (case c_components => k_is); (case k_components => k_is); (case a_has_bad_cycle => k_is); (case l_has_bad_cycle => k_is); (case c_has_bad_cycle => k_is); (case k_has_bad_cycle => k_is); (case a_choices_win => k_is); (case l_choices_win => k_is); (case c_choices_win => k_is); (case k_choices_win => k_is); (case a_law_outcome => k_is); (case l_law_outcome => k_is); (case c_law_outcome => k_is); (case k_law_outcome => k_is); (case a_law => k_is); (case l_law => k_is); (case c_law => k_is); (case k_law => k_is); (case z_bool => k_is); (case z_int => k_is); (case z_isinstance => k_is); (case z_len => k_is); (case z_list => k_is); (case z_range => k_is); (case z_set => k_is); (case z_sorted => k_is); (case z_tuple => k_is); (case xa_InvalidGame => k_is); (case xq_InvalidGame => k_exc); (case xk_InvalidGame => k_is); (case xb_InvalidGame => k_is); (case xt_InvalidGame => k_is); (case xa_InvalidPosition => k_is); (case xq_InvalidPosition => k_exc); (case xk_InvalidPosition => k_is); (case xb_InvalidPosition => k_is); (case xt_InvalidPosition => k_is); (case xi_InvalidPosition => k_is); (case xs_InvalidPosition_InvalidPosition => k_is)
  case X =>
    obtain ⟨_, _, _, _, _, _, _, _, _, _, _, _, z⟩ := h
    exact z
