import PyProof.Rows.All
import Wide.All
import OpenK.AllK
import Wide.FinOn
import HandS.ForMost
import HandS.Exc
import HandS.TryOnly
import HandS.ExcOwn
import HandS.WordsExc
import HandS.CallSlots
import HandS.IsInst
import HandS.ExcIs
import HandS.TryMany
import HandS.TupAny
import HandS.TupMul
import HandS.Conv
import HandS.Flow
import HandS.Dict
import KE.KeyNested
import KE.KDictKeyed
import HandS.Gcd
import KE.KMathGC
import HandS.Star
import KE.KRevSl
import HandS.SetFor
import HandS.Strs
import KE.DatumOrd
import HandS.SortInts
import HandS.Style
import HandS.TupLen
import KE.KDictDisplayH
import HandS.Text
import HandS.Defaults
import HandS.MakeKwOnly
import HandS.Property
import HandS.More
import HandS.RaiseFrom
import HandS.SuiteRaise
import KE.GoesRaise
import HandS.StrMore
import PySem.Challenge.RW_reactivesynth_k44_machine_text_refused
import KE.KIntText
import KE.IntTextLaws
import PyProof.FitsInt
set_option Elab.async false
set_option linter.all false
set_option maxRecDepth 100000
namespace Mn
open PySem PySem.Spec PyProof.Rows L2

structure Gm where
  cls : Str → Addr
  fld : Str → Str
  w : World
inductive MV where
  | non | bl (b : Bool) | int (i : Int) | str (x : Str)
  | tup (xs : List MV) | fl (xs : List MV) | sl (xs : List MV)
  | ob (C : Str) (ks : List Str) (xs : List MV)
  | ref (n : Nat)
  | exo (a : Addr) (d : Option Addr) (C : Str) (xs : List MV)
instance : Inhabited MV := ⟨.non⟩
inductive Cell where
  | lst (xs : List MV) | dct (kvs : List (MV × MV)) | ins (C : Str) (ks : List Str) (xs : List MV) | dcn (kvs : List (MV × MV)) | dead
abbrev MH := List Cell
inductive Out (α : Type) where
  | ok (a : α) (h : MH) | exc (C : Str) (xs : List MV) (h : MH) | stuck
abbrev MEnv := List (Option MV)
abbrev ME := MEnv → MH → Out MV
abbrev MA := MEnv → MH → Out (List MV)
abbrev MT := MEnv → MH → Out Bool
abbrev MI := MEnv → MH → Out (Option Int)
abbrev MF := List MV → MH → Out MV
@[reducible] def Out.bind {α β : Type} (x : Out α) (f : α → MH → Out β) : Out β :=
  match x with
  | .ok a h => f a h
  | .exc C xs h => .exc C xs h
  | .stuck => .stuck

structure Sh where
  Hs : Hp
  ι : List Addr

section
variable (Γ : Gm) (K : PySem.W.Frag) (S : Sh)
mutual
def Rep : MV → V → Prop
  | .non, v => v = .non
  | .bl b, v => v = .bl b
  | .int i, v => v = .int i
  | .str x, v => v = .str x
  | .tup xs, v => ∃ a us, v = .ref a ∧ SqT K S.Hs a us ∧ RepL xs us
  | .fl xs, v => ∃ a us, v = .ref a ∧ S.Hs a = some (.lst us) ∧ RepL xs us
  | .sl xs, v => ∃ a us, v = .ref a ∧ SqL K S.Hs a us ∧ RepL xs us
  | .ob C ks xs, v => ∃ a dx us, v = .ref a ∧ S.Hs a = some (.ins (Γ.cls C) dx (ks.zip us)) ∧ us.length = ks.length ∧ RepL xs us
  | .ref n, v => ∃ a, S.ι[n]? = some a ∧ v = .ref a
  | .exo a d C xs, v => v = .ref a ∧ ∃ us, ((us = [] ∧ d = none) ∨ ∃ dd u, us = [u] ∧ d = some dd ∧ S.Hs dd = some (.xd [(Γ.fld C, u)])) ∧ RepL xs us
def RepL : List MV → List V → Prop
  | [], us => us = []
  | x :: xs, us => ∃ u r, us = u :: r ∧ Rep x u ∧ RepL xs r
end
def keyV : MV → Option Key
  | .int i => some (.inl i)
  | .str x => some (.inr x)
  | _ => none
def RepD : List (MV × MV) → List (Key × V) → Prop
  | [], us => us = []
  | x :: xs, us => ∃ k u r, us = (k, u) :: r ∧ keyV x.1 = some k ∧ Rep Γ K S x.2 u ∧ RepD xs r
mutual
def keyN : MV → Option NestedKey
  | .int i => some (.num i)
  | .str x => some (.text x)
  | .non => some .none
  | .tup xs => match keyNs xs with
    | some ks => some (.tup ks)
    | none => none
  | _ => none
def keyNs : List MV → Option (List NestedKey)
  | [] => some []
  | x :: xs => match keyN x, keyNs xs with
    | some k, some ks => some (k :: ks)
    | _, _ => none
end
abbrev NE := NestedKey × Addr × V
def entN (w : World) (y : NestedKey × Addr × Value) : DictEntry := ⟨NestedKey.hash w y.1, .ref y.2.1, y.2.2⟩
def rawN (w : World) (a : Addr) (xs : List NE) : HO := .ext fun h => xs.length ≤ sizeLine ∧ (a == sysModules) = false ∧ (xs.map (·.1)).Nodup ∧
  ∃ ys : List (NestedKey × Addr × Value), Paired (fun (p : NE) (q : NestedKey × Addr × Value) => p.1 = q.1 ∧ p.2.1 = q.2.1 ∧ RelV p.2.2 q.2.2) xs ys ∧ ∃ o es ep, h.get? a = some o ∧ o.ExactDict ∧ o.data = .dict es ep ∧ es.toList = ys.map (entN w)
def RepN : List (MV × MV) → List NE → Prop
  | [], us => us = []
  | x :: xs, us => ∃ k b u r, us = (k, b, u) :: r ∧ keyN x.1 = some k ∧ k.depth ≤ 8 ∧ Rep Γ K S x.1 (.ref b) ∧ Rep Γ K S x.2 u ∧ RepN xs r
def CellOk (H : Hp) (a : Addr) : Cell → Prop
  | .lst xs => S.Hs a = none ∧ ∃ us, H a = some (.lst us) ∧ RepL Γ K S xs us
  | .dct kvs => S.Hs a = none ∧ ∃ us, H a = some (.dK us) ∧ RepD Γ K S kvs us
  | .ins C ks xs => S.Hs a = none ∧ ∃ dx us, H a = some (.ins (Γ.cls C) dx (ks.zip us)) ∧ us.length = ks.length ∧ RepL Γ K S xs us
  | .dcn kvs => S.Hs a = none ∧ ∃ us, H a = some (rawN Γ.w a us) ∧ RepN Γ K S kvs us
  | .dead => True
structure Rel (h : MH) (H : Hp) : Prop where
  sub : ∀ a o, S.Hs a = some o → H a = some o
  len : S.ι.length = h.length
  nd : S.ι.Nodup
  trk : ∀ a ∈ S.ι, ∃ o, H a = some o
  cell : ∀ (n : Nat) (c : Cell) (a : Addr), h[n]? = some c → S.ι[n]? = some a → CellOk Γ K S H a c
def REnv (env : MEnv) (σ : L2.St) : Prop := env.length = σ.length ∧ ∀ (i : Nat) (d : MV), env[i]? = some (some d) → ∃ v, σ[i]? = some (some v) ∧ Rep Γ K S d v
end
structure Ext (S : Sh) (H : Hp) (S' : Sh) (H' : Hp) : Prop where
  hs : ∀ a o, S.Hs a = some o → S'.Hs a = some o
  ix : ∀ (n : Nat) (a : Addr), S.ι[n]? = some a → S'.ι[n]? = some a
  fr : ∀ a o, H a = some o → S.Hs a = none → a ∉ S.ι → H' a = some o ∧ S'.Hs a = none ∧ a ∉ S'.ι
theorem Ext.refl (S : Sh) (H : Hp) : Ext S H S H := ⟨fun _ _ h => h, fun _ _ h => h, fun _ _ h1 h2 h3 => ⟨h1, h2, h3⟩⟩
theorem Ext.trans {S S1 S2 : Sh} {H H1 H2 : Hp} (a : Ext S H S1 H1) (b : Ext S1 H1 S2 H2) : Ext S H S2 H2 :=
  ⟨fun x o h => b.hs x o (a.hs x o h), fun n x h => b.ix n x (a.ix n x h), fun x o h1 h2 h3 => by
    obtain ⟨q1, q2, q3⟩ := a.fr x o h1 h2 h3
    exact b.fr x o q1 q2 q3⟩

section
variable {Γ : Gm} {K : PySem.W.Frag} {S S' : Sh} {H H' : Hp} {h : MH}
theorem sqT_mono {a : Addr} {us : List V} (e : ∀ a o, S.Hs a = some o → S'.Hs a = some o) (q : SqT K S.Hs a us) : SqT K S'.Hs a us := by
  rcases q with (q | ⟨o, q⟩) | q
  · exact .inl (.inl (e _ _ q))
  · exact .inl (.inr ⟨o, e _ _ q⟩)
  · exact .inr q
theorem sqL_mono {a : Addr} {us : List V} (e : ∀ a o, S.Hs a = some o → S'.Hs a = some o) (q : SqL K S.Hs a us) : SqL K S'.Hs a us := by
  rcases q with (q | ⟨o, q⟩) | q
  · exact .inl (.inl (e _ _ q))
  · exact .inl (.inr ⟨o, e _ _ q⟩)
  · exact .inr q
mutual
theorem rep_mono (e : ∀ a o, S.Hs a = some o → S'.Hs a = some o) (i : ∀ (n : Nat) (a : Addr), S.ι[n]? = some a → S'.ι[n]? = some a) : ∀ (d : MV) (v : V), Rep Γ K S d v → Rep Γ K S' d v
  | .non, v, q => by unfold Rep at *; exact q
  | .bl b, v, q => by unfold Rep at *; exact q
  | .int _, v, q => by unfold Rep at *; exact q
  | .str x, v, q => by unfold Rep at *; exact q
  | .tup xs, v, q => by
    unfold Rep at *
    obtain ⟨a, us, e1, e2, e3⟩ := q
    exact ⟨a, us, e1, sqT_mono e e2, repL_mono e i xs us e3⟩
  | .fl xs, v, q => by
    unfold Rep at *
    obtain ⟨a, us, e1, e2, e3⟩ := q
    exact ⟨a, us, e1, e _ _ e2, repL_mono e i xs us e3⟩
  | .sl xs, v, q => by
    unfold Rep at *
    obtain ⟨a, us, e1, e2, e3⟩ := q
    exact ⟨a, us, e1, sqL_mono e e2, repL_mono e i xs us e3⟩
  | .ob C ks xs, v, q => by
    unfold Rep at *
    obtain ⟨a, dx, us, e1, e2, e4, e3⟩ := q
    exact ⟨a, dx, us, e1, e _ _ e2, e4, repL_mono e i xs us e3⟩
  | .ref n, v, q => by
    unfold Rep at *
    obtain ⟨a, e1, e2⟩ := q
    exact ⟨a, i _ _ e1, e2⟩
  | .exo a d C xs, v, q => by
    unfold Rep at *
    obtain ⟨e1, us, e2, e3⟩ := q
    refine ⟨e1, us, ?_, repL_mono e i xs us e3⟩
    rcases e2 with e2 | ⟨dd, u, f1, f2, f3⟩
    · exact .inl e2
    · exact .inr ⟨dd, u, f1, f2, e _ _ f3⟩
theorem repL_mono (e : ∀ a o, S.Hs a = some o → S'.Hs a = some o) (i : ∀ (n : Nat) (a : Addr), S.ι[n]? = some a → S'.ι[n]? = some a) : ∀ (ds : List MV) (vs : List V), RepL Γ K S ds vs → RepL Γ K S' ds vs
  | [], v, q => by unfold RepL at *; exact q
  | d :: ds, v, q => by
    unfold RepL at *
    obtain ⟨u, r, e1, e2, e3⟩ := q
    exact ⟨u, r, e1, rep_mono e i d u e2, repL_mono e i ds r e3⟩
end
theorem Rep.ext {d : MV} {v : V} (q : Rep Γ K S d v) (e : Ext S H S' H') : Rep Γ K S' d v := rep_mono e.hs e.ix d v q
theorem RepL.ext {d : List MV} {v : List V} (q : RepL Γ K S d v) (e : Ext S H S' H') : RepL Γ K S' d v := repL_mono e.hs e.ix d v q
theorem RepD.mono (e : ∀ a o, S.Hs a = some o → S'.Hs a = some o) (i : ∀ (n : Nat) (a : Addr), S.ι[n]? = some a → S'.ι[n]? = some a) : ∀ {d : List (MV × MV)} {v : List (Key × V)}, RepD Γ K S d v → RepD Γ K S' d v
  | [], _, q => q
  | _ :: _, _, ⟨k, u, r, e1, e2, e3, e4⟩ => ⟨k, u, r, e1, e2, rep_mono e i _ _ e3, RepD.mono e i e4⟩
theorem RepN.mono (e : ∀ a o, S.Hs a = some o → S'.Hs a = some o) (i : ∀ (n : Nat) (a : Addr), S.ι[n]? = some a → S'.ι[n]? = some a) : ∀ {d : List (MV × MV)} {v : List NE}, RepN Γ K S d v → RepN Γ K S' d v
  | [], _, q => q
  | _ :: _, _, ⟨k, b, u, r, e1, e2, e5, e6, e3, e4⟩ => ⟨k, b, u, r, e1, e2, e5, rep_mono e i _ _ e6, rep_mono e i _ _ e3, RepN.mono e i e4⟩
theorem REnv.mono {env : MEnv} {σ : L2.St} (q : REnv Γ K S env σ) (e : Ext S H S' H') : REnv Γ K S' env σ :=
  ⟨q.1, fun i d h => let ⟨v, h1, h2⟩ := q.2 i d h; ⟨v, h1, h2.ext e⟩⟩
theorem CellOk.mono {a : Addr} {c : Cell} (q : CellOk Γ K S H a c) (e : ∀ a o, S.Hs a = some o → S'.Hs a = some o) (i : ∀ (n : Nat) (a : Addr), S.ι[n]? = some a → S'.ι[n]? = some a) (ha : S.Hs a = none → S'.Hs a = none) (hH : ∀ o, H a = some o → H' a = some o) : CellOk Γ K S' H' a c := by
  cases c with
  | lst xs => obtain ⟨z, us, e1, e2⟩ := q; exact ⟨ha z, us, hH _ e1, repL_mono e i _ _ e2⟩
  | dct kvs => obtain ⟨z, us, e1, e2⟩ := q; exact ⟨ha z, us, hH _ e1, RepD.mono e i e2⟩
  | ins C ks xs => obtain ⟨z, dx, us, e1, e3, e2⟩ := q; exact ⟨ha z, dx, us, hH _ e1, e3, repL_mono e i _ _ e2⟩
  | dcn kvs => obtain ⟨z, us, e1, e2⟩ := q; exact ⟨ha z, us, hH _ e1, RepN.mono e i e2⟩
  | dead => trivial

variable (R : Rel Γ K S h H)
include R
theorem Rel.froz {p : Addr} {o : HO} (hp : H p = none) : Rel Γ K ⟨upd S.Hs p o, S.ι⟩ h (upd H p o) ∧ Ext S H ⟨upd S.Hs p o, S.ι⟩ (upd H p o) := by
  have np : ∀ b u, S.Hs b = some u → b ≠ p := fun b u e z => by
    rw [z] at e
    rw [R.sub _ _ e] at hp; cases hp
  have nι : p ∉ S.ι := fun hm => by
    obtain ⟨o', e⟩ := R.trk p hm
    rw [e] at hp; cases hp
  have m1 : ∀ a u, S.Hs a = some u → upd S.Hs p o a = some u := fun a u e => by rw [upd_ne (np a u e)]; exact e
  refine ⟨⟨fun a u e => ?_, R.len, R.nd, fun a hm => ?_, fun n c a h1 h2 => ?_⟩, ⟨m1, fun _ _ e => e, fun a u e1 e2 e3 => ?_⟩⟩
  · by_cases ha : a = p
    · subst ha
      rw [upd_same]
      have e' : upd S.Hs a o a = some u := e
      rw [upd_same] at e'; exact e'
    · have e' : upd S.Hs p o a = some u := e
      rw [upd_ne ha] at e' ⊢
      exact R.sub _ _ e'
  · obtain ⟨u, e⟩ := R.trk a hm
    exact ⟨u, by rw [upd_ne (ne_of_none e hp)]; exact e⟩
  · have hm : a ∈ S.ι := List.mem_of_getElem? h2
    have na : a ≠ p := fun z => nι (z ▸ hm)
    refine (R.cell n c a h1 h2).mono m1 (fun _ _ e => e) (fun z => ?_) (fun u e => ?_)
    · show upd S.Hs p o a = none
      rw [upd_ne na]; exact z
    · rw [upd_ne na]; exact e
  · have na : a ≠ p := ne_of_none e1 hp
    refine ⟨by rw [upd_ne na]; exact e1, ?_, e3⟩
    show upd S.Hs p o a = none
    rw [upd_ne na]; exact e2
theorem Rel.alloc {p : Addr} {o : HO} {c : Cell} (hp : H p = none) (hc : ∀ S' : Sh, S'.Hs = S.Hs → S'.ι = S.ι ++ [p] → CellOk Γ K S' (upd H p o) p c) :
    Rel Γ K ⟨S.Hs, S.ι ++ [p]⟩ (h ++ [c]) (upd H p o) ∧ Ext S H ⟨S.Hs, S.ι ++ [p]⟩ (upd H p o) := by
  have nι : p ∉ S.ι := fun hm => by
    obtain ⟨o', e⟩ := R.trk p hm
    rw [e] at hp; cases hp
  have m2 : ∀ (n : Nat) (a : Addr), S.ι[n]? = some a → (S.ι ++ [p])[n]? = some a := fun n a e => by
    rw [List.getElem?_append_left (List.getElem?_eq_some_iff.mp e).1]; exact e
  refine ⟨⟨fun a u e => ?_, ?_, ?_, fun a hm => ?_, fun n c' a h1 h2 => ?_⟩, ⟨fun _ _ e => e, m2, fun a u e1 e2 e3 => ?_⟩⟩
  · have q := R.sub a u e
    rw [upd_ne (ne_of_none q hp)]; exact q
  · show (S.ι ++ [p]).length = (h ++ [c]).length
    rw [List.length_append, List.length_append, R.len]; rfl
  · show (S.ι ++ [p]).Nodup
    rw [List.nodup_append]
    refine ⟨R.nd, by simp, fun a ha b hb => ?_⟩
    have : b = p := by simpa using hb
    subst this
    exact fun z => nι (z ▸ ha)
  · have hm' : a ∈ S.ι ++ [p] := hm
    rcases List.mem_append.mp hm' with hm' | hm'
    · obtain ⟨u, e⟩ := R.trk a hm'
      exact ⟨u, by rw [upd_ne (ne_of_none e hp)]; exact e⟩
    · have : a = p := by simpa using hm'
      subst this
      exact ⟨o, upd_same⟩
  · have h2' : (S.ι ++ [p])[n]? = some a := h2
    by_cases hn : n < h.length
    · rw [List.getElem?_append_left hn] at h1
      rw [List.getElem?_append_left (by rw [R.len]; exact hn)] at h2'
      have hm : a ∈ S.ι := List.mem_of_getElem? h2'
      have na : a ≠ p := fun z => nι (z ▸ hm)
      refine (R.cell n c' a h1 h2').mono (S' := ⟨S.Hs, S.ι ++ [p]⟩) (fun _ _ e => e) m2 (fun z => z) (fun u e => ?_)
      rw [upd_ne na]; exact e
    · have hn' : n = h.length := by
        have := (List.getElem?_eq_some_iff.mp h1).1
        rw [List.length_append] at this
        simp only [List.length_cons, List.length_nil] at this
        omega
      subst hn'
      rw [List.getElem?_append_right (Nat.le_refl _), Nat.sub_self] at h1
      rw [List.getElem?_append_right (by rw [R.len]; exact Nat.le_refl _), R.len, Nat.sub_self] at h2'
      simp only [List.getElem?_cons_zero, Option.some.injEq] at h1 h2'
      subst h1 h2'
      exact hc _ rfl rfl
  · have na : a ≠ p := ne_of_none e1 hp
    refine ⟨by rw [upd_ne na]; exact e1, e2, fun hm => ?_⟩
    have hm' : a ∈ S.ι ++ [p] := hm
    rcases List.mem_append.mp hm' with hm' | hm'
    · exact e3 hm'
    · exact na (by simpa using hm')
theorem Rel.store {n : Nat} {a : Addr} {o : HO} {c : Cell} (hn : S.ι[n]? = some a) (hs : S.Hs a = none) (hc : CellOk Γ K S (upd H a o) a c) : Rel Γ K S (h.set n c) (upd H a o) ∧ Ext S H S (upd H a o) := by
  have hm : a ∈ S.ι := List.mem_of_getElem? hn
  refine ⟨⟨fun b u e => ?_, by rw [List.length_set]; exact R.len, R.nd, fun b hb => ?_, fun k c' b h1 h2 => ?_⟩, ⟨fun _ _ e => e, fun _ _ e => e, fun b u e1 e2 e3 => ⟨?_, e2, e3⟩⟩⟩
  · have nb : b ≠ a := fun z => by rw [z, hs] at e; cases e
    rw [upd_ne nb]; exact R.sub b u e
  · by_cases hb' : b = a
    · subst hb'; exact ⟨o, upd_same⟩
    · obtain ⟨u, e⟩ := R.trk b hb
      exact ⟨u, by rw [upd_ne hb']; exact e⟩
  · by_cases hk : n = k
    · subst hk
      rw [hn] at h2; cases h2
      have hl : n < h.length := by
        have := (List.getElem?_eq_some_iff.mp h1).1
        rw [List.length_set] at this; exact this
      rw [List.getElem?_set_self hl] at h1
      cases h1
      exact hc
    · rw [List.getElem?_set_ne hk] at h1
      have nb : b ≠ a := fun z => by
        subst z
        obtain ⟨l1, q1⟩ := List.getElem?_eq_some_iff.mp hn
        obtain ⟨l2, q2⟩ := List.getElem?_eq_some_iff.mp h2
        exact hk ((List.getElem_inj R.nd).mp (q1.trans q2.symm))
      exact (R.cell k c' b h1 h2).mono (fun _ _ e => e) (fun _ _ e => e) (fun z => z) (fun u e => by rw [upd_ne nb]; exact e)
  · have nb : b ≠ a := fun z => e3 (z ▸ hm)
    rw [upd_ne nb]; exact e1
theorem Rel.freeze {n : Nat} {a : Addr} {o : HO} (hn : S.ι[n]? = some a) (hs : S.Hs a = none) (ho : H a = some o) : Rel Γ K ⟨upd S.Hs a o, S.ι⟩ (h.set n .dead) H ∧ Ext S H ⟨upd S.Hs a o, S.ι⟩ H := by
  have hm : a ∈ S.ι := List.mem_of_getElem? hn
  have m1 : ∀ b u, S.Hs b = some u → upd S.Hs a o b = some u := fun b u e => by
    have nb : b ≠ a := fun z => by rw [z, hs] at e; cases e
    rw [upd_ne nb]; exact e
  refine ⟨⟨fun b u e => ?_, by rw [List.length_set]; exact R.len, R.nd, R.trk, fun k c' b h1 h2 => ?_⟩, ⟨m1, fun _ _ e => e, fun b u e1 e2 e3 => ⟨e1, ?_, e3⟩⟩⟩
  · have e' : upd S.Hs a o b = some u := e
    by_cases hb : b = a
    · subst hb
      rw [upd_same] at e'; cases e'; exact ho
    · rw [upd_ne hb] at e'
      exact R.sub b u e'
  · by_cases hk : n = k
    · subst hk
      have hl : n < h.length := by
        have := (List.getElem?_eq_some_iff.mp h1).1
        rw [List.length_set] at this; exact this
      rw [List.getElem?_set_self hl] at h1
      cases h1
      trivial
    · rw [List.getElem?_set_ne hk] at h1
      have h2' : S.ι[k]? = some b := h2
      have nb : b ≠ a := fun z => by
        subst z
        obtain ⟨l1, q1⟩ := List.getElem?_eq_some_iff.mp hn
        obtain ⟨l2, q2⟩ := List.getElem?_eq_some_iff.mp h2'
        exact hk ((List.getElem_inj R.nd).mp (q1.trans q2.symm))
      refine (R.cell k c' b h1 h2').mono m1 (fun _ _ e => e) (fun z => ?_) (fun u e => e)
      show upd S.Hs a o b = none
      rw [upd_ne nb]; exact z
  · have nb : b ≠ a := fun z => e3 (z ▸ hm)
    show upd S.Hs a o b = none
    rw [upd_ne nb]; exact e2
end
end Mn
set_option Elab.async false
set_option linter.all false
set_option maxRecDepth 100000
namespace Mn
open PySem PySem.Spec PyProof.Rows L2

section
variable (Γ : Gm) (K : PySem.W.Frag)
def RepX (C : Str) (xs : List MV) (dd : Option Addr) (S : Sh) (H : Hp) : Prop :=
  match xs with
  | [] => dd = none
  | [x] => ∃ d v, dd = some d ∧ S.Hs d = some (.xd [(Γ.fld C, v)]) ∧ Rep Γ K S x v
  | _ => False
def Post {α β : Type} (R : Sh → α → β → Prop) (S : Sh) (H : Hp) (Q : β → Hp → Prop) (E : XK) : Out α → Prop
  | .ok a h => ∀ S' H' b, Ext S H S' H' → Rel Γ K S' h H' → R S' a b → Q b H'
  | .exc C xs h => ∀ S' H' dd, Ext S H S' H' → Rel Γ K S' h H' → RepX Γ K C xs dd S' H' → E (.ref (Γ.cls C)) dd H'
  | .stuck => False
end
section
variable {Γ : Gm} {K : PySem.W.Frag} {α β γ δ : Type} {R : Sh → α → β → Prop} {R' : Sh → γ → δ → Prop} {S S1 : Sh} {H H1 : Hp} {Q : β → Hp → Prop} {Q' : δ → Hp → Prop} {E E' : XK}
theorem Post.ext {o : Out α} (p : Post Γ K R S H Q E o) (e : Ext S H S1 H1) : Post Γ K R S1 H1 Q E o := by
  cases o with
  | ok a h => exact fun S' H' b e' => p S' H' b (e.trans e')
  | exc C xs h => exact fun S' H' dd e' => p S' H' dd (e.trans e')
  | stuck => exact p
theorem Post.bind {x : Out α} {f : α → MH → Out γ} (hp : Post Γ K R' S H Q' E (x.bind f))
    (k : ∀ a h1 S1 H1 b, x = .ok a h1 → Ext S H S1 H1 → Rel Γ K S1 h1 H1 → R S1 a b → Post Γ K R' S1 H1 Q' E (f a h1) → Q b H1) : Post Γ K R S H Q E x := by
  cases x with
  | ok a h => exact fun S' H' b e r q => k a h S' H' b rfl e r q (Post.ext hp e)
  | exc C xs h => exact hp
  | stuck => exact hp
theorem Post.mono {o : Out α} {Q1 : β → Hp → Prop} (p : Post Γ K R S H Q E o) (q : ∀ b H', Q b H' → Q1 b H') : Post Γ K R S H Q1 E o := by
  cases o with
  | ok a h => exact fun S' H' b e r z => q _ _ (p S' H' b e r z)
  | exc C xs h => exact p
  | stuck => exact p
end

abbrev WE' (W : WX) (σ : L2.St) : XK := fun c d H' => W c d σ H'
def ExE (Γ : Gm) (K : PySem.W.Frag) (W : WX) (t : TE) (m : ME) : Prop :=
  ∀ S H h σ env Q, Rel Γ K S h H → REnv Γ K S env σ → Post Γ K (Rep Γ K) S H Q (WE' W σ) (m env h) → t σ H Q
def ExA (Γ : Gm) (K : PySem.W.Frag) (W : WX) (t : TA) (m : MA) : Prop :=
  ∀ S H h σ env Q, Rel Γ K S h H → REnv Γ K S env σ → Post Γ K (RepL Γ K) S H Q (WE' W σ) (m env h) → t σ H Q
def ExT (Γ : Gm) (K : PySem.W.Frag) (W : WX) (t : TT) (m : MT) : Prop :=
  ∀ S H h σ env Q, Rel Γ K S h H → REnv Γ K S env σ → Post Γ K (fun _ (a b : Bool) => b = a) S H Q (WE' W σ) (m env h) → t σ H Q
def ExO (Γ : Gm) (K : PySem.W.Frag) (W : WX) (t : TO) (m : MI) : Prop :=
  ∀ S H h σ env Q, Rel Γ K S h H → REnv Γ K S env σ → Post Γ K (fun _ (a b : Option Int) => b = a) S H Q (WE' W σ) (m env h) → t σ H Q
structure SE (Γ : Gm) (X : Cx) (W : WX) (e : Expr) (m : ME) : Prop where
  ex : ∃ t : TE, PE X e t ∧ ExE Γ X.K W t m
structure SA (Γ : Gm) (X : Cx) (W : WX) (es : List Expr) (m : MA) : Prop where
  ex : ∃ t : TA, PA X es t ∧ ExA Γ X.K W t m
structure ST (Γ : Gm) (X : Cx) (W : WX) (e : Expr) (m : MT) : Prop where
  ex : ∃ t : TT, PT X e t ∧ ExT Γ X.K W t m
structure SW (Γ : Gm) (X : Cx) (W : WX) (e : Expr) (m : MT) : Prop where
  ex : ∃ t : TT, PW X e t ∧ ExT Γ X.K W t m
structure SO (Γ : Gm) (X : Cx) (W : WX) (e : Option Expr) (m : MI) : Prop where
  ex : ∃ t : TO, PO X e t ∧ ExO Γ X.K W t m

def mC (d : MV) : ME := fun _ h => .ok d h
def mV (i : Nat) : ME := fun env h => match env[i]? with
  | some (some d) => .ok d h
  | _ => .stuck
def m1 (f : MV → MH → Out MV) (a : ME) : ME := fun env h => (a env h).bind f
def m2 (f : MV → MV → MH → Out MV) (a b : ME) : ME := fun env h => (a env h).bind fun x h => (b env h).bind fun y h => f x y h
def maN : MA := fun _ h => .ok [] h
def maC (a : ME) (r : MA) : MA := fun env h => (a env h).bind fun x h => (r env h).bind fun xs h => .ok (x :: xs) h
def mF (f : MF) (a : MA) : ME := fun env h => (a env h).bind f
def boolOf (x : MV) (h : MH) : Out Bool := match x with
  | .bl b => .ok b h
  | _ => .stuck
def mT (a : ME) : MT := fun env h => (a env h).bind boolOf
def tAndM (a b : MT) : MT := fun env h => (a env h).bind fun c h => if c = true then b env h else .ok false h
def tOrM (a b : MT) : MT := fun env h => (a env h).bind fun c h => if c = true then .ok true h else b env h
def tNotM (a : MT) : MT := fun env h => (a env h).bind fun c h => .ok (!c) h
def mAnd (a b : ME) : ME := fun env h => (a env h).bind fun x h => (boolOf x h).bind fun c h => if c = true then b env h else .ok (.bl false) h
def mNot (a : ME) : ME := fun env h => (a env h).bind fun x h => (boolOf x h).bind fun c h => .ok (.bl (!c)) h
def moN : MI := fun _ h => .ok none h
def intOf (x : MV) (h : MH) : Out (Option Int) := match x with
  | .int i => .ok (some i) h
  | _ => .stuck
def moS (a : ME) : MI := fun env h => (a env h).bind intOf

section
variable {Γ : Gm} {X : Cx} {W : WX} {e a b c : Expr} {es rest : List Expr} {pos : Pos} {ma mb mc : ME} {ms : MA} {mt mu : MT}

def Lift2 (Γ : Gm) (K : PySem.W.Frag) (r : R2) (f : MV → MV → MH → Out MV) : Prop :=
  ∀ S H h x y u v Q E, Rel Γ K S h H → Rep Γ K S x u → Rep Γ K S y v → Post Γ K (Rep Γ K) S H Q E (f x y h) → r u v H Q
def Lift1 (Γ : Gm) (K : PySem.W.Frag) (r : V → Hp → VK → Prop) (f : MV → MH → Out MV) : Prop :=
  ∀ S H h x u Q E, Rel Γ K S h H → Rep Γ K S x u → Post Γ K (Rep Γ K) S H Q E (f x h) → r u H Q
def LiftF (Γ : Gm) (K : PySem.W.Frag) (r : List V → Hp → VK → Prop) (f : MF) : Prop :=
  ∀ S H h x u Q E, Rel Γ K S h H → RepL Γ K S x u → Post Γ K (Rep Γ K) S H Q E (f x h) → r u H Q

theorem Post.val {K : PySem.W.Frag} {S : Sh} {H : Hp} {Q : VK} {E : XK} {d : MV} {v : V} {h : MH} (p : Post Γ K (Rep Γ K) S H Q E (.ok d h)) (R : Rel Γ K S h H) (r : Rep Γ K S d v) : Q v H := p S H v (Ext.refl _ _) R r

theorem exE_bind {K : PySem.W.Frag} {t : TE} {m : ME} {γ δ : Type} {R' : Sh → γ → δ → Prop} {f : MV → MH → Out γ} {S : Sh} {H : Hp} {h : MH} {σ : L2.St} {env : MEnv} {Q' : δ → Hp → Prop} {QQ : VK} (ht : ExE Γ K W t m) (R : Rel Γ K S h H) (G : REnv Γ K S env σ)
    (hp : Post Γ K R' S H Q' (WE' W σ) ((m env h).bind f))
    (k : ∀ a h1 S1 H1 v, Ext S H S1 H1 → Rel Γ K S1 h1 H1 → REnv Γ K S1 env σ → Rep Γ K S1 a v → Post Γ K R' S1 H1 Q' (WE' W σ) (f a h1) → QQ v H1) : t σ H QQ :=
  ht S H h σ env QQ R G (Post.bind hp fun a h1 S1 H1 v _ e r q p => k a h1 S1 H1 v e r (G.mono e) q p)
theorem exA_bind {K : PySem.W.Frag} {t : TA} {m : MA} {γ δ : Type} {R' : Sh → γ → δ → Prop} {f : List MV → MH → Out γ} {S : Sh} {H : Hp} {h : MH} {σ : L2.St} {env : MEnv} {Q' : δ → Hp → Prop} {QQ : List V → Hp → Prop} (ht : ExA Γ K W t m) (R : Rel Γ K S h H) (G : REnv Γ K S env σ)
    (hp : Post Γ K R' S H Q' (WE' W σ) ((m env h).bind f))
    (k : ∀ a h1 S1 H1 v, Ext S H S1 H1 → Rel Γ K S1 h1 H1 → REnv Γ K S1 env σ → RepL Γ K S1 a v → Post Γ K R' S1 H1 Q' (WE' W σ) (f a h1) → QQ v H1) : t σ H QQ :=
  ht S H h σ env QQ R G (Post.bind hp fun a h1 S1 H1 v _ e r q p => k a h1 S1 H1 v e r (G.mono e) q p)
theorem exT_bind {K : PySem.W.Frag} {t : TT} {m : MT} {γ δ : Type} {R' : Sh → γ → δ → Prop} {f : Bool → MH → Out γ} {S : Sh} {H : Hp} {h : MH} {σ : L2.St} {env : MEnv} {Q' : δ → Hp → Prop} {QQ : Bool → Hp → Prop} (ht : ExT Γ K W t m) (R : Rel Γ K S h H) (G : REnv Γ K S env σ)
    (hp : Post Γ K R' S H Q' (WE' W σ) ((m env h).bind f))
    (k : ∀ a h1 S1 H1, Ext S H S1 H1 → Rel Γ K S1 h1 H1 → REnv Γ K S1 env σ → Post Γ K R' S1 H1 Q' (WE' W σ) (f a h1) → QQ a H1) : t σ H QQ :=
  ht S H h σ env QQ R G (Post.bind hp fun a h1 S1 H1 v _ e r q p => by
    have q' : v = a := q
    subst q'
    exact k v h1 S1 H1 e r (G.mono e) p)
theorem exO_bind {K : PySem.W.Frag} {t : TO} {m : MI} {γ δ : Type} {R' : Sh → γ → δ → Prop} {f : Option Int → MH → Out γ} {S : Sh} {H : Hp} {h : MH} {σ : L2.St} {env : MEnv} {Q' : δ → Hp → Prop} {QQ : Option Int → Hp → Prop} (ht : ExO Γ K W t m) (R : Rel Γ K S h H) (G : REnv Γ K S env σ)
    (hp : Post Γ K R' S H Q' (WE' W σ) ((m env h).bind f))
    (k : ∀ a h1 S1 H1, Ext S H S1 H1 → Rel Γ K S1 h1 H1 → REnv Γ K S1 env σ → Post Γ K R' S1 H1 Q' (WE' W σ) (f a h1) → QQ a H1) : t σ H QQ :=
  ht S H h σ env QQ R G (Post.bind hp fun a h1 S1 H1 v _ e r q p => by
    have q' : v = a := q
    subst q'
    exact k v h1 S1 H1 e r (G.mono e) p)

theorem se_int {i j p} : SE Γ X W (.Constant (.int i) j p) (mC (.int i)) := ⟨_, pe_int, fun S H h σ env Q R G p => p.val R (by unfold Rep; rfl)⟩
theorem se_bl {i j p} : SE Γ X W (.Constant (.bool i) j p) (mC (.bl i)) := ⟨_, pe_bl, fun S H h σ env Q R G p => p.val R (by unfold Rep; rfl)⟩
theorem se_non {j p} : SE Γ X W (.Constant .none j p) (mC .non) := ⟨_, pe_non, fun S H h σ env Q R G p => p.val R (by unfold Rep; rfl)⟩
theorem se_str {i j p} : SE Γ X W (.Constant (.str i) j p) (mC (.str i)) := ⟨_, pe_str, fun S H h σ env Q R G p => p.val R (by unfold Rep; rfl)⟩
theorem se_v (i : Nat) {x : Str} {p : Pos} (hN : X.N[i]? = some x := by rfl) (hv : Vis X.env.scope x := by first | exact Or.inl rfl | exact Or.inr (Or.inl rfl) | exact Or.inr (Or.inr rfl)) (hd : (x == ("__debug__" : Str)) = false := by decide)
    (hcd : (x == ("__classdict__" : Str)) = false := by decide) : SE Γ X W (.Name x p) (mV i) := ⟨_, pe_var hN hv hd hcd, fun S H h σ env Q R G q => by
  unfold mV at q
  split at q
  · rename_i d hd
    obtain ⟨v, h1, h2⟩ := G.2 i d hd
    exact ⟨v, h1, q.val R h2⟩
  · exact q.elim⟩
theorem se_op {op : Operator} {r : R2} {f : MV → MV → MH → Out MV} (ho : OpR X (binaryOp op) r) (hl : Lift2 Γ X.K r f) (ha : SE Γ X W a ma) (hb : SE Γ X W b mb) : SE Γ X W (.BinOp a op b pos) (m2 f ma mb) := by
  obtain ⟨ta, pa, ea⟩ := ha.ex
  obtain ⟨tb, pb, eb⟩ := hb.ex
  exact ⟨_, pe_op ho pa pb, fun S H h σ env Q R G p => exE_bind (t := ta) ea R G p fun x h1 S1 H1 u e1 R1 G1 r1 p1 => exE_bind (t := tb) eb R1 G1 p1 fun y h2 S2 H2 v e2 R2 G2 r2 p2 => hl S2 H2 h2 x y u v Q _ R2 (r1.ext e2) r2 p2⟩
theorem se_cmp {op : CmpOp} {r : R2} {f : MV → MV → MH → Out MV} (ho : OpR X (compareOp op) r) (hl : Lift2 Γ X.K r f) (ha : SE Γ X W a ma) (hb : SE Γ X W b mb) (hm : behindInMarks op b = false := by first | exact nobehind _ (by decide) (by decide) | rfl) : SE Γ X W (.Compare a [op] [b] pos) (m2 f ma mb) := by
  obtain ⟨ta, pa, ea⟩ := ha.ex
  obtain ⟨tb, pb, eb⟩ := hb.ex
  exact ⟨_, pe_cmpR ho pa pb hm, fun S H h σ env Q R G p => exE_bind (t := ta) ea R G p fun x h1 S1 H1 u e1 R1 G1 r1 p1 => exE_bind (t := tb) eb R1 G1 p1 fun y h2 S2 H2 v e2 R2 G2 r2 p2 => hl S2 H2 h2 x y u v Q _ R2 (r1.ext e2) r2 p2⟩
theorem rep_bl {K : PySem.W.Frag} {S : Sh} {c : Bool} {v : V} (r : Rep Γ K S (.bl c) v) : v = .bl c := by unfold Rep at r; exact r
theorem rep_int {K : PySem.W.Frag} {S : Sh} {c : Int} {v : V} (r : Rep Γ K S (.int c) v) : v = .int c := by unfold Rep at r; exact r
theorem rep_str {K : PySem.W.Frag} {S : Sh} {c : Str} {v : V} (r : Rep Γ K S (.str c) v) : v = .str c := by unfold Rep at r; exact r
theorem rep_non {K : PySem.W.Frag} {S : Sh} {v : V} (r : Rep Γ K S .non v) : v = .non := by unfold Rep at r; exact r
theorem is_int {K : PySem.W.Frag} {S : Sh} {c : Int} : Rep Γ K S (.int c) (.int c) := by unfold Rep; rfl
theorem is_bl {K : PySem.W.Frag} {S : Sh} {c : Bool} : Rep Γ K S (.bl c) (.bl c) := by unfold Rep; rfl
theorem is_str {K : PySem.W.Frag} {S : Sh} {c : Str} : Rep Γ K S (.str c) (.str c) := by unfold Rep; rfl
theorem is_non {K : PySem.W.Frag} {S : Sh} : Rep Γ K S .non .non := by unfold Rep; rfl
theorem bool_of {K : PySem.W.Frag} {S : Sh} {H : Hp} {E : XK} {γ δ : Type} {R' : Sh → γ → δ → Prop} {Q : δ → Hp → Prop} {x : MV} {u : V} {h : MH} {f : Bool → MH → Out γ} (r : Rep Γ K S x u) (p : Post Γ K R' S H Q E ((boolOf x h).bind f)) : ∃ c, u = .bl c ∧ Post Γ K R' S H Q E (f c h) := by
  cases x with
  | bl c => exact ⟨c, rep_bl r, p⟩
  | non => exact False.elim p
  | int _ => exact False.elim p
  | str _ => exact False.elim p
  | tup _ => exact False.elim p
  | fl _ => exact False.elim p
  | sl _ => exact False.elim p
  | ob _ _ _ => exact False.elim p
  | ref _ => exact False.elim p
  | exo _ _ _ _ => exact False.elim p
theorem bool_ofT {K : PySem.W.Frag} {S : Sh} {H : Hp} {E : XK} {Q : Bool → Hp → Prop} {x : MV} {u : V} {h : MH} (R : Rel Γ K S h H) (r : Rep Γ K S x u) (p : Post Γ K (fun _ (a b : Bool) => b = a) S H Q E (boolOf x h)) : ∃ c, u = .bl c ∧ Q c H := by
  cases x with
  | bl c => exact ⟨c, rep_bl r, p S H c (Ext.refl _ _) R rfl⟩
  | non => exact False.elim p
  | int _ => exact False.elim p
  | str _ => exact False.elim p
  | tup _ => exact False.elim p
  | fl _ => exact False.elim p
  | sl _ => exact False.elim p
  | ob _ _ _ => exact False.elim p
  | ref _ => exact False.elim p
  | exo _ _ _ _ => exact False.elim p

theorem st_cmp {op : CmpOp} {r : R2} {f : MV → MV → MH → Out MV} (ho : OpR X (compareOp op) r) (hl : Lift2 Γ X.K r f) (ha : SE Γ X W a ma) (hb : SE Γ X W b mb) (hm : behindInMarks op b = false := by first | exact nobehind _ (by decide) (by decide) | rfl) : ST Γ X W (.Compare a [op] [b] pos) (mT (m2 f ma mb)) := by
  obtain ⟨ta, pa, ea⟩ := ha.ex
  obtain ⟨tb, pb, eb⟩ := hb.ex
  have hE : ExE Γ X.K W (tOp r ta tb) (m2 f ma mb) := fun S H h σ env Q R G p => exE_bind (t := ta) ea R G p fun x h1 S1 H1 u e1 R1 G1 r1 p1 => exE_bind (t := tb) eb R1 G1 p1 fun y h2 S2 H2 v e2 R2 G2 r2 p2 => hl S2 H2 h2 x y u v Q _ R2 (r1.ext e2) r2 p2
  exact ⟨_, pt_cmpR ho pa pb hm, fun S H h σ env Q R G p => exE_bind (t := tOp r ta tb) hE R G p fun x h1 S1 H1 u e1 R1 G1 r1 p1 => bool_ofT R1 r1 p1⟩
theorem st_val (ha : SE Γ X W e ma) (he : ∀ whole, isTrue e X.env whole = (do let v ← whole; standAt e.pos; holding [v] (truthy v)) := by intro _; rfl) : ST Γ X W e (mT ma) := by
  obtain ⟨ta, pa, ea⟩ := ha.ex
  exact ⟨_, pt_val pa he, fun S H h σ env Q R G p => exE_bind (t := ta) ea R G p fun x h1 S1 H1 u e1 R1 G1 r1 p1 => bool_ofT R1 r1 p1⟩
theorem st_not (ha : ST Γ X W a mt) : ST Γ X W (.UnaryOp .Not a pos) (tNotM mt) := by
  obtain ⟨ta, pa, ea⟩ := ha.ex
  exact ⟨_, pt_not pa, fun S H h σ env Q R G p => exT_bind (t := ta) ea R G p fun x h1 S1 H1 e1 R1 G1 p1 => p1 S1 H1 (!x) (Ext.refl _ _) R1 rfl⟩
theorem SW.st (h : SW Γ X W e mt) : ST Γ X W e mt := by
  obtain ⟨ta, pa, ea⟩ := h.ex
  exact ⟨_, pa.pt, ea⟩
theorem sw_and1 (ha : ST Γ X W a mt) : SW Γ X W (.BoolOp .And [a] pos) mt := by
  obtain ⟨ta, pa, ea⟩ := ha.ex
  exact ⟨_, pw_and1 pa, ea⟩
theorem sw_or1 (ha : ST Γ X W a mt) : SW Γ X W (.BoolOp .Or [a] pos) mt := by
  obtain ⟨ta, pa, ea⟩ := ha.ex
  exact ⟨_, pw_or1 pa, ea⟩
theorem sw_and (ha : ST Γ X W a mt) (hb : SW Γ X W (.BoolOp .And (b :: rest) pos) mu) : SW Γ X W (.BoolOp .And (a :: b :: rest) pos) (tAndM mt mu) := by
  obtain ⟨ta, pa, ea⟩ := ha.ex
  obtain ⟨tb, pb, eb⟩ := hb.ex
  refine ⟨_, pw_and pa pb, fun S H h σ env Q R G p => exT_bind (t := ta) ea R G p fun x h1 S1 H1 e1 R1 G1 p1 => ?_⟩
  cases x with
  | true => exact eb S1 H1 h1 σ env Q R1 G1 p1
  | false => exact p1 S1 H1 _ (Ext.refl _ _) R1 rfl
theorem sw_or (ha : ST Γ X W a mt) (hb : SW Γ X W (.BoolOp .Or (b :: rest) pos) mu) : SW Γ X W (.BoolOp .Or (a :: b :: rest) pos) (tOrM mt mu) := by
  obtain ⟨ta, pa, ea⟩ := ha.ex
  obtain ⟨tb, pb, eb⟩ := hb.ex
  refine ⟨_, pw_or pa pb, fun S H h σ env Q R G p => exT_bind (t := ta) ea R G p fun x h1 S1 H1 e1 R1 G1 p1 => ?_⟩
  cases x with
  | false => exact eb S1 H1 h1 σ env Q R1 G1 p1
  | true => exact p1 S1 H1 _ (Ext.refl _ _) R1 rfl
theorem se_one {op} (ha : SE Γ X W a ma) : SE Γ X W (.BoolOp op [a] pos) ma := by
  obtain ⟨ta, pa, ea⟩ := ha.ex
  exact ⟨_, pe_one pa, ea⟩
theorem se_and (ha : SE Γ X W a ma) (hb : SE Γ X W (.BoolOp .And (b :: rest) pos) mb) : SE Γ X W (.BoolOp .And (a :: b :: rest) pos) (mAnd ma mb) := by
  obtain ⟨ta, pa, ea⟩ := ha.ex
  obtain ⟨tb, pb, eb⟩ := hb.ex
  refine ⟨_, pe_and pa pb, fun S H h σ env Q R G p => exE_bind (t := ta) ea R G p fun x h1 S1 H1 u e1 R1 G1 r1 p1 => ?_⟩
  obtain ⟨c, rfl, p2⟩ := bool_of r1 p1
  refine ⟨c, rfl, ?_⟩
  cases c with
  | true => exact eb S1 H1 h1 σ env Q R1 G1 p2
  | false => exact p2.val R1 is_bl
theorem se_not (ha : SE Γ X W a ma) : SE Γ X W (.UnaryOp .Not a pos) (mNot ma) := by
  obtain ⟨ta, pa, ea⟩ := ha.ex
  refine ⟨_, pe_not pa, fun S H h σ env Q R G p => exE_bind (t := ta) ea R G p fun x h1 S1 H1 u e1 R1 G1 r1 p1 => ?_⟩
  obtain ⟨c, rfl, p2⟩ := bool_of r1 p1
  exact ⟨c, rfl, p2.val R1 is_bl⟩
theorem se_un {op : UnaryOp} {r : V → Hp → VK → Prop} {f : MV → MH → Out MV} (ho : UnR X (unaryOp op) r) (hl : Lift1 Γ X.K r f) (ha : SE Γ X W a ma) : SE Γ X W (.UnaryOp op a pos) (m1 f ma) := by
  obtain ⟨ta, pa, ea⟩ := ha.ex
  exact ⟨_, pe_un ho pa, fun S H h σ env Q R G p => exE_bind (t := ta) ea R G p fun x h1 S1 H1 u e1 R1 G1 r1 p1 => hl S1 H1 h1 x u Q _ R1 r1 p1⟩

theorem sa_nil : SA Γ X W [] maN := ⟨_, pa_nil, fun S H h σ env Q R G p => p S H [] (Ext.refl _ _) R (by unfold RepL; rfl)⟩
theorem sa_cons (ha : SE Γ X W e ma) (hr : SA Γ X W es ms) (hs : starEach (e :: es) X.env = (false, eval e X.env) :: starEach es X.env := by rfl) : SA Γ X W (e :: es) (maC ma ms) := by
  obtain ⟨ta, pa, ea⟩ := ha.ex
  obtain ⟨tr, pr, er⟩ := hr.ex
  refine ⟨_, pa_cons pa pr hs, fun S H h σ env Q R G p => exE_bind (t := ta) ea R G p fun x h1 S1 H1 u e1 R1 G1 r1 p1 => exA_bind (t := tr) er R1 G1 p1 fun xs h2 S2 H2 us e2 R2 G2 r2 p2 => p2 S2 H2 _ (Ext.refl _ _) R2 ?_⟩
  unfold RepL
  exact ⟨u, us, rfl, r1.ext e2, r2⟩
theorem se_callB {x id : String} {p : Pos} {r : List V → Hp → VK → Prop} {f : MF} {es : List Expr} (hc : CallR X (.builtin id) r) (hl : LiftF Γ X.K r f) (hg : Gl X (Str.ofString x)) (hm : X.mg (Str.ofString x) = none) (hv : bootBuiltins (Str.ofString x) = some (.builtin id)) (ha : SA Γ X W (e :: es) ms)
    (hn : (Str.ofString x) ≠ "__name__" := by decide) (hdb : ((Str.ofString x) == ("__debug__" : Str)) = false := by decide)
    (he : starEach (e :: es) X.env = (false, eval e X.env) :: starEach es X.env := by rfl) (hpl : (backTo pos (starEach es X.env)).any (·.1) = false := by rfl) : SE Γ X W (.Call (.Name (Str.ofString x) p) (e :: es) [] pos) (mF f ms) := by
  obtain ⟨ta, pa, ea⟩ := ha.ex
  exact ⟨_, pe_callB hc hg hm hv pa hn hdb he hpl, fun S H h σ env Q R G p => exA_bind (t := ta) ea R G p fun xs h1 S1 H1 us e1 R1 G1 r1 p1 => hl S1 H1 h1 xs us Q _ R1 r1 p1⟩
theorem se_callTy {x T : String} {p : Pos} {r : List V → Hp → VK → Prop} {f : MF} {es : List Expr} (hc : CallR X (.type T) r) (hl : LiftF Γ X.K r f) (hg : Gl X (Str.ofString x)) (hm : X.mg (Str.ofString x) = none) (hv : bootBuiltins (Str.ofString x) = some (.type T)) (ha : SA Γ X W (e :: es) ms)
    (hn : (Str.ofString x) ≠ "__name__" := by decide) (hdb : ((Str.ofString x) == ("__debug__" : Str)) = false := by decide)
    (he : starEach (e :: es) X.env = (false, eval e X.env) :: starEach es X.env := by rfl) (hpl : (backTo pos (starEach es X.env)).any (·.1) = false := by rfl) : SE Γ X W (.Call (.Name (Str.ofString x) p) (e :: es) [] pos) (mF f ms) := by
  obtain ⟨ta, pa, ea⟩ := ha.ex
  exact ⟨_, pe_callTy hc hg hm hv pa hn hdb he hpl, fun S H h σ env Q R G p => exA_bind (t := ta) ea R G p fun xs h1 S1 H1 us e1 R1 G1 r1 p1 => hl S1 H1 h1 xs us Q _ R1 r1 p1⟩
theorem se_ix {r : R2} {f : MV → MV → MH → Out MV} (hr : IxR X r) (hl : Lift2 Γ X.K r f) (ha : SE Γ X W a ma) (hb : SE Γ X W b mb) (hs : PlainIx b := by exact fun _ _ => rfl) : SE Γ X W (.Subscript a b pos) (m2 f ma mb) := by
  obtain ⟨ta, pa, ea⟩ := ha.ex
  obtain ⟨tb, pb, eb⟩ := hb.ex
  exact ⟨_, pe_ix hr pa pb hs, fun S H h σ env Q R G p => exE_bind (t := ta) ea R G p fun x h1 S1 H1 u e1 R1 G1 r1 p1 => exE_bind (t := tb) eb R1 G1 p1 fun y h2 S2 H2 v e2 R2 G2 r2 p2 => hl S2 H2 h2 x y u v Q _ R2 (r1.ext e2) r2 p2⟩
theorem so_none : SO Γ X W none moN := ⟨_, po_none, fun S H h σ env Q R G p => p S H none (Ext.refl _ _) R rfl⟩
theorem so_some (ha : SE Γ X W e ma) : SO Γ X W (some e) (moS ma) := by
  obtain ⟨ta, pa, ea⟩ := ha.ex
  refine ⟨_, po_some pa, fun S H h σ env Q R G p => exE_bind (t := ta) ea R G p fun x h1 S1 H1 u e1 R1 G1 r1 p1 => ?_⟩
  cases x with
  | int i => exact ⟨i, rep_int r1, p1 S1 H1 _ (Ext.refl _ _) R1 rfl⟩
  | non => exact False.elim p1
  | bl _ => exact False.elim p1
  | str _ => exact False.elim p1
  | tup _ => exact False.elim p1
  | fl _ => exact False.elim p1
  | sl _ => exact False.elim p1
  | ob _ _ _ => exact False.elim p1
  | ref _ => exact False.elim p1
  | exo _ _ _ _ => exact False.elim p1
def Lift3 (Γ : Gm) (K : PySem.W.Frag) (r : V → Option Int → Option Int → Hp → VK → Prop) (f : MV → Option Int → Option Int → MH → Out MV) : Prop :=
  ∀ S H h x u lo hi Q E, Rel Γ K S h H → Rep Γ K S x u → Post Γ K (Rep Γ K) S H Q E (f x lo hi h) → r u lo hi H Q
def mSl (f : MV → Option Int → Option Int → MH → Out MV) (a : ME) (l u : MI) : ME := fun env h => (a env h).bind fun x h => (l env h).bind fun lo h => (u env h).bind fun hi h => f x lo hi h
theorem se_slice {r : V → Option Int → Option Int → Hp → VK → Prop} {f : MV → Option Int → Option Int → MH → Out MV} {lo hi : Option Expr} {p2 : Pos} {ml mh : MI} (hr : SlR X r) (hl : Lift3 Γ X.K r f) (ha : SE Γ X W e ma) (h1 : SO Γ X W lo ml) (h2 : SO Γ X W hi mh) :
    SE Γ X W (.Subscript e (.Slice lo hi none p2) pos) (mSl f ma ml mh) := by
  obtain ⟨ta, pa, ea⟩ := ha.ex
  obtain ⟨tl, pl, el⟩ := h1.ex
  obtain ⟨th, ph, eh⟩ := h2.ex
  exact ⟨_, pe_slice hr pa pl ph, fun S H h σ env Q R G p => exE_bind (t := ta) ea R G p fun x h1 S1 H1 u e1 R1 G1 r1 p1 => exO_bind (t := tl) el R1 G1 p1 fun l h2 S2 H2 e2 R2 G2 p2 => exO_bind (t := th) eh R2 G2 p2 fun k h3 S3 H3 e3 R3 G3 p3 => hl S3 H3 h3 x u l k Q _ R3 ((r1.ext e2).ext e3) p3⟩
end
end Mn
set_option Elab.async false
set_option linter.all false
set_option maxRecDepth 100000
namespace Mn
open PySem PySem.Spec PyProof.Rows L2

def wlst (h : MH) : MV → Option (List MV)
  | .fl xs => some xs
  | .ref n => match h[n]? with
    | some (.lst xs) => some xs
    | _ => none
  | _ => none
def lstAt (h : MH) : MV → Option (List MV)
  | .fl xs => some xs
  | .sl xs => some xs
  | .ref n => match h[n]? with
    | some (.lst xs) => some xs
    | _ => none
  | _ => none
def seqAt (h : MH) (v : MV) : Option (List MV) := match v with
  | .tup xs => some xs
  | v => lstAt h v

section
variable {Γ : Gm} {K : PySem.W.Frag} {S : Sh} {H : Hp} {h : MH} {E : XK} {Q : VK}
theorem repL_len : ∀ {xs : List MV} {us : List V}, RepL Γ K S xs us → xs.length = us.length
  | [], us, r => by unfold RepL at r; rw [r]; rfl
  | x :: xs, us, r => by
    unfold RepL at r
    obtain ⟨u, r', rfl, _, q⟩ := r
    rw [List.length_cons, List.length_cons, repL_len q]
theorem repL_get : ∀ {xs : List MV} {us : List V} {i : Nat} {x : MV}, RepL Γ K S xs us → xs[i]? = some x → ∃ u, us[i]? = some u ∧ Rep Γ K S x u
  | [], _, _, _, _, e => by simp at e
  | x :: xs, us, 0, y, r, e => by
    unfold RepL at r
    obtain ⟨u, r', rfl, q, _⟩ := r
    simp at e; subst e
    exact ⟨u, rfl, q⟩
  | x :: xs, us, i + 1, y, r, e => by
    unfold RepL at r
    obtain ⟨u, r', rfl, _, q⟩ := r
    obtain ⟨v, h1, h2⟩ := repL_get (i := i) q (by simpa using e)
    exact ⟨v, by simpa using h1, h2⟩
theorem repL_nil : RepL Γ K S [] [] := by unfold RepL; rfl
theorem repL_cons {x : MV} {u : V} {xs : List MV} {us : List V} (a : Rep Γ K S x u) (b : RepL Γ K S xs us) : RepL Γ K S (x :: xs) (u :: us) := by
  unfold RepL; exact ⟨u, us, rfl, a, b⟩
theorem repL_app : ∀ {xs ys : List MV} {us vs : List V}, RepL Γ K S xs us → RepL Γ K S ys vs → RepL Γ K S (xs ++ ys) (us ++ vs)
  | [], ys, us, vs, a, b => by unfold RepL at a; subst a; exact b
  | x :: xs, ys, us, vs, a, b => by
    unfold RepL at a
    obtain ⟨u, r', rfl, q, a'⟩ := a
    exact repL_cons q (repL_app a' b)
theorem repL_set {x : MV} {u : V} (q : Rep Γ K S x u) : ∀ {xs : List MV} {us : List V} (i : Nat), RepL Γ K S xs us → RepL Γ K S (xs.set i x) (us.set i u)
  | [], us, i, a => by unfold RepL at a; subst a; exact repL_nil
  | y :: xs, us, 0, a => by
    unfold RepL at a
    obtain ⟨u', r', rfl, _, a'⟩ := a
    exact repL_cons q a'
  | y :: xs, us, i + 1, a => by
    unfold RepL at a
    obtain ⟨u', r', rfl, q', a'⟩ := a
    exact repL_cons q' (repL_set q i a')
theorem repL_take : ∀ {xs : List MV} {us : List V} (n : Nat), RepL Γ K S xs us → RepL Γ K S (xs.take n) (us.take n)
  | _, _, 0, _ => repL_nil
  | [], us, n + 1, a => by unfold RepL at a; subst a; exact repL_nil
  | y :: xs, us, n + 1, a => by
    unfold RepL at a
    obtain ⟨u', r', rfl, q', a'⟩ := a
    exact repL_cons q' (repL_take n a')
theorem repL_drop : ∀ {xs : List MV} {us : List V} (n : Nat), RepL Γ K S xs us → RepL Γ K S (xs.drop n) (us.drop n)
  | _, _, 0, a => a
  | [], us, n + 1, a => by unfold RepL at a; subst a; exact repL_nil
  | y :: xs, us, n + 1, a => by
    unfold RepL at a
    obtain ⟨u', r', rfl, q', a'⟩ := a
    exact repL_drop n a'
theorem repL_rev : ∀ {xs : List MV} {us : List V}, RepL Γ K S xs us → RepL Γ K S xs.reverse us.reverse
  | [], us, a => by unfold RepL at a; subst a; exact repL_nil
  | y :: xs, us, a => by
    unfold RepL at a
    obtain ⟨u', r', rfl, q', a'⟩ := a
    rw [List.reverse_cons, List.reverse_cons]
    exact repL_app (repL_rev a') (repL_cons q' repL_nil)
theorem repL_dropLast {xs : List MV} {us : List V} (a : RepL Γ K S xs us) : RepL Γ K S xs.dropLast us.dropLast := by
  rw [List.dropLast_eq_take, List.dropLast_eq_take, repL_len a]
  exact repL_take _ a
theorem repL_rep {xs : List MV} {us : List V} (a : RepL Γ K S xs us) : ∀ n : Nat, RepL Γ K S (List.replicate n xs).flatten (List.replicate n us).flatten
  | 0 => repL_nil
  | n + 1 => by
    rw [List.replicate_succ, List.replicate_succ, List.flatten_cons, List.flatten_cons]
    exact repL_app a (repL_rep a n)
theorem ints_repL : ∀ (ns : List Int), RepL Γ K S (ns.map MV.int) (ns.map V.int)
  | [] => repL_nil
  | n :: ns => repL_cons is_int (ints_repL ns)

theorem wlst_ok {d : MV} {v : V} {xs : List MV} (R : Rel Γ K S h H) (e : wlst h d = some xs) (r : Rep Γ K S d v) : ∃ a us, v = .ref a ∧ H a = some (.lst us) ∧ RepL Γ K S xs us := by
  cases d with
  | fl ys =>
    unfold Rep at r
    obtain ⟨a, us, e1, e2, e3⟩ := r
    cases (show some ys = some xs from e)
    exact ⟨a, us, e1, R.sub _ _ e2, e3⟩
  | ref n =>
    unfold Rep at r
    obtain ⟨a, e1, e2⟩ := r
    unfold wlst at e
    simp only at e
    split at e
    · rename_i ys hy
      cases e
      obtain ⟨_, us, q1, q2⟩ := R.cell n _ a hy e1
      exact ⟨a, us, e2, q1, q2⟩
    · cases e
  | _ => cases e
theorem lstAt_ok {d : MV} {v : V} {xs : List MV} (R : Rel Γ K S h H) (e : lstAt h d = some xs) (r : Rep Γ K S d v) : ∃ a us, v = .ref a ∧ SqL K H a us ∧ RepL Γ K S xs us := by
  cases d with
  | sl ys =>
    unfold Rep at r
    obtain ⟨a, us, e1, e2, e3⟩ := r
    cases (show some ys = some xs from e)
    refine ⟨a, us, e1, ?_, e3⟩
    rcases e2 with (q | ⟨o, q⟩) | q
    · exact .inl (.inl (R.sub _ _ q))
    · exact .inl (.inr ⟨o, R.sub _ _ q⟩)
    · exact .inr q
  | fl ys =>
    obtain ⟨a, us, q1, q2, q3⟩ := wlst_ok (h := h) (d := .fl ys) (xs := xs) R e r
    exact ⟨a, us, q1, SqL.of q2, q3⟩
  | ref n =>
    obtain ⟨a, us, q1, q2, q3⟩ := wlst_ok (h := h) (d := .ref n) (xs := xs) R e r
    exact ⟨a, us, q1, SqL.of q2, q3⟩
  | _ => cases e
theorem sqT_sub {a : Addr} {us : List V} (R : Rel Γ K S h H) (q : SqT K S.Hs a us) : SqT K H a us := by
  rcases q with (q | ⟨o, q⟩) | q
  · exact .inl (.inl (R.sub _ _ q))
  · exact .inl (.inr ⟨o, R.sub _ _ q⟩)
  · exact .inr q
theorem tup_ok {v : V} {xs : List MV} (R : Rel Γ K S h H) (r : Rep Γ K S (.tup xs) v) : ∃ a us, v = .ref a ∧ SqT K H a us ∧ RepL Γ K S xs us := by
  unfold Rep at r
  obtain ⟨a, us, e1, e2, e3⟩ := r
  exact ⟨a, us, e1, sqT_sub R e2, e3⟩
theorem seqAt_ok {d : MV} {v : V} {xs : List MV} (R : Rel Γ K S h H) (e : seqAt h d = some xs) (r : Rep Γ K S d v) : ∃ a us, v = .ref a ∧ (SqL K H a us ∨ SqT K H a us) ∧ RepL Γ K S xs us := by
  unfold seqAt at e
  split at e
  · cases e
    obtain ⟨a, us, q1, q2, q3⟩ := tup_ok R r
    exact ⟨a, us, q1, .inr q2, q3⟩
  · obtain ⟨a, us, q1, q2, q3⟩ := lstAt_ok R e r
    exact ⟨a, us, q1, .inl q2, q3⟩

def retL (b : Bool) (xs : List MV) (h : MH) : Out MV := if b = true then .ok (.ref h.length) (h ++ [.lst xs]) else .ok (.fl xs) h
theorem newL {b : Bool} {xs : List MV} {us : List V} (R : Rel Γ K S h H) (r : RepL Γ K S xs us) (p : Post Γ K (Rep Γ K) S H Q E (retL b xs h)) : ∀ q, H q = none → Q (.ref q) (upd H q (.lst us)) := by
  intro q hq
  cases b with
  | true =>
    obtain ⟨R1, e1⟩ := R.alloc (o := .lst us) (c := .lst xs) hq (fun S' s1 s2 => ⟨(by
      rw [s1]
      cases z : S.Hs q with
      | none => rfl
      | some o => (rw [R.sub _ _ z] at hq; cases hq)), us, upd_same, repL_mono (fun a o z => by rw [s1]; exact z) (fun n a z => by rw [s2, List.getElem?_append_left (List.getElem?_eq_some_iff.mp z).1]; exact z) _ _ r⟩)
    refine p _ _ _ e1 R1 ?_
    unfold Rep
    exact ⟨q, by show (S.ι ++ [q])[h.length]? = some q; rw [← R.len]; simp, rfl⟩
  | false =>
    obtain ⟨R1, e1⟩ := R.froz (o := .lst us) hq
    refine p _ _ _ e1 R1 ?_
    unfold Rep
    exact ⟨q, us, rfl, upd_same, r.ext e1⟩
theorem newT {xs : List MV} {us : List V} (R : Rel Γ K S h H) (r : RepL Γ K S xs us) (p : Post Γ K (Rep Γ K) S H Q E (.ok (.tup xs) h)) : ∀ q, H q = none → Q (.ref q) (upd H q (.tup us)) := by
  intro q hq
  obtain ⟨R1, e1⟩ := R.froz (o := .tup us) hq
  refine p _ _ _ e1 R1 ?_
  unfold Rep
  exact ⟨q, us, rfl, SqT.of upd_same, r.ext e1⟩
end

theorem OpR.or {X : Cx} {f : Value → Value → Sem Value} {r r' : R2} (a : OpR X f r) (b : OpR X f r') : OpR X f (fun x y H Q => r x y H Q ∨ r' x y H Q) := by
  intro pins s σ H x y v u Q I rx ry h
  rcases h with h | h
  · exact a pins s σ H x y v u Q I rx ry h
  · exact b pins s σ H x y v u Q I rx ry h
def rAddAll (K : PySem.W.Frag) : R2 := fun x y H Q => (∃ i j, x = .int i ∧ y = .int j ∧ Q (.int (i + j)) H) ∨ (∃ i j, x = .str i ∧ y = .str j ∧ i.length + j.length ≤ sizeLine ∧ Q (.str (i ++ j)) H) ∨ rCatA K x y H Q ∨ rCat x y H Q
theorem op_addAll {X : Cx} : OpR X (binaryOp .Add) (rAddAll X.K) := OpR.or op_add (OpR.or op_add_str (OpR.or op_catA op_cat))
def fAdd (b : Bool) : MV → MV → MH → Out MV
  | .int i, .int j, h => .ok (.int (i + j)) h
  | .str x, .str y, h => if x.length + y.length ≤ sizeLine then .ok (.str (x ++ y)) h else .stuck
  | .tup xs, .tup ys, h => if xs.length + ys.length ≤ sizeLine then .ok (.tup (xs ++ ys)) h else .stuck
  | x, y, h => match wlst h x, wlst h y with
    | some xs, some ys => if xs.length + ys.length ≤ sizeLine then retL b (xs ++ ys) h else .stuck
    | _, _ => .stuck
section
variable {Γ : Gm} {K : PySem.W.Frag}
theorem lift_add {b : Bool} : Lift2 Γ K (rAddAll K) (fAdd b) := by
  intro S H h x y u v Q E R rx ry p
  unfold fAdd at p
  split at p
  · exact .inl ⟨_, _, rep_int rx, rep_int ry, p.val R is_int⟩
  · split at p
    · rename_i hz
      exact .inr (.inl ⟨_, _, rep_str rx, rep_str ry, hz, p.val R is_str⟩)
    · exact p.elim
  · split at p
    · rename_i _ _ xs ys hz
      have rx' := rx
      have ry' := ry
      obtain ⟨a, us, rfl, q2, q3⟩ := tup_ok R rx
      obtain ⟨c, vs, rfl, w2, w3⟩ := tup_ok R ry
      have l1 := repL_len q3
      have l2 := repL_len w3
      refine .inr (.inr (.inl ⟨a, c, us, vs, rfl, rfl, q2, w2, by omega, fun e => ?_, fun e1 e2 => ?_, fun e1 e2 => newT R (repL_app q3 w3) p⟩))
      · subst e
        have : xs = [] := List.length_eq_zero_iff.mp l1
        subst this
        exact p.val R ry'
      · subst e2
        have : ys = [] := List.length_eq_zero_iff.mp l2
        subst this
        rw [List.append_nil] at p
        exact p.val R rx'
    · exact p.elim
  · split at p
    · rename_i xs ys e1 e2
      split at p
      · rename_i hz
        obtain ⟨a, us, rfl, q2, q3⟩ := wlst_ok R e1 rx
        obtain ⟨c, vs, rfl, w2, w3⟩ := wlst_ok R e2 ry
        have l1 := repL_len q3
        have l2 := repL_len w3
        exact .inr (.inr (.inr ⟨a, c, us, vs, rfl, rfl, q2, w2, by omega, newL R (repL_app q3 w3) p⟩))
      · exact p.elim
    · exact p.elim
def fII (c : Int → Int → Bool) (g : Int → Int → MV) : MV → MV → MH → Out MV
  | .int i, .int j, h => if c i j = true then .ok (g i j) h else .stuck
  | _, _, _ => .stuck
theorem lift_ii {C : Int → Int → Prop} {c : Int → Int → Bool} {g : Int → Int → MV} {g' : Int → Int → V} (hc : ∀ i j, c i j = true → C i j) (hg : ∀ i j S, Rep Γ K S (g i j) (g' i j)) : Lift2 Γ K (rI C g') (fII c g) := by
  intro S H h x y u v Q E R rx ry p
  unfold fII at p
  split at p
  · split at p
    · rename_i hz
      exact ⟨_, _, rep_int rx, rep_int ry, hc _ _ hz, p.val R (hg _ _ _)⟩
    · exact p.elim
  · exact p.elim
theorem lift_ii0 {g : Int → Int → MV} {g' : Int → Int → V} (hg : ∀ i j S, Rep Γ K S (g i j) (g' i j)) : Lift2 Γ K (rI0 g') (fII (fun _ _ => true) g) := by
  intro S H h x y u v Q E R rx ry p
  unfold fII at p
  split at p
  · rw [if_pos rfl] at p
    exact ⟨_, _, rep_int rx, rep_int ry, p.val R (hg _ _ _)⟩
  · exact p.elim
abbrev fSub := fII (fun _ _ => true) (fun i j => .int (i - j))
theorem lift_sub : Lift2 Γ K (rI0 fun i j => .int (i - j)) fSub := lift_ii0 fun _ _ _ => is_int
def cMul (i j : Int) : Bool := (decide (-(2 ^ 64) < i) && decide (i < 2 ^ 64)) || (decide (-(2 ^ 64) < j) && decide (j < 2 ^ 64))
abbrev fDiv := fII (fun _ j => decide (0 < j ∧ j < 1073741824)) (fun i j => .int (i / j))
theorem lift_div : Lift2 Γ K (rI CDiv fun i j => .int (i / j)) fDiv := lift_ii (fun i j h => show 0 < j ∧ j < 1073741824 from of_decide_eq_true h) fun _ _ _ => is_int
abbrev fMod := fII (fun _ j => decide (0 < j)) (fun i j => .int (i % j))
theorem lift_mod : Lift2 Γ K (rI (fun _ j => 0 < j) fun i j => .int (i % j)) fMod := lift_ii (fun _ _ h => of_decide_eq_true h) fun _ _ _ => is_int
abbrev fPow := fII (fun i j => decide (0 ≤ j ∧ j ≤ 1000000 ∧ i.natAbs < 2 ^ 64)) (fun i j => .int (i ^ j.toNat))
theorem lift_pow : Lift2 Γ K (rI CPow fun i j => .int (i ^ j.toNat)) fPow := lift_ii (fun i j h => show 0 ≤ j ∧ j ≤ 1000000 ∧ i.natAbs < 2 ^ 64 from of_decide_eq_true h) fun _ _ _ => is_int
abbrev fLt := fII (fun _ _ => true) (fun i j => .bl (decide (i < j)))
theorem lift_lt : Lift2 Γ K (rI0 fun i j => .bl (decide (i < j))) fLt := lift_ii0 fun _ _ _ => is_bl
abbrev fLe := fII (fun _ _ => true) (fun i j => .bl (decide (i ≤ j)))
theorem lift_le : Lift2 Γ K (rI0 fun i j => .bl (decide (i ≤ j))) fLe := lift_ii0 fun _ _ _ => is_bl
abbrev fGt := fII (fun _ _ => true) (fun i j => .bl (decide (j < i)))
theorem lift_gt : Lift2 Γ K (rI0 fun i j => .bl (decide (j < i))) fGt := lift_ii0 fun _ _ _ => is_bl
abbrev fGe := fII (fun _ _ => true) (fun i j => .bl (decide (j ≤ i)))
theorem lift_ge : Lift2 Γ K (rI0 fun i j => .bl (decide (j ≤ i))) fGe := lift_ii0 fun _ _ _ => is_bl
def fUI (g : Int → MV) : MV → MH → Out MV
  | .int i, h => .ok (g i) h
  | _, _ => .stuck
theorem lift_ui {g : Int → MV} {g' : Int → V} (hg : ∀ i S, Rep Γ K S (g i) (g' i)) : Lift1 Γ K (rU g') (fUI g) := by
  intro S H h x u Q E R rx p
  unfold fUI at p
  split at p
  · exact ⟨_, rep_int rx, p.val R (hg _ _)⟩
  · exact p.elim
abbrev fNeg := fUI (fun i => .int (-i))
theorem lift_neg : Lift1 Γ K (rU fun i => .int (-i)) fNeg := lift_ui fun _ _ => is_int
def rMulAll (K : PySem.W.Frag) : R2 := fun x y H Q => rI CMul (fun i j => .int (i * j)) x y H Q ∨ rRepT K x y H Q ∨ rRep x y H Q
theorem op_mulAll {X : Cx} : OpR X (binaryOp .Mult) (rMulAll X.K) := OpR.or op_mul (OpR.or op_repT op_rep)
def fMul (b : Bool) : MV → MV → MH → Out MV
  | .int i, .int j, h => if cMul i j = true then .ok (.int (i * j)) h else .stuck
  | .tup xs, .int k, h => if xs ≠ [] ∧ 2 ≤ k ∧ k ≤ 1000 ∧ xs.length ≤ 1000 then .ok (.tup (List.replicate k.toNat xs).flatten) h else .stuck
  | x, .int k, h => match wlst h x with
    | some xs => if -(2 ^ 63) ≤ k ∧ k < 2 ^ 63 ∧ xs.length * k.toNat ≤ sizeLine then retL b (List.replicate k.toNat xs).flatten h else .stuck
    | _ => .stuck
  | _, _, _ => .stuck
theorem lift_mul {b : Bool} : Lift2 Γ K (rMulAll K) (fMul b) := by
  intro S H h x y u v Q E R rx ry p
  unfold fMul at p
  split at p
  · split at p
    · rename_i hz
      refine .inl ⟨_, _, rep_int rx, rep_int ry, ?_, p.val R is_int⟩
      unfold cMul at hz
      simp only [Bool.or_eq_true, Bool.and_eq_true, decide_eq_true_eq] at hz
      exact hz
    · exact p.elim
  · split at p
    · rename_i _ _ xs k hz
      obtain ⟨a, us, rfl, q2, q3⟩ := tup_ok R rx
      have l1 := repL_len q3
      refine .inr (.inl ⟨a, k, us, rfl, rep_int ry, q2, fun e => hz.1 ?_, hz.2.1, hz.2.2.1, by rw [← l1]; exact hz.2.2.2, newT R (repL_rep q3 _) p⟩)
      subst e
      exact List.length_eq_zero_iff.mp l1
    · exact p.elim
  · split at p
    · rename_i xs e1
      split at p
      · rename_i hz
        obtain ⟨a, us, rfl, q2, q3⟩ := wlst_ok R e1 rx
        have l1 := repL_len q3
        exact .inr (.inr ⟨a, _, us, rfl, rep_int ry, q2, hz.1, hz.2.1, by rw [← l1]; exact hz.2.2, newL R (repL_rep q3 _) p⟩)
      · exact p.elim
    · exact p.elim
  · exact p.elim

mutual
def toD (r : Nat → Option PyData) : MV → Option PyData
  | .non => some .none
  | .bl b => some (.bool b)
  | .int i => some (.int i)
  | .str x => some (.str x)
  | .tup xs => (toDL r xs).map .tuple
  | .fl xs => (toDL r xs).map .list
  | .sl xs => (toDL r xs).map .list
  | .ob _ _ _ => none
  | .ref n => r n
  | .exo _ _ _ _ => none
def toDL (r : Nat → Option PyData) : List MV → Option (List PyData)
  | [] => some []
  | x :: xs => match toD r x, toDL r xs with
    | some d, some ds => some (d :: ds)
    | _, _ => none
end
def rD (h : MH) : Nat → Nat → Option PyData
  | 0, _ => none
  | k + 1, n => match h[n]? with
    | some (.lst xs) => (toDL (rD h k) xs).map .list
    | _ => none
def dataOf (h : MH) (d : MV) : Option PyData := toD (rD h 4) d
def fEq (neg : Bool) (x y : MV) (h : MH) : Out MV := match dataOf h x, dataOf h y with
  | some d, some e => if SeqAt.shaped d = true ∧ SeqAt.shaped e = true then .ok (.bl (if neg = true then !PyData.eqv d e else PyData.eqv d e)) h else .stuck
  | _, _ => .stuck
mutual
theorem dp_of {S : Sh} {H : Hp} {h : MH} {r : Nat → Option PyData} (R : Rel Γ K S h H) (hr : ∀ n d a, r n = some d → S.ι[n]? = some a → Dp K H (.ref a) d) : ∀ (x : MV) (d : PyData) (v : V), toD r x = some d → Rep Γ K S x v → Dp K H v d
  | .non, d, v, e, q => by
    unfold toD at e; cases e; rw [rep_non q]; exact .non
  | .bl b, d, v, e, q => by
    unfold toD at e; cases e; rw [rep_bl q]; exact .bl b
  | .int i, d, v, e, q => by
    unfold toD at e; cases e; rw [rep_int q]; exact .int i
  | .str x, d, v, e, q => by
    unfold toD at e; cases e; rw [rep_str q]; exact .str x
  | .tup xs, d, v, e, q => by
    unfold toD at e
    cases z : toDL r xs with
    | none => rw [z] at e; cases e
    | some ds =>
      rw [z] at e; cases e
      obtain ⟨a, us, rfl, q2, q3⟩ := tup_ok R q
      exact .tup q2 (dpL_of R hr xs ds us z q3)
  | .fl xs, d, v, e, q => by
    unfold toD at e
    cases z : toDL r xs with
    | none => rw [z] at e; cases e
    | some ds =>
      rw [z] at e; cases e
      obtain ⟨a, us, rfl, q2, q3⟩ := lstAt_ok (xs := xs) R rfl q
      exact .lst q2 (dpL_of R hr xs ds us z q3)
  | .sl xs, d, v, e, q => by
    unfold toD at e
    cases z : toDL r xs with
    | none => rw [z] at e; cases e
    | some ds =>
      rw [z] at e; cases e
      obtain ⟨a, us, rfl, q2, q3⟩ := lstAt_ok (xs := xs) R rfl q
      exact .lst q2 (dpL_of R hr xs ds us z q3)
  | .ob C ks xs, d, v, e, q => by unfold toD at e; cases e
  | .exo _ _ _ _, d, v, e, q => by unfold toD at e; cases e
  | .ref n, d, v, e, q => by
    unfold toD at e
    unfold Rep at q
    obtain ⟨a, e1, rfl⟩ := q
    exact hr n d a e e1
theorem dpL_of {S : Sh} {H : Hp} {h : MH} {r : Nat → Option PyData} (R : Rel Γ K S h H) (hr : ∀ n d a, r n = some d → S.ι[n]? = some a → Dp K H (.ref a) d) : ∀ (xs : List MV) (ds : List PyData) (vs : List V), toDL r xs = some ds → RepL Γ K S xs vs → DpAll K H vs ds
  | [], ds, vs, e, q => by
    unfold toDL at e; cases e
    unfold RepL at q; subst q
    exact .nil
  | x :: xs, ds, vs, e, q => by
    unfold RepL at q
    obtain ⟨u, r', rfl, q1, q2⟩ := q
    unfold toDL at e
    cases z1 : toD r x with
    | none => rw [z1] at e; cases e
    | some d =>
      cases z2 : toDL r xs with
      | none => rw [z1, z2] at e; cases e
      | some ds' =>
        rw [z1, z2] at e; cases e
        exact .cons (dp_of R hr x d u z1 q1) (dpL_of R hr xs ds' r' z2 q2)
end
theorem dp_ref {S : Sh} {H : Hp} {h : MH} (R : Rel Γ K S h H) : ∀ (k : Nat) (n : Nat) (d : PyData) (a : Addr), rD h k n = some d → S.ι[n]? = some a → Dp K H (.ref a) d
  | 0, _, _, _, e, _ => by cases e
  | k + 1, n, d, a, e, i => by
    unfold rD at e
    split at e
    · rename_i xs hx
      cases z : toDL (rD h k) xs with
      | none => rw [z] at e; cases e
      | some ds =>
        rw [z] at e; cases e
        obtain ⟨_, us, q1, q2⟩ := R.cell n _ a hx i
        exact .lst (SqL.of q1) (dpL_of R (fun n d a e i => dp_ref R k n d a e i) xs ds us z q2)
    · cases e
theorem dataOf_ok {S : Sh} {H : Hp} {h : MH} {x : MV} {d : PyData} {v : V} (R : Rel Γ K S h H) (e : dataOf h x = some d) (q : Rep Γ K S x v) : Dp K H v d := dp_of R (fun n d a e i => dp_ref R 4 n d a e i) x d v e q
theorem lift_eq : Lift2 Γ K (rEqD K) (fEq false) := by
  intro S H h x y u v Q E R rx ry p
  unfold fEq at p
  split at p
  · rename_i d e h1 h2
    split at p
    · rename_i hz
      exact ⟨d, e, dataOf_ok R h1 rx, dataOf_ok R h2 ry, hz.1, hz.2, p.val R is_bl⟩
    · exact p.elim
  · exact p.elim
theorem lift_ne : Lift2 Γ K (rNeD K) (fEq true) := by
  intro S H h x y u v Q E R rx ry p
  unfold fEq at p
  split at p
  · rename_i d e h1 h2
    split at p
    · rename_i hz
      exact ⟨d, e, dataOf_ok R h1 rx, dataOf_ok R h2 ry, hz.1, hz.2, p.val R is_bl⟩
    · exact p.elim
  · exact p.elim
def fIsN (neg : Bool) (x y : MV) (h : MH) : Out MV := match x, y with
  | .non, .non => .ok (.bl (!neg)) h
  | _, .non => .ok (.bl neg) h
  | _, _ => .stuck
theorem rep_notnon {S : Sh} {x : MV} {v : V} (r : Rep Γ K S x v) (hx : x ≠ .non) : v ≠ .non := by
  intro e
  subst e
  cases x with
  | non => exact hx rfl
  | bl _ => cases rep_bl r
  | int _ => cases rep_int r
  | str _ => cases rep_str r
  | tup _ => unfold Rep at r; obtain ⟨_, _, e, _⟩ := r; cases e
  | fl _ => unfold Rep at r; obtain ⟨_, _, e, _⟩ := r; cases e
  | sl _ => unfold Rep at r; obtain ⟨_, _, e, _⟩ := r; cases e
  | ob _ _ _ => unfold Rep at r; obtain ⟨_, _, _, e, _⟩ := r; cases e
  | ref _ => unfold Rep at r; obtain ⟨_, _, e⟩ := r; cases e
  | exo _ _ _ _ => unfold Rep at r; cases r.1
theorem lift_isN : Lift2 Γ K (fun x y H Q => y = .non ∧ Q (.bl (decide (x = .non))) H) (fIsN false) := by
  intro S H h x y u v Q E R rx ry p
  unfold fIsN at p
  split at p
  · refine ⟨rep_non ry, ?_⟩
    rw [rep_non rx]
    exact p.val R is_bl
  · rename_i h1
    refine ⟨rep_non ry, ?_⟩
    rw [decide_eq_false (rep_notnon rx (fun e => h1 e))]
    exact p.val R is_bl
  · exact p.elim
def fIx : MV → MV → MH → Out MV
  | .str z, .int i, h => if z.length ≤ sizeLine then (match atI z.cps.toList i with
    | some c => .ok (.str ⟨#[c]⟩) h
    | none => .stuck) else .stuck
  | x, .int i, h => match seqAt h x with
    | some xs => match atI xs i with
      | some d => .ok d h
      | none => .stuck
    | none => .stuck
  | _, _, _ => .stuck
theorem atI_rep {S : Sh} {xs : List MV} {us : List V} {i : Int} {d : MV} (r : RepL Γ K S xs us) (e : atI xs i = some d) : ∃ u, atI us i = some u ∧ Rep Γ K S d u := by
  unfold atI at *
  rw [← repL_len r]
  cases z : ixN xs.length i with
  | none => rw [z] at e; cases e
  | some j =>
    rw [z] at e
    exact repL_get r e
theorem lift_ix : Lift2 Γ K (rIx K) fIx := by
  intro S H h x y u v Q E R rx ry p
  unfold fIx at p
  split at p
  · split at p
    · rename_i hz
      split at p
      · rename_i c hc
        exact .inr (.inr ⟨_, _, c, rep_str rx, rep_int ry, hz, hc, p.val R is_str⟩)
      · exact p.elim
    · exact p.elim
  · split at p
    · rename_i xs hx
      split at p
      · rename_i d hd
        obtain ⟨a, us, rfl, q2, q3⟩ := seqAt_ok R hx rx
        obtain ⟨w, w1, w2⟩ := atI_rep q3 hd
        rcases q2 with q2 | q2
        · exact .inl ⟨a, us, _, w, rfl, rep_int ry, q2, w1, p.val R w2⟩
        · exact .inr (.inl ⟨a, us, _, w, rfl, rep_int ry, q2, w1, p.val R w2⟩)
      · exact p.elim
    · exact p.elim
  · exact p.elim

theorem SlR.or {X : Cx} {r r' : V → Option Int → Option Int → Hp → VK → Prop} (a : SlR X r) (b : SlR X r') : SlR X (fun x lo hi H Q => r x lo hi H Q ∨ r' x lo hi H Q) := by
  intro pins s σ H x v vl vu lo hi sl Q I rx hs pl pu h
  rcases h with h | h
  · exact a pins s σ H x v vl vu lo hi sl Q I rx hs pl pu h
  · exact b pins s σ H x v vl vu lo hi sl Q I rx hs pl pu h
def rSlAll (K : PySem.W.Frag) : V → Option Int → Option Int → Hp → VK → Prop := fun x lo hi H Q => rSlA K x lo hi H Q ∨ rSlL K x lo hi H Q ∨ rSlS x lo hi H Q
theorem sl_all {X : Cx} : SlR X (rSlAll X.K) := SlR.or sl_tupA (SlR.or sl_list sl_str)
def cutM (xs : List MV) (lo hi : Option Int) : List MV := (xs.drop (HT.sIx xs.length 0 lo)).take (HT.sIx xs.length xs.length hi - HT.sIx xs.length 0 lo)
def fSl (b : Bool) : MV → Option Int → Option Int → MH → Out MV
  | .str z, lo, hi, h => if z.length ≤ sizeLine then .ok (.str (cutS z lo hi)) h else .stuck
  | .tup xs, lo, hi, h => .ok (.tup (cutM xs lo hi)) h
  | x, lo, hi, h => match lstAt h x with
    | some xs => retL b (cutM xs lo hi) h
    | none => .stuck
theorem cut_rep {S : Sh} {xs : List MV} {us : List V} {lo hi : Option Int} (r : RepL Γ K S xs us) : RepL Γ K S (cutM xs lo hi) (cutV us lo hi) := by
  unfold cutM cutV
  rw [repL_len r]
  exact repL_take _ (repL_drop _ r)
theorem lift_sl {b : Bool} : Lift3 Γ K (rSlAll K) (fSl b) := by
  intro S H h x u lo hi Q E R rx p
  unfold fSl at p
  split at p
  · split at p
    · rename_i hz
      exact .inr (.inr ⟨_, rep_str rx, hz, p.val R is_str⟩)
    · exact p.elim
  · rename_i xs
    have rx' := rx
    obtain ⟨a, us, rfl, q2, q3⟩ := tup_ok R rx
    refine .inl ⟨a, us, rfl, q2, fun e => ?_, fun _ => newT R (cut_rep q3) p⟩
    have : cutM xs lo hi = xs := by
      unfold cutM
      rw [repL_len q3, e.1, e.2, List.drop_zero, ← repL_len q3, Nat.sub_zero, List.take_length]
    rw [this] at p
    exact p.val R rx'
  · split at p
    · rename_i xs e1
      obtain ⟨a, us, rfl, q2, q3⟩ := lstAt_ok R e1 rx
      exact .inr (.inl ⟨a, us, rfl, q2, newL R (cut_rep q3) p⟩)
    · exact p.elim
end
end Mn
set_option Elab.async false
set_option linter.all false
set_option maxRecDepth 100000
namespace Mn
open PySem PySem.Spec PyProof.Rows L2

inductive Fl where
  | nx | rt (v : MV) | bk | ct
inductive OutS where
  | ok (f : Fl) (env : MEnv) (h : MH) | exc (C : Str) (xs : List MV) (env : MEnv) (h : MH) | stuck
abbrev MS := MEnv → MH → OutS
abbrev MG := MV → MEnv → MH → Out MEnv
inductive IterV where
  | st (xs : List MV) | lv (n : Nat)
abbrev MIt := MEnv → MH → Out IterV

def PostS (Γ : Gm) (K : PySem.W.Frag) (S : Sh) (H : Hp) (D : Ends) (W : WX) : OutS → Prop
  | .ok .nx env h => ∀ S' H' σ', Ext S H S' H' → Rel Γ K S' h H' → REnv Γ K S' env σ' → D.nx σ' H'
  | .ok (.rt d) _ h => ∀ S' H' v, Ext S H S' H' → Rel Γ K S' h H' → Rep Γ K S' d v → D.rt v H'
  | .ok .bk env h => ∀ S' H' σ', Ext S H S' H' → Rel Γ K S' h H' → REnv Γ K S' env σ' → D.bk σ' H'
  | .ok .ct env h => ∀ S' H' σ', Ext S H S' H' → Rel Γ K S' h H' → REnv Γ K S' env σ' → D.ct σ' H'
  | .exc C xs env h => ∀ S' H' σ' dd, Ext S H S' H' → Rel Γ K S' h H' → REnv Γ K S' env σ' → RepX Γ K C xs dd S' H' → W (.ref (Γ.cls C)) dd σ' H'
  | .stuck => False
def PostG (Γ : Gm) (K : PySem.W.Frag) (S : Sh) (H : Hp) (Q : L2.St → Hp → Prop) (W : WX) (σ : L2.St) : Out MEnv → Prop
  | .ok env h => ∀ S' H' σ', Ext S H S' H' → Rel Γ K S' h H' → REnv Γ K S' env σ' → Q σ' H'
  | .exc C xs h => ∀ S' H' dd, Ext S H S' H' → Rel Γ K S' h H' → RepX Γ K C xs dd S' H' → W (.ref (Γ.cls C)) dd σ H'
  | .stuck => False
def ItSt (Γ : Gm) (K : PySem.W.Frag) (J : It) (S : Sh) (xs : List MV) : Prop := ∀ S' h' H' (i : Nat), (∀ a o, S.Hs a = some o → S'.Hs a = some o) → (∀ (n : Nat) (a : Addr), S.ι[n]? = some a → S'.ι[n]? = some a) → Rel Γ K S' h' H' →
  (xs[i]? = none → J.stop i H') ∧ ∀ x, xs[i]? = some x → J.go i H' ∧ ∀ v H'', J.yld i H' v H'' → H'' = H' ∧ Rep Γ K S' x v
def ItLv (Γ : Gm) (K : PySem.W.Frag) (J : It) (S : Sh) (n : Nat) : Prop := ∀ S' h' H' (i : Nat) xs, (∀ a o, S.Hs a = some o → S'.Hs a = some o) → (∀ (n : Nat) (a : Addr), S.ι[n]? = some a → S'.ι[n]? = some a) → Rel Γ K S' h' H' → h'[n]? = some (.lst xs) →
  (xs[i]? = none → J.stop i H') ∧ ∀ x, xs[i]? = some x → J.go i H' ∧ ∀ v H'', J.yld i H' v H'' → H'' = H' ∧ Rep Γ K S' x v
def PostI (Γ : Gm) (K : PySem.W.Frag) (S : Sh) (H : Hp) (R : It → Hp → Prop) (W : WX) (σ : L2.St) : Out IterV → Prop
  | .ok (.st xs) h => ∀ S' H' J, Ext S H S' H' → Rel Γ K S' h H' → ItSt Γ K J S' xs → R J H'
  | .ok (.lv n) h => ∀ S' H' J, Ext S H S' H' → Rel Γ K S' h H' → ItLv Γ K J S' n → R J H'
  | .exc C xs h => ∀ S' H' dd, Ext S H S' H' → Rel Γ K S' h H' → RepX Γ K C xs dd S' H' → W (.ref (Γ.cls C)) dd σ H'
  | .stuck => False
def ExS (Γ : Gm) (K : PySem.W.Frag) (W : WX) (t : TS) (m : MS) : Prop := ∀ S H h σ env D, Rel Γ K S h H → REnv Γ K S env σ → PostS Γ K S H D W (m env h) → t D σ H
def ExG (Γ : Gm) (K : PySem.W.Frag) (W : WX) (t : TG) (g : MG) : Prop := ∀ S H h σ env d v Q, Rel Γ K S h H → REnv Γ K S env σ → Rep Γ K S d v → PostG Γ K S H Q W σ (g d env h) → t v σ H Q
def ExI (Γ : Gm) (K : PySem.W.Frag) (W : WX) (t : TI) (m : MIt) : Prop := ∀ S H h σ env R, Rel Γ K S h H → REnv Γ K S env σ → PostI Γ K S H R W σ (m env h) → t σ H R
structure SS (Γ : Gm) (X : Cx) (W : WX) (st : Stmt) (m : MS) : Prop where
  ex : ∃ t : TS, PS X st t ∧ ExS Γ X.K W t m
structure SSs (Γ : Gm) (X : Cx) (W : WX) (st : List Stmt) (m : MS) : Prop where
  ex : ∃ t : TS, PSs X st t ∧ ExS Γ X.K W t m
structure SG (Γ : Gm) (X : Cx) (W : WX) (e : Expr) (m : MG) : Prop where
  ex : ∃ t : TG, PG X e t ∧ ExG Γ X.K W t m
structure SI (Γ : Gm) (X : Cx) (W : WX) (tg e : Expr) (m : MIt) : Prop where
  ex : ∃ t : TI, PI X tg e t ∧ ExI Γ X.K W t m

theorem PostS.ext {Γ : Gm} {K : PySem.W.Frag} {S S1 : Sh} {H H1 : Hp} {D : Ends} {W : WX} {o : OutS} (p : PostS Γ K S H D W o) (e : Ext S H S1 H1) : PostS Γ K S1 H1 D W o := by
  cases o with
  | ok f env h =>
    cases f with
    | nx => exact fun S' H' b e' => p S' H' b (e.trans e')
    | rt d => exact fun S' H' b e' => p S' H' b (e.trans e')
    | bk => exact fun S' H' b e' => p S' H' b (e.trans e')
    | ct => exact fun S' H' b e' => p S' H' b (e.trans e')
  | exc C xs env h => exact fun S' H' σ dd e' => p S' H' σ dd (e.trans e')
  | stuck => exact p

@[reducible] def Out.andS {α : Type} (env : MEnv) (x : Out α) (f : α → MH → OutS) : OutS := match x with
  | .ok a h => f a h
  | .exc C xs h => .exc C xs env h
  | .stuck => .stuck
def sNil : MS := fun env h => .ok .nx env h
@[reducible] def OutS.seq (x : OutS) (f : MEnv → MH → OutS) : OutS := match x with
  | .ok .nx env h => f env h
  | o => o
def sSeq (a b : MS) : MS := fun env h => (a env h).seq b
def sIf (t : MT) (a b : MS) : MS := fun env h => (t env h).andS env fun c h => if c = true then a env h else b env h
def sRet (e : ME) : MS := fun env h => (e env h).andS env fun d h => .ok (.rt d) env h
def sExpr (e : ME) : MS := fun env h => (e env h).andS env fun _ h => .ok .nx env h
def sSet (i : Nat) (e : ME) : MS := fun env h => (e env h).andS env fun d h => .ok .nx (env.set i (some d)) h
def sAsg (e : ME) (g : MG) : MS := fun env h => (e env h).andS env fun d h => (g d env h).andS env fun env' h => .ok .nx env' h
def gNm (i : Nat) : MG := fun d env h => .ok (env.set i (some d)) h
def gSb (o i : ME) (f : MV → MV → MV → MH → Out MV) : MG := fun d env h => (o env h).bind fun x h => (i env h).bind fun y h => (f x y d h).bind fun _ h => .ok env h
@[reducible] def Out.nox {α : Type} : Out α → Out α
  | .ok a h => .ok a h
  | _ => .stuck
def gTp : List MG → List MV → MEnv → MH → Out MEnv
  | [], [], env, h => .ok env h
  | g :: gs, d :: ds, env, h => (g d env h).nox.bind fun env' h' => gTp gs ds env' h'
  | _, _, _, _ => .stuck
def gTup (gs : List MG) : MG := fun d env h => match d with
  | .tup xs => gTp gs xs env h
  | _ => .stuck
def sForL (g : MG) (b : MS) : List MV → MS
  | [] => fun env h => .ok .nx env h
  | x :: xs => fun env h => (g x env h).andS env fun env h => match b env h with
    | .ok .nx env' h' => sForL g b xs env' h'
    | .ok .ct env' h' => sForL g b xs env' h'
    | .ok .bk env' h' => .ok .nx env' h'
    | o => o
def sForR (g : MG) (b : MS) (n : Nat) : Nat → Nat → MS
  | 0, _ => fun _ _ => .stuck
  | f + 1, i => fun env h => match h[n]? with
    | some (.lst xs) => match xs[i]? with
      | none => .ok .nx env h
      | some x => (g x env h).andS env fun env h => match b env h with
        | .ok .nx env' h' => sForR g b n f (i + 1) env' h'
        | .ok .ct env' h' => sForR g b n f (i + 1) env' h'
        | .ok .bk env' h' => .ok .nx env' h'
        | o => o
    | _ => .stuck
def big : Nat := 2 ^ 62
def sFor (it : MIt) (g : MG) (b : MS) : MS := fun env h => (it env h).andS env fun iv h => match iv with
  | .st xs => sForL g b xs env h
  | .lv n => sForR g b n big 0 env h
def charsOf (z : Str) : List MV := z.cps.toList.map fun c => .str ⟨#[c]⟩
def iSeq (e : ME) : MIt := fun env h => (e env h).bind fun d h => match d with
  | .tup xs => .ok (.st xs) h
  | .fl xs => .ok (.st xs) h
  | .sl xs => .ok (.st xs) h
  | .ref n => match h[n]? with
    | some (.lst _) => .ok (.lv n) h
    | _ => .stuck
  | .str z => .ok (.st (charsOf z)) h
  | _ => .stuck
def rangeM (lo : Int) (n : Nat) : List MV := (List.range n).map fun k : Nat => .int (lo + k)
def iRange1 (a : MA) : MIt := fun env h => (a env h).bind fun vs h => match vs with
  | [.int j] => if -(2 ^ 62) ≤ j ∧ j < 2 ^ 62 then .ok (.st (rangeM 0 j.toNat)) h else .stuck
  | _ => .stuck
def wipeM (env : MEnv) : List Nat → MEnv
  | [] => env
  | v :: vs => (wipeM env vs).set v none
def tYesM : MT := fun _ h => .ok true h
def compT (g : MG) (t : MT) (e : ME) (x : MV) (acc : List MV) (env : MEnv) (h : MH) : Out (List MV) :=
  (g x env h).nox.bind fun env h => (t env h).nox.bind fun c h => if c = true then (e env h).nox.bind fun y h => if acc.length < sizeLine then .ok (acc ++ [y]) h else .stuck else .ok acc h
def compL (g : MG) (t : MT) (e : ME) (env : MEnv) : List MV → List MV → MH → Out (List MV)
  | [], acc, h => .ok acc h
  | x :: xs, acc, h => (compT g t e x acc env h).bind fun acc h => compL g t e env xs acc h
def compR (g : MG) (t : MT) (e : ME) (env : MEnv) (n : Nat) : Nat → Nat → List MV → MH → Out (List MV)
  | 0, _, _, _ => .stuck
  | f + 1, i, acc, h => match h[n]? with
    | some (.lst xs) => match xs[i]? with
      | none => .ok acc h
      | some x => (compT g t e x acc env h).bind fun acc h => compR g t e env n f (i + 1) acc h
    | _ => .stuck
def mComp (b : Bool) (it : MIt) (g : MG) (t : MT) (e : ME) (vs : List Nat) : ME := fun env h => (it env h).bind fun iv h => match iv with
  | .st xs => (compL g t e (wipeM env vs) xs [] h).bind fun ys h => retL b ys h
  | .lv n => (compR g t e (wipeM env vs) n big 0 [] h).bind fun ys h => retL b ys h

section
variable {Γ : Gm} {K : PySem.W.Frag} {X : Cx} {W : WX}
theorem exES {t : TE} {m : ME} {f : MV → MH → OutS} {S : Sh} {H : Hp} {h : MH} {σ : L2.St} {env : MEnv} {D : Ends} {QQ : VK} (ht : ExE Γ K W t m) (R : Rel Γ K S h H) (G : REnv Γ K S env σ)
    (hp : PostS Γ K S H D W ((m env h).andS env f))
    (k : ∀ a h1 S1 H1 v, Ext S H S1 H1 → Rel Γ K S1 h1 H1 → REnv Γ K S1 env σ → Rep Γ K S1 a v → PostS Γ K S1 H1 D W (f a h1) → QQ v H1) : t σ H QQ := by
  refine ht S H h σ env QQ R G ?_
  cases z : m env h with
  | ok a h1 =>
    rw [z] at hp
    exact fun S' H' b e r q => k a h1 S' H' b e r (G.mono e) q (PostS.ext hp e)
  | exc C xs h1 =>
    rw [z] at hp
    exact fun S' H' dd e r q => hp S' H' σ dd e r (G.mono e) q
  | stuck => rw [z] at hp; exact hp
theorem exTS {t : TT} {m : MT} {f : Bool → MH → OutS} {S : Sh} {H : Hp} {h : MH} {σ : L2.St} {env : MEnv} {D : Ends} {QQ : Bool → Hp → Prop} (ht : ExT Γ K W t m) (R : Rel Γ K S h H) (G : REnv Γ K S env σ)
    (hp : PostS Γ K S H D W ((m env h).andS env f))
    (k : ∀ a h1 S1 H1, Ext S H S1 H1 → Rel Γ K S1 h1 H1 → REnv Γ K S1 env σ → PostS Γ K S1 H1 D W (f a h1) → QQ a H1) : t σ H QQ := by
  refine ht S H h σ env QQ R G ?_
  cases z : m env h with
  | ok a h1 =>
    rw [z] at hp
    intro S' H' b e r q
    have q' : b = a := q
    subst q'
    exact k b h1 S' H' e r (G.mono e) (PostS.ext hp e)
  | exc C xs h1 =>
    rw [z] at hp
    exact fun S' H' dd e r q => hp S' H' σ dd e r (G.mono e) q
  | stuck => rw [z] at hp; exact hp
theorem exGS {t : TG} {g : MG} {f : MEnv → MH → OutS} {S : Sh} {H : Hp} {h : MH} {σ : L2.St} {env : MEnv} {d : MV} {v : V} {D : Ends} {QQ : L2.St → Hp → Prop} (ht : ExG Γ K W t g) (R : Rel Γ K S h H) (G : REnv Γ K S env σ) (rv : Rep Γ K S d v)
    (hp : PostS Γ K S H D W ((g d env h).andS env f))
    (k : ∀ env1 h1 S1 H1 σ1, Ext S H S1 H1 → Rel Γ K S1 h1 H1 → REnv Γ K S1 env1 σ1 → PostS Γ K S1 H1 D W (f env1 h1) → QQ σ1 H1) : t v σ H QQ := by
  refine ht S H h σ env d v QQ R G rv ?_
  cases z : g d env h with
  | ok a h1 =>
    rw [z] at hp
    exact fun S' H' σ' e r q => k a h1 S' H' σ' e r q (PostS.ext hp e)
  | exc C xs h1 =>
    rw [z] at hp
    exact fun S' H' dd e r q => hp S' H' σ dd e r (G.mono e) q
  | stuck => rw [z] at hp; exact hp
theorem REnv.set {S : Sh} {env : MEnv} {σ : L2.St} {d : MV} {v : V} (G : REnv Γ K S env σ) (r : Rep Γ K S d v) (i : Nat) : REnv Γ K S (env.set i (some d)) (σ.set i (some v)) := by
  refine ⟨by rw [List.length_set, List.length_set]; exact G.1, fun j d' e => ?_⟩
  by_cases hj : i = j
  · subst hj
    have hl : i < env.length := by
      have := (List.getElem?_eq_some_iff.mp e).1
      rw [List.length_set] at this; exact this
    rw [List.getElem?_set_self hl] at e
    cases e
    exact ⟨v, by rw [List.getElem?_set_self (by rw [← G.1]; exact hl)], r⟩
  · rw [List.getElem?_set_ne hj] at e ⊢
    exact G.2 j d' e
theorem REnv.drop {S : Sh} {env : MEnv} {σ : L2.St} (G : REnv Γ K S env σ) (i : Nat) (x : Option V) : REnv Γ K S (env.set i none) (σ.set i x) := by
  refine ⟨by rw [List.length_set, List.length_set]; exact G.1, fun j d' e => ?_⟩
  by_cases hj : i = j
  · subst hj
    have hl : i < env.length := by
      have := (List.getElem?_eq_some_iff.mp e).1
      rw [List.length_set] at this; exact this
    rw [List.getElem?_set_self hl] at e
    cases e
  · rw [List.getElem?_set_ne hj] at e ⊢
    exact G.2 j d' e
theorem REnv.wipe {S : Sh} {env : MEnv} {σ : L2.St} (G : REnv Γ K S env σ) : ∀ vs : List Nat, REnv Γ K S (wipeM env vs) (L2.wipe σ vs)
  | [] => G
  | v :: vs => (REnv.wipe G vs).drop v none

variable {st : Stmt} {rest sa sb : List Stmt} {m a b : MS} {e c : Expr} {me : ME} {mt : MT} {pos pos' : Pos}
theorem ss_nil : SSs Γ X W [] sNil := ⟨_, pss_nil, fun S H h σ env D R G p => p S H σ (Ext.refl _ _) R G⟩
theorem ss_cons (h1 : SS Γ X W st a) (h2 : SSs Γ X W rest b) : SSs Γ X W (st :: rest) (sSeq a b) := by
  obtain ⟨ta, pa, ea⟩ := h1.ex
  obtain ⟨tb, pb, eb⟩ := h2.ex
  refine ⟨_, pss_cons pa pb, fun S H h σ env D R G p => ?_⟩
  show ta { D with nx := tb D } σ H
  refine ea S H h σ env { D with nx := tb D } R G ?_
  unfold sSeq at p
  cases z : a env h with
  | ok f env1 h1 =>
    rw [z] at p
    cases f with
    | nx => exact fun S' H' σ' e r g => eb S' H' h1 σ' env1 D r g (PostS.ext p e)
    | rt d => exact p
    | bk => exact p
    | ct => exact p
  | exc C xs env1 h1 => rw [z] at p; exact p
  | stuck => rw [z] at p; exact p
theorem ss_one (h1 : SS Γ X W st a) : SSs Γ X W [st] a := by
  obtain ⟨ta, pa, ea⟩ := h1.ex
  exact ⟨_, pss_one pa, ea⟩
theorem ss_if (ht : ST Γ X W c mt) (ha : SSs Γ X W sa a) (hb : SSs Γ X W sb b) : SS Γ X W (.If c sa sb pos) (sIf mt a b) := by
  obtain ⟨tc, pc, ec⟩ := ht.ex
  obtain ⟨ta, pa, ea⟩ := ha.ex
  obtain ⟨tb, pb, eb⟩ := hb.ex
  refine ⟨_, ps_if pc pa pb, fun S H h σ env D R G p => exTS (t := tc) ec R G p fun x h1 S1 H1 e1 R1 G1 p1 => ?_⟩
  cases x with
  | true => exact ea S1 H1 h1 σ env D R1 G1 p1
  | false => exact eb S1 H1 h1 σ env D R1 G1 p1
theorem ss_ret (ha : SE Γ X W e me) : SS Γ X W (.Return (some e) pos) (sRet me) := by
  obtain ⟨ta, pa, ea⟩ := ha.ex
  exact ⟨_, ps_ret pa, fun S H h σ env D R G p => exES (t := ta) ea R G p fun x h1 S1 H1 v e1 R1 G1 r1 p1 => p1 S1 H1 v (Ext.refl _ _) R1 r1⟩
theorem ss_expr (ha : SE Γ X W e me) (hs : swapsWith e none pos.line X.env = pure false := by rfl) : SS Γ X W (.Expr e pos) (sExpr me) := by
  obtain ⟨ta, pa, ea⟩ := ha.ex
  exact ⟨_, ps_expr pa hs, fun S H h σ env D R G p => exES (t := ta) ea R G p fun x h1 S1 H1 v e1 R1 G1 r1 p1 => p1 S1 H1 σ (Ext.refl _ _) R1 G1⟩
theorem ss_set (i : Nat) {x : Str} (hN : X.N.Nodup) (ha : SE Γ X W e me) (hi : X.N[i]? = some x := by rfl) (hx : Loc X.env.scope x := by first | exact Or.inl rfl | exact Or.inr rfl) (hs : swapsWith e (some (.Name x pos')) pos.line X.env = pure false := by rfl)
    (hf : X.fn x = true ∨ X.env.scope.names.lookup x = some .local := by first | exact .inl rfl | exact .inr rfl | assumption) : SS Γ X W (.Assign [.Name x pos'] e pos) (sSet i me) := by
  obtain ⟨ta, pa, ea⟩ := ha.ex
  exact ⟨_, ps_set hN hi hx pa hs hf, fun S H h σ env D R G p => exES (t := ta) ea R G p fun d h1 S1 H1 v e1 R1 G1 r1 p1 => p1 S1 H1 _ (Ext.refl _ _) R1 (G1.set r1 i)⟩
theorem ss_asg {tg : Expr} {g : MG} (ha : SE Γ X W e me) (hg : SG Γ X W tg g) (hs : swapsWithSole [tg] e pos.line X.env = pure false := by rfl) (hw : swappedStores [tg] e X.env = pure none := by rfl) (h1 : (assignEach [tg] X.env).map (·.2) = [assign tg X.env] := by rfl) : SS Γ X W (.Assign [tg] e pos) (sAsg me g) := by
  obtain ⟨ta, pa, ea⟩ := ha.ex
  obtain ⟨tg', pg, eg⟩ := hg.ex
  exact ⟨_, ps_asg pa pg hs hw h1, fun S H h σ env D R G p => exES (t := ta) ea R G p fun d h1 S1 H1 v e1 R1 G1 r1 p1 => exGS (t := tg') eg R1 G1 r1 p1 fun env2 h2 S2 H2 σ2 e2 R2 G2 p2 => p2 S2 H2 σ2 (Ext.refl _ _) R2 G2⟩
theorem sg_name (i : Nat) {x : Str} (hN : X.N.Nodup) (hi : X.N[i]? = some x := by rfl) (hx : Loc X.env.scope x := by first | exact Or.inl rfl | exact Or.inr rfl) (hf : X.fn x = true ∨ X.env.scope.names.lookup x = some .local := by first | exact .inl rfl | exact .inr rfl | assumption) :
    SG Γ X W (.Name x pos) (gNm i) := ⟨_, pg_name hN hi hx hf, fun S H h σ env d v Q R G r p => p S H _ (Ext.refl _ _) R (G.set r i)⟩
def LiftS (Γ : Gm) (K : PySem.W.Frag) (r : TSet) (f : MV → MV → MV → MH → Out MV) : Prop :=
  ∀ S H h o i d u v w Q E, Rel Γ K S h H → Rep Γ K S o u → Rep Γ K S i v → Rep Γ K S d w → Post Γ K (Rep Γ K) S H (fun _ H' => Q H') E (f o i d h) → r u v w H Q
theorem sg_sub {o i : Expr} {mo mi : ME} {t : TSet} {f : MV → MV → MV → MH → Out MV} (ho : SE Γ X W o mo) (hi : SE Γ X W i mi) (hs : PSet X t) (hl : LiftS Γ X.K t f) {pos : Pos}
    (hA : ∀ v, assign (.Subscript o i pos) X.env v = (do
      let ov ← holding [v] (eval o X.env)
      let iv ← holding [v, ov] (eval i X.env)
      standAt pos
      holding [v, ov, iv] (setItem ov iv v)
      release [v, ov, iv] []) := by intro _; rfl) : SG Γ X W (.Subscript o i pos) (gSb mo mi f) := by
  obtain ⟨ta, pa, ea⟩ := ho.ex
  obtain ⟨tb, pb, eb⟩ := hi.ex
  refine ⟨_, pg_sub pa pb hs hA, fun S H h σ env d v Q R G r p => ?_⟩
  show ta σ H _
  have gen : ∀ {γ : Type} {S1 : Sh} {H1 : Hp} {x : Out γ} {k : γ → MH → Out MEnv} {β : Type} {R' : Sh → γ → β → Prop} {QQ : β → Hp → Prop}, PostG Γ X.K S1 H1 Q W σ (x.bind k) → (∀ a h2 S2 H2 b, Ext S1 H1 S2 H2 → Rel Γ X.K S2 h2 H2 → R' S2 a b → PostG Γ X.K S2 H2 Q W σ (k a h2) → QQ b H2) → Post Γ X.K R' S1 H1 QQ (WE' W σ) x := by
    intro γ S1 H1 x k β R' QQ hp hk
    cases x with
    | ok a h2 => exact fun S' H' b e r q => hk a h2 S' H' b e r q (by
        cases z : k a h2 with
        | ok env2 h3 =>
          have hp' : PostG Γ X.K S1 H1 Q W σ (k a h2) := hp
          rw [z] at hp'
          exact fun S2 H2 σ2 e2 => hp' S2 H2 σ2 (e.trans e2)
        | exc C xs h3 =>
          have hp' : PostG Γ X.K S1 H1 Q W σ (k a h2) := hp
          rw [z] at hp'
          exact fun S2 H2 dd e2 => hp' S2 H2 dd (e.trans e2)
        | stuck =>
          have hp' : PostG Γ X.K S1 H1 Q W σ (k a h2) := hp
          rw [z] at hp'; exact hp')
    | exc C xs h2 => exact hp
    | stuck => exact hp
  refine ea S H h σ env _ R G (gen p fun x h1 S1 H1 u e1 R1 r1 p1 => ?_)
  refine eb S1 H1 h1 σ env _ R1 (G.mono e1) (gen p1 fun y h2 S2 H2 w e2 R2 r2 p2 => ?_)
  refine hl S2 H2 h2 x y d u w v _ (WE' W σ) R2 (r1.ext e2) r2 ((r.ext e1).ext e2) (gen p2 fun _ h3 S3 H3 _ e3 R3 r3 p3 => ?_)
  exact p3 S3 H3 σ (Ext.refl _ _) R3 (((G.mono e1).mono e2).mono e3)
def fSetL : MV → MV → MV → MH → Out MV
  | .ref n, .int k, d, h => match h[n]? with
    | some (.lst xs) => match ixN xs.length k with
      | some j => .ok .non (h.set n (.lst (xs.set j d)))
      | none => .stuck
    | _ => .stuck
  | _, _, _, _ => .stuck
theorem storeL {S : Sh} {H : Hp} {h : MH} {n : Nat} {xs ys : List MV} {v : V} (R : Rel Γ K S h H) (hn : h[n]? = some (.lst xs)) (r : Rep Γ K S (.ref n) v) : ∃ a us, v = .ref a ∧ H a = some (.lst us) ∧ RepL Γ K S xs us ∧
    ∀ vs, RepL Γ K S ys vs → Rel Γ K S (h.set n (.lst ys)) (upd H a (.lst vs)) ∧ Ext S H S (upd H a (.lst vs)) := by
  unfold Rep at r
  obtain ⟨a, e1, rfl⟩ := r
  obtain ⟨z, us, q1, q2⟩ := R.cell n _ a hn e1
  exact ⟨a, us, rfl, q1, q2, fun vs rv => R.store e1 z ⟨z, vs, upd_same, rv⟩⟩
theorem lift_setL : LiftS Γ K rSetL fSetL := by
  intro S H h o i d u v w Q E R ro ri rd p
  unfold fSetL at p
  split at p
  · split at p
    · rename_i xs hx
      split at p
      · rename_i j hj
        obtain ⟨a, us, rfl, q1, q2, q3⟩ := storeL (ys := xs.set j d) R hx ro
        obtain ⟨R1, e1⟩ := q3 _ (repL_set rd j q2)
        exact ⟨a, us, _, j, rfl, rep_int ri, q1, by rw [← repL_len q2]; exact hj, p S _ .non e1 R1 is_non⟩
      · exact p.elim
    · exact p.elim
  · exact p.elim
structure SGs (Γ : Gm) (X : Cx) (W : WX) (es : List Expr) (gs : List MG) : Prop where
  ex : ∃ t : TGs, PGs X es t ∧ ∀ S H h σ env ds vs Q, Rel Γ X.K S h H → REnv Γ X.K S env σ → RepL Γ X.K S ds vs → PostG Γ X.K S H Q W σ (gTp gs ds env h) → t vs σ H Q
theorem gTp_nox : ∀ (gs : List MG) (ds : List MV) (env : MEnv) (h : MH), (∃ env' h', gTp gs ds env h = .ok env' h') ∨ gTp gs ds env h = .stuck
  | [], [], env, h => .inl ⟨env, h, rfl⟩
  | [], _ :: _, _, _ => .inr rfl
  | _ :: _, [], _, _ => .inr rfl
  | g :: gs, d :: ds, env, h => by
    unfold gTp
    cases z : g d env h with
    | ok env1 h1 => exact gTp_nox gs ds env1 h1
    | exc C xs h1 => exact .inr rfl
    | stuck => exact .inr rfl
theorem sgs_nil : SGs Γ X W [] [] := ⟨_, pgs_nil, fun S H h σ env ds vs Q R G r p => by
  cases ds with
  | nil => exact ⟨by unfold RepL at r; exact r, p S H σ (Ext.refl _ _) R G⟩
  | cons d ds => exact p.elim⟩
theorem sgs_cons {e : Expr} {es : List Expr} {g : MG} {gs : List MG} (h1 : SG Γ X W e g) (h2 : SGs Γ X W es gs) (hs : (assignEach (e :: es) X.env).map (·.2) = assign e X.env :: (assignEach es X.env).map (·.2) := by rfl) : SGs Γ X W (e :: es) (g :: gs) := by
  obtain ⟨t, pt, et⟩ := h1.ex
  obtain ⟨u, pu, eu⟩ := h2.ex
  refine ⟨_, pgs_cons pt pu hs, fun S H h σ env ds vs Q R G r p => ?_⟩
  cases ds with
  | nil => exact p.elim
  | cons d ds =>
    unfold RepL at r
    obtain ⟨v, vr, rfl, r1, r2⟩ := r
    refine ⟨v, vr, rfl, et S H h σ env d v _ R G r1 ?_⟩
    unfold gTp at p
    cases z : g d env h with
    | ok env1 h1 =>
      rw [z] at p
      refine fun S' H' σ' e R' G' => eu S' H' h1 σ' env1 ds vr Q R' G' (r2.ext e) ?_
      have p' : PostG Γ X.K S H Q W σ (gTp gs ds env1 h1) := p
      rcases gTp_nox gs ds env1 h1 with ⟨env2, h2, y⟩ | y
      · rw [y] at p' ⊢; exact fun S2 H2 σ2 e2 => p' S2 H2 σ2 (e.trans e2)
      · rw [y] at p'; exact p'.elim
    | exc C xs h1 => rw [z] at p; exact p.elim
    | stuck => rw [z] at p; exact p.elim
theorem sgs_len {Q : L2.St → Hp → Prop} {S : Sh} {H : Hp} {σ : L2.St} : ∀ {gs : List MG} {ds : List MV} {env : MEnv} {h : MH}, PostG Γ X.K S H Q W σ (gTp gs ds env h) → ds.length = gs.length
  | [], [], _, _, _ => rfl
  | [], _ :: _, _, _, p => p.elim
  | _ :: _, [], _, _, p => p.elim
  | g :: gs, d :: ds, env, h, p => by
    unfold gTp at p
    cases z : g d env h with
    | ok env1 h1 =>
      rw [z] at p
      have p' : PostG Γ X.K S H Q W σ (gTp gs ds env1 h1) := p
      rw [List.length_cons, List.length_cons, sgs_len p']
    | exc C xs h1 => rw [z] at p; exact p.elim
    | stuck => rw [z] at p; exact p.elim
theorem sg_tup {es : List Expr} {gs : List MG} {n : Nat} {x1 : Nat} {pos : Pos} (hc : X.calm = true) (hp : SGs Γ X W es gs) (hl : gs.length = n := by rfl) (hn : (assignEach es X.env).length = n := by rfl) (hst : (assignEach es X.env).findIdx? (·.1) = none := by rfl) : SG Γ X W (.Tuple es x1 pos) (gTup gs) := by
  obtain ⟨t, pt, et⟩ := hp.ex
  refine ⟨_, pg_tup hc pt hn hst, fun S H h σ env d v Q R G r p => ?_⟩
  unfold gTup at p
  split at p
  · rename_i xs
    obtain ⟨a, us, rfl, q2, q3⟩ := tup_ok R r
    exact ⟨a, us, rfl, q2, by rw [← repL_len q3, sgs_len p, hl], et S H h σ env xs us Q R G q3 p⟩
  · exact p.elim
end
end Mn
set_option Elab.async false
set_option linter.all false
set_option maxRecDepth 100000
namespace Mn
open PySem PySem.Spec PyProof.Rows L2

section
variable {Γ : Gm} {K : PySem.W.Frag} {X : Cx} {W : WX} {S : Sh} {H : Hp} {h : MH}

theorem itst_list {a : Addr} {xs : List MV} {us : List V} (hs : SqL K S.Hs a us) (r : RepL Γ K S xs us) : ItSt Γ K (Itl K a) S xs := by
  intro S' h' H' i e ix R
  have q : SqL K H' a us := by
    rcases hs with (q | ⟨o, q⟩) | q
    · exact .inl (.inl (R.sub _ _ (e _ _ q)))
    · exact .inl (.inr ⟨o, R.sub _ _ (e _ _ q)⟩)
    · exact .inr q
  refine ⟨fun z => ⟨us, q, ?_⟩, fun x z => ?_⟩
  · rw [← repL_len r]; exact List.getElem?_eq_none_iff.mp z
  · obtain ⟨u, h1, h2⟩ := repL_get r z
    refine ⟨⟨us, u, q, h1⟩, fun v H'' y => ?_⟩
    obtain ⟨rfl, y⟩ := y
    have := y us q
    rw [h1] at this
    cases this
    exact ⟨rfl, rep_mono e ix _ _ h2⟩
theorem itst_tup {a : Addr} {xs : List MV} {us : List V} (hs : SqT K S.Hs a us) (r : RepL Γ K S xs us) : ItSt Γ K (Itt K a) S xs := by
  intro S' h' H' i e ix R
  have q : SqT K H' a us := by
    rcases hs with (q | ⟨o, q⟩) | q
    · exact .inl (.inl (R.sub _ _ (e _ _ q)))
    · exact .inl (.inr ⟨o, R.sub _ _ (e _ _ q)⟩)
    · exact .inr q
  refine ⟨fun z => ⟨us, q, ?_⟩, fun x z => ?_⟩
  · rw [← repL_len r]; exact List.getElem?_eq_none_iff.mp z
  · obtain ⟨u, h1, h2⟩ := repL_get r z
    refine ⟨⟨us, u, q, h1⟩, fun v H'' y => ?_⟩
    obtain ⟨rfl, y⟩ := y
    have := y us q
    rw [h1] at this
    cases this
    exact ⟨rfl, rep_mono e ix _ _ h2⟩
theorem itlv {n : Nat} {a : Addr} (hn : S.ι[n]? = some a) : ItLv Γ K (Itl K a) S n := by
  intro S' h' H' i xs e ix R hx
  obtain ⟨_, us, q1, q2⟩ := R.cell n _ a hx (ix _ _ hn)
  refine ⟨fun z => ⟨us, SqL.of q1, ?_⟩, fun x z => ?_⟩
  · rw [← repL_len q2]; exact List.getElem?_eq_none_iff.mp z
  · obtain ⟨u, h1, h2⟩ := repL_get q2 z
    refine ⟨⟨us, u, SqL.of q1, h1⟩, fun v H'' y => ?_⟩
    obtain ⟨rfl, y⟩ := y
    have := y us (SqL.of q1)
    rw [h1] at this
    cases this
    exact ⟨rfl, h2⟩
theorem itst_str (z : Str) : ItSt Γ K (Its z) S (charsOf z) := by
  intro S' h' H' i e ix R
  unfold charsOf
  refine ⟨fun q => ?_, fun x q => ?_⟩
  · have := List.getElem?_eq_none_iff.mp q
    rw [List.length_map] at this
    exact this
  · rw [List.getElem?_map] at q
    cases w : z.cps.toList[i]? with
    | none => rw [w] at q; cases q
    | some c =>
      rw [w] at q; cases q
      have hi := (List.getElem?_eq_some_iff.mp w).1
      refine ⟨hi, fun v H'' y => ?_⟩
      obtain ⟨rfl, c', h1, rfl⟩ := y
      rw [Array.getElem?_toList] at w
      rw [w] at h1
      cases h1
      exact ⟨rfl, is_str⟩
theorem itst_range (lo : Int) (n : Nat) : ItSt Γ K (Itr lo n) S (rangeM lo n) := by
  intro S' h' H' i e ix R
  unfold rangeM
  refine ⟨fun q => ?_, fun x q => ?_⟩
  · have := List.getElem?_eq_none_iff.mp q
    rw [List.length_map, List.length_range] at this
    exact this
  · rw [List.getElem?_map] at q
    cases w : (List.range n)[i]? with
    | none => rw [w] at q; cases q
    | some c =>
      rw [w] at q; cases q
      obtain ⟨hi, hc⟩ := List.getElem?_eq_some_iff.mp w
      rw [List.length_range] at hi
      rw [List.getElem_range] at hc
      subst hc
      refine ⟨hi, fun v H'' y => ?_⟩
      obtain ⟨rfl, rfl⟩ := y
      exact ⟨rfl, is_int⟩
theorem exEI {t : TE} {m : ME} {f : MV → MH → Out IterV} {σ : L2.St} {env : MEnv} {R' : It → Hp → Prop} {QQ : VK} (ht : ExE Γ K W t m) (R : Rel Γ K S h H) (G : REnv Γ K S env σ)
    (hp : PostI Γ K S H R' W σ ((m env h).bind f))
    (k : ∀ a h1 S1 H1 v, m env h = .ok a h1 → Ext S H S1 H1 → Rel Γ K S1 h1 H1 → Rep Γ K S1 a v → PostI Γ K S1 H1 R' W σ (f a h1) → QQ v H1) : t σ H QQ := by
  refine ht S H h σ env QQ R G ?_
  cases z : m env h with
  | ok a h1 =>
    rw [z] at hp
    refine fun S' H' b e r q => k a h1 S' H' b z e r q ?_
    have hp' : PostI Γ K S H R' W σ (f a h1) := hp
    cases y : f a h1 with
    | ok iv h2 =>
      rw [y] at hp'
      cases iv with
      | st xs => exact fun S2 H2 J e2 => hp' S2 H2 J (e.trans e2)
      | lv n => exact fun S2 H2 J e2 => hp' S2 H2 J (e.trans e2)
    | exc C xs h2 => rw [y] at hp'; exact fun S2 H2 dd e2 => hp' S2 H2 dd (e.trans e2)
    | stuck => rw [y] at hp'; exact hp'
  | exc C xs h1 => rw [z] at hp; exact hp
  | stuck => rw [z] at hp; exact hp
theorem PI.or {tg l : Expr} {w1 w2 : TI} (a : PI X tg l w1) (b : PI X tg l w2) : PI X tg l (fun σ H R => w1 σ H R ∨ w2 σ H R) := by
  refine ⟨fun pins s σ H R I h => ?_⟩
  rcases h with h | h
  · exact a.run pins s σ H R I h
  · exact b.run pins s σ H R I h
variable {tg e c : Expr} {me : ME} {mt : MT} {ms : MA} {pos p : Pos}
theorem si_seq (he : SE Γ X W e me) : SI Γ X W tg e (iSeq me) := by
  obtain ⟨t, pt, et⟩ := he.ex
  refine ⟨_, PI.or (pi_tup pt) (PI.or (pi_list pt) (pi_str pt)), fun S H h σ env R' R G q => ?_⟩
  unfold iSeq at q
  cases z : me env h with
  | ok d h1 =>
    cases d with
    | tup xs =>
      refine .inl (exEI (t := t) et R G q fun a h2 S1 H1 v y e1 R1 r1 p1 => ?_)
      rw [z] at y; cases y
      have r1' := r1
      unfold Rep at r1'
      obtain ⟨a, us, rfl, q2, q3⟩ := r1'
      exact ⟨a, rfl, ⟨us, sqT_sub R1 q2⟩, p1 S1 H1 _ (Ext.refl _ _) R1 (itst_tup q2 q3)⟩
    | fl xs =>
      refine .inr (.inl (exEI (t := t) et R G q fun a h2 S1 H1 v y e1 R1 r1 p1 => ?_))
      rw [z] at y; cases y
      have r1' := r1
      unfold Rep at r1'
      obtain ⟨a, us, rfl, q2, q3⟩ := r1'
      exact ⟨a, rfl, ⟨us, SqL.of (R1.sub _ _ q2)⟩, p1 S1 H1 _ (Ext.refl _ _) R1 (itst_list (SqL.of q2) q3)⟩
    | sl xs =>
      refine .inr (.inl (exEI (t := t) et R G q fun a h2 S1 H1 v y e1 R1 r1 p1 => ?_))
      rw [z] at y; cases y
      have r1' := r1
      unfold Rep at r1'
      obtain ⟨a, us, rfl, q2, q3⟩ := r1'
      obtain ⟨a', us', ea, q4, _⟩ := lstAt_ok (h := h1) (d := .sl xs) (xs := xs) R1 rfl r1
      cases ea
      exact ⟨a, rfl, ⟨us', q4⟩, p1 S1 H1 _ (Ext.refl _ _) R1 (itst_list q2 q3)⟩
    | ref n =>
      refine .inr (.inl (exEI (t := t) et R G q fun a h2 S1 H1 v y e1 R1 r1 p1 => ?_))
      rw [z] at y; cases y
      simp only at p1
      split at p1
      · rename_i xs hx
        have r1' := r1
        unfold Rep at r1'
        obtain ⟨a, q2, rfl⟩ := r1'
        obtain ⟨_, us, q3, _⟩ := R1.cell n _ a hx q2
        exact ⟨a, rfl, ⟨us, SqL.of q3⟩, p1 S1 H1 _ (Ext.refl _ _) R1 (itlv q2)⟩
      · exact p1.elim
    | str x =>
      refine .inr (.inr (exEI (t := t) et R G q fun a h2 S1 H1 v y e1 R1 r1 p1 => ?_))
      rw [z] at y; cases y
      exact ⟨x, rep_str r1, p1 S1 H1 _ (Ext.refl _ _) R1 (itst_str x)⟩
    | non => rw [z] at q; exact q.elim
    | bl _ => rw [z] at q; exact q.elim
    | int _ => rw [z] at q; exact q.elim
    | ob _ _ _ => rw [z] at q; exact q.elim
    | exo _ _ _ _ => rw [z] at q; exact q.elim
  | exc C xs h1 => exact .inl (exEI (t := t) et R G q fun a h2 S1 H1 v y => by rw [z] at y; cases y)
  | stuck => rw [z] at q; exact q.elim
theorem exAI {t : TA} {m : MA} {f : List MV → MH → Out IterV} {σ : L2.St} {env : MEnv} {R' : It → Hp → Prop} {QQ : List V → Hp → Prop} (ht : ExA Γ K W t m) (R : Rel Γ K S h H) (G : REnv Γ K S env σ)
    (hp : PostI Γ K S H R' W σ ((m env h).bind f))
    (k : ∀ a h1 S1 H1 v, Ext S H S1 H1 → Rel Γ K S1 h1 H1 → RepL Γ K S1 a v → PostI Γ K S1 H1 R' W σ (f a h1) → QQ v H1) : t σ H QQ := by
  refine ht S H h σ env QQ R G ?_
  cases z : m env h with
  | ok a h1 =>
    rw [z] at hp
    refine fun S' H' b e r q => k a h1 S' H' b e r q ?_
    have hp' : PostI Γ K S H R' W σ (f a h1) := hp
    cases y : f a h1 with
    | ok iv h2 =>
      rw [y] at hp'
      cases iv with
      | st xs => exact fun S2 H2 J e2 => hp' S2 H2 J (e.trans e2)
      | lv n => exact fun S2 H2 J e2 => hp' S2 H2 J (e.trans e2)
    | exc C xs h2 => rw [y] at hp'; exact fun S2 H2 dd e2 => hp' S2 H2 dd (e.trans e2)
    | stuck => rw [y] at hp'; exact hp'
  | exc C xs h1 => rw [z] at hp; exact hp
  | stuck => rw [z] at hp; exact hp
theorem repL_1 {d : MV} {vs : List V} (r : RepL Γ K S [d] vs) : ∃ v, vs = [v] ∧ Rep Γ K S d v := by
  unfold RepL at r
  obtain ⟨u, r', rfl, q1, q2⟩ := r
  unfold RepL at q2
  subst q2
  exact ⟨u, rfl, q1⟩
theorem repL_2 {d e : MV} {vs : List V} (r : RepL Γ K S [d, e] vs) : ∃ v w, vs = [v, w] ∧ Rep Γ K S d v ∧ Rep Γ K S e w := by
  unfold RepL at r
  obtain ⟨u, r', rfl, q1, q2⟩ := r
  obtain ⟨w, rfl, q3⟩ := repL_1 q2
  exact ⟨u, w, rfl, q1, q3⟩
theorem si_range1 {a : Expr} (hm : X.mg "range" = none) (ha : SA Γ X W [a] ms) (hg : Gl X "range" := by rfl) (hs : starEach [a] X.env = [(false, eval a X.env)] := by rfl) : SI Γ X W tg (.Call (.Name "range" p) [a] [] pos) (iRange1 ms) := by
  obtain ⟨t, pt, et⟩ := ha.ex
  refine ⟨_, pi_range1 hg hm pt hs, fun S H h σ env R' R G q => exAI (t := t) et R G q fun vs h1 S1 H1 us e1 R1 r1 p1 => ?_⟩
  split at p1
  · rename_i j
    obtain ⟨v, rfl, q1⟩ := repL_1 r1
    split at p1
    · rename_i hz
      exact ⟨j, by rw [rep_int q1], hz.1, hz.2, p1 S1 H1 _ (Ext.refl _ _) R1 (itst_range 0 j.toNat)⟩
    · exact p1.elim
  · exact p1.elim
variable {sb : List Stmt} {b : MS}
theorem for_st {g : MG} {tgt : TG} {tb : TS} (eg : ExG Γ K W tgt g) (eb : ExS Γ K W tb b) {J : It} {xs : List MV} {σ : L2.St} {env : MEnv} {D : Ends} (R : Rel Γ K S h H) (G : REnv Γ K S env σ) (it : ItSt Γ K J S xs) (q : PostS Γ K S H D W (sForL g b xs env h)) :
    ∃ W' : Nat → Nat → L2.St → Hp → Prop, (∃ m, W' 0 m σ H) ∧ ∀ i m σ H, W' i m σ H →
      (J.stop i H ∧ D.nx σ H) ∨ (J.go i H ∧ ∃ N : L2.St → Hp → Prop, (∀ σ' H', N σ' H' → ∃ m', m' < m ∧ W' (i + 1) m' σ' H') ∧ ∀ x H', J.yld i H x H' → tgt x σ H' fun σ2 H2 => tb { D with nx := N, ct := N, bk := D.nx } σ2 H2) := by
  refine ⟨fun i m σ' H' => m = xs.length - i ∧ i ≤ xs.length ∧ ∃ S' h' env', Ext S H S' H' ∧ Rel Γ K S' h' H' ∧ REnv Γ K S' env' σ' ∧ PostS Γ K S' H' D W (sForL g b (xs.drop i) env' h'), ⟨xs.length, by simp, Nat.zero_le _, S, h, env, Ext.refl _ _, R, G, q⟩, ?_⟩
  rintro i m σ1 H1 ⟨rfl, hi, S1, h1, env1, e1, R1, G1, q1⟩
  obtain ⟨it1, it2⟩ := it S1 h1 H1 i e1.hs e1.ix R1
  by_cases hlt : i < xs.length
  · have hx : xs[i]? = some xs[i] := List.getElem?_eq_getElem hlt
    obtain ⟨go, yl⟩ := it2 _ hx
    rw [List.drop_eq_getElem_cons hlt] at q1
    unfold sForL at q1
    refine .inr ⟨go, fun σ' H' => ∃ S' h' env', Ext S H S' H' ∧ Rel Γ K S' h' H' ∧ REnv Γ K S' env' σ' ∧ PostS Γ K S' H' D W (sForL g b (xs.drop (i + 1)) env' h'), fun σ' H' w => ⟨xs.length - (i + 1), by omega, rfl, hlt, w⟩, fun v H' y => ?_⟩
    obtain ⟨rfl, rv⟩ := yl v H' y
    refine exGS (t := tgt) eg R1 G1 rv q1 fun env2 h2 S2 H2 σ2 e2 R2 G2 q2 => ?_
    refine eb S2 H2 h2 σ2 env2 _ R2 G2 ?_
    cases z : b env2 h2 with
    | ok f env3 h3 =>
      rw [z] at q2
      cases f with
      | nx => exact fun S3 H3 σ3 e3 R3 G3 => ⟨S3, h3, env3, (e1.trans e2).trans e3, R3, G3, PostS.ext q2 e3⟩
      | ct => exact fun S3 H3 σ3 e3 R3 G3 => ⟨S3, h3, env3, (e1.trans e2).trans e3, R3, G3, PostS.ext q2 e3⟩
      | bk => exact q2
      | rt d => exact q2
    | exc C xs env3 h3 => rw [z] at q2; exact q2
    | stuck => rw [z] at q2; exact q2
  · have hz : xs[i]? = none := List.getElem?_eq_none_iff.mpr (by omega)
    have hd : xs.drop i = [] := List.drop_eq_nil_iff.mpr (by omega)
    rw [hd] at q1
    exact .inl ⟨it1 hz, q1 S1 H1 σ1 (Ext.refl _ _) R1 G1⟩
theorem for_lv {g : MG} {tgt : TG} {tb : TS} (eg : ExG Γ K W tgt g) (eb : ExS Γ K W tb b) {J : It} {n : Nat} {σ : L2.St} {env : MEnv} {D : Ends} {N0 : Nat} (R : Rel Γ K S h H) (G : REnv Γ K S env σ) (it : ItLv Γ K J S n) (q : PostS Γ K S H D W (sForR g b n N0 0 env h)) :
    ∃ W' : Nat → Nat → L2.St → Hp → Prop, (∃ m, W' 0 m σ H) ∧ ∀ i m σ H, W' i m σ H →
      (J.stop i H ∧ D.nx σ H) ∨ (J.go i H ∧ ∃ N : L2.St → Hp → Prop, (∀ σ' H', N σ' H' → ∃ m', m' < m ∧ W' (i + 1) m' σ' H') ∧ ∀ x H', J.yld i H x H' → tgt x σ H' fun σ2 H2 => tb { D with nx := N, ct := N, bk := D.nx } σ2 H2) := by
  refine ⟨fun i m σ' H' => ∃ S' h' env', Ext S H S' H' ∧ Rel Γ K S' h' H' ∧ REnv Γ K S' env' σ' ∧ PostS Γ K S' H' D W (sForR g b n m i env' h'), ⟨N0, S, h, env, Ext.refl _ _, R, G, q⟩, ?_⟩
  rintro i m σ1 H1 ⟨S1, h1, env1, e1, R1, G1, q1⟩
  cases m with
  | zero => exact q1.elim
  | succ m =>
    unfold sForR at q1
    split at q1
    · rename_i xs hxs
      obtain ⟨it1, it2⟩ := it S1 h1 H1 i xs e1.hs e1.ix R1 hxs
      split at q1
      · rename_i hz
        exact .inl ⟨it1 hz, q1 S1 H1 σ1 (Ext.refl _ _) R1 G1⟩
      · rename_i x hx
        obtain ⟨go, yl⟩ := it2 _ hx
        refine .inr ⟨go, fun σ' H' => ∃ S' h' env', Ext S H S' H' ∧ Rel Γ K S' h' H' ∧ REnv Γ K S' env' σ' ∧ PostS Γ K S' H' D W (sForR g b n m (i + 1) env' h'), fun σ' H' w => ⟨m, Nat.lt_succ_self m, w⟩, fun v H' y => ?_⟩
        obtain ⟨rfl, rv⟩ := yl v H' y
        refine exGS (t := tgt) eg R1 G1 rv q1 fun env2 h2 S2 H2 σ2 e2 R2 G2 q2 => ?_
        refine eb S2 H2 h2 σ2 env2 _ R2 G2 ?_
        cases z : b env2 h2 with
        | ok f env3 h3 =>
          rw [z] at q2
          cases f with
          | nx => exact fun S3 H3 σ3 e3 R3 G3 => ⟨S3, h3, env3, (e1.trans e2).trans e3, R3, G3, PostS.ext q2 e3⟩
          | ct => exact fun S3 H3 σ3 e3 R3 G3 => ⟨S3, h3, env3, (e1.trans e2).trans e3, R3, G3, PostS.ext q2 e3⟩
          | bk => exact q2
          | rt d => exact q2
        | exc C xs env3 h3 => rw [z] at q2; exact q2
        | stuck => rw [z] at q2; exact q2
    · exact q1.elim
theorem ss_for {g : MG} {mi : MIt} (hp : PassesOwn (model X.prog X.w) X.A X.env X.xe) (hc : X.calm = true) (hi : SI Γ X W tg e mi) (hg : SG Γ X W tg g) (hb : SSs Γ X W sb b) (hs : ∀ x, foldedSetIterable e X.env x = pure x := by intro _; rfl) : SS Γ X W (.For tg e sb [] pos) (sFor mi g b) := by
  obtain ⟨wi, pi, ei⟩ := hi.ex
  obtain ⟨tgt, pg, eg⟩ := hg.ex
  obtain ⟨tb, pb, eb⟩ := hb.ex
  refine ⟨_, ps_for hp hc pi pg pb hs, fun S H h σ env D R G q => ?_⟩
  refine ei S H h σ env _ R G ?_
  unfold sFor at q
  cases z : mi env h with
  | ok iv h1 =>
    rw [z] at q
    cases iv with
    | st xs => exact fun S1 H1 J e1 R1 it => for_st eg eb R1 (G.mono e1) it (PostS.ext q e1)
    | lv n => exact fun S1 H1 J e1 R1 it => for_lv eg eb R1 (G.mono e1) it (PostS.ext q e1)
  | exc C xs h1 => rw [z] at q; exact fun S1 H1 dd e1 R1 x1 => q S1 H1 σ dd e1 R1 (G.mono e1) x1
  | stuck => rw [z] at q; exact q

abbrev W0 : WX := fun _ _ _ _ => False
structure AtD (Γ : Gm) (K : PySem.W.Frag) (D : Addr) (S1 : Sh) (H1 : Hp) (acc : List MV) (S : Sh) (h : MH) (H : Hp) : Prop where
  ext : Ext S1 H1 S H
  rel : Rel Γ K S h H
  at_ : ∃ us, H D = some (.lst us) ∧ RepL Γ K S acc us
  no : S.Hs D = none
  ni : D ∉ S.ι
theorem AtD.step {D : Addr} {S1 S' : Sh} {H1 H' : Hp} {acc : List MV} {h' : MH} (a : AtD Γ K D S1 H1 acc S h H) (e : Ext S H S' H') (R : Rel Γ K S' h' H') : AtD Γ K D S1 H1 acc S' h' H' := by
  obtain ⟨us, q1, q2⟩ := a.at_
  obtain ⟨f1, f2, f3⟩ := e.fr D _ q1 a.no a.ni
  exact ⟨a.ext.trans e, R, ⟨us, f1, q2.ext e⟩, f2, f3⟩
theorem Rel.other {D : Addr} {o : HO} (R : Rel Γ K S h H) (no : S.Hs D = none) (ni : D ∉ S.ι) : Rel Γ K S h (upd H D o) := by
  refine ⟨fun a u e => ?_, R.len, R.nd, fun a hm => ?_, fun n c a h1 h2 => ?_⟩
  · have na : a ≠ D := fun z => by rw [z, no] at e; cases e
    rw [upd_ne na]; exact R.sub a u e
  · have na : a ≠ D := fun z => ni (z ▸ hm)
    rw [upd_ne na]; exact R.trk a hm
  · have na : a ≠ D := fun z => ni (z ▸ List.mem_of_getElem? h2)
    exact (R.cell n c a h1 h2).mono (fun _ _ e => e) (fun _ _ e => e) (fun z => z) (fun u e => by rw [upd_ne na]; exact e)
theorem AtD.push {D : Addr} {S1 : Sh} {H1 : Hp} {acc : List MV} {y : MV} {v : V} (a : AtD Γ K D S1 H1 acc S h H) (hn : H1 D = none) (r : Rep Γ K S y v) : ∃ us, H D = some (.lst us) ∧ us.length = acc.length ∧ AtD Γ K D S1 H1 (acc ++ [y]) S h (upd H D (.lst (us ++ [v]))) := by
  obtain ⟨us, q1, q2⟩ := a.at_
  refine ⟨us, q1, (repL_len q2).symm, ⟨⟨a.ext.hs, a.ext.ix, fun b o h1 h2 h3 => ?_⟩, a.rel.other a.no a.ni, ⟨_, upd_same, repL_app q2 (repL_cons r repL_nil)⟩, a.no, a.ni⟩⟩
  obtain ⟨f1, f2, f3⟩ := a.ext.fr b o h1 h2 h3
  have nb : b ≠ D := fun z => by rw [z, hn] at h1; cases h1
  exact ⟨by rw [upd_ne nb]; exact f1, f2, f3⟩
theorem AtD.begin {D : Addr} (R : Rel Γ K S h H) (hn : H D = none) : AtD Γ K D S H [] S h (upd H D (.lst [])) := by
  have no : S.Hs D = none := by
    cases z : S.Hs D with
    | none => rfl
    | some o => rw [R.sub _ _ z] at hn; cases hn
  have ni : D ∉ S.ι := fun hm => by
    obtain ⟨o, e⟩ := R.trk D hm
    rw [hn] at e; cases e
  refine ⟨⟨fun _ _ e => e, fun _ _ e => e, fun b o h1 h2 h3 => ⟨?_, h2, h3⟩⟩, R.other no ni, ⟨[], upd_same, repL_nil⟩, no, ni⟩
  rw [upd_ne (ne_of_none h1 hn)]; exact h1
theorem AtD.end_ {D : Addr} {S1 : Sh} {H1 : Hp} {acc : List MV} {bb : Bool} {Q : VK} {E : XK} (a : AtD Γ K D S1 H1 acc S h H) (hn : H1 D = none) (p : Post Γ K (Rep Γ K) S1 H1 Q E (retL bb acc h)) : Q (.ref D) H := by
  obtain ⟨us, q1, q2⟩ := a.at_
  have R := a.rel
  have m1 : ∀ b u, S.Hs b = some u → upd S.Hs D (.lst us) b = some u := fun b u e => by
    have nb : b ≠ D := fun z => by rw [z, a.no] at e; cases e
    rw [upd_ne nb]; exact e
  cases bb with
  | false =>
    have e' : Ext S1 H1 ⟨upd S.Hs D (.lst us), S.ι⟩ H := ⟨fun b o e => m1 _ _ (a.ext.hs b o e), a.ext.ix, fun b o h1 h2 h3 => by
      obtain ⟨f1, f2, f3⟩ := a.ext.fr b o h1 h2 h3
      have nb : b ≠ D := fun z => by rw [z, hn] at h1; cases h1
      refine ⟨f1, ?_, f3⟩
      show upd S.Hs D (.lst us) b = none
      rw [upd_ne nb]; exact f2⟩
    refine p ⟨upd S.Hs D (.lst us), S.ι⟩ H (.ref D) e' ⟨fun b u e => ?_, R.len, R.nd, R.trk, fun n c b h1 h2 => ?_⟩ ?_
    · have e' : upd S.Hs D (.lst us) b = some u := e
      by_cases hb : b = D
      · subst hb; rw [upd_same] at e'; cases e'; exact q1
      · rw [upd_ne hb] at e'; exact R.sub _ _ e'
    · have nb : b ≠ D := fun z => a.ni (z ▸ List.mem_of_getElem? h2)
      refine (R.cell n c b h1 h2).mono m1 (fun _ _ e => e) (fun z => ?_) (fun u e => e)
      show upd S.Hs D (.lst us) b = none
      rw [upd_ne nb]; exact z
    · unfold Rep
      exact ⟨D, us, rfl, upd_same, repL_mono (S := S) (S' := ⟨upd S.Hs D (.lst us), S.ι⟩) m1 (fun _ _ e => e) _ _ q2⟩
  | true =>
    have m2 : ∀ (n : Nat) (b : Addr), S.ι[n]? = some b → (S.ι ++ [D])[n]? = some b := fun n b e => by
      rw [List.getElem?_append_left (List.getElem?_eq_some_iff.mp e).1]; exact e
    have e' : Ext S1 H1 ⟨S.Hs, S.ι ++ [D]⟩ H := ⟨a.ext.hs, fun n b e => m2 n b (a.ext.ix n b e), fun b o h1 h2 h3 => by
      obtain ⟨f1, f2, f3⟩ := a.ext.fr b o h1 h2 h3
      have nb : b ≠ D := fun z => by rw [z, hn] at h1; cases h1
      refine ⟨f1, f2, fun hm => ?_⟩
      rcases List.mem_append.mp (show b ∈ S.ι ++ [D] from hm) with hm | hm
      · exact f3 hm
      · exact nb (by simpa using hm)⟩
    refine p ⟨S.Hs, S.ι ++ [D]⟩ H (.ref D) e' ⟨R.sub, ?_, ?_, fun b hm => ?_, fun n c b h1 h2 => ?_⟩ ?_
    · show (S.ι ++ [D]).length = (h ++ [_]).length
      rw [List.length_append, List.length_append, R.len]; rfl
    · show (S.ι ++ [D]).Nodup
      rw [List.nodup_append]
      refine ⟨R.nd, by simp, fun b hb d hd => ?_⟩
      have : d = D := by simpa using hd
      subst this
      exact fun z => a.ni (z ▸ hb)
    · rcases List.mem_append.mp (show b ∈ S.ι ++ [D] from hm) with hm | hm
      · exact R.trk b hm
      · have : b = D := by simpa using hm
        subst this; exact ⟨_, q1⟩
    · have h2' : (S.ι ++ [D])[n]? = some b := h2
      by_cases hn' : n < h.length
      · rw [List.getElem?_append_left hn'] at h1
        rw [List.getElem?_append_left (by rw [R.len]; exact hn')] at h2'
        exact (R.cell n c b h1 h2').mono (S' := ⟨S.Hs, S.ι ++ [D]⟩) (fun _ _ e => e) m2 (fun z => z) (fun u e => e)
      · have hn'' : n = h.length := by
          have := (List.getElem?_eq_some_iff.mp h1).1
          rw [List.length_append] at this
          simp only [List.length_cons, List.length_nil] at this
          omega
        subst hn''
        rw [List.getElem?_append_right (Nat.le_refl _), Nat.sub_self] at h1
        rw [List.getElem?_append_right (by rw [R.len]; exact Nat.le_refl _), R.len, Nat.sub_self] at h2'
        simp only [List.getElem?_cons_zero, Option.some.injEq] at h1 h2'
        subst h1 h2'
        exact ⟨a.no, us, q1, repL_mono (S := S) (S' := ⟨S.Hs, S.ι ++ [D]⟩) (fun _ _ e => e) m2 _ _ q2⟩
    · unfold Rep
      exact ⟨D, by show (S.ι ++ [D])[h.length]? = some D; rw [← R.len]; simp, rfl⟩
def tOf (Γ : Gm) (K : PySem.W.Frag) (W : WX) (m : ME) : TE := fun σ H Q => ∃ S h env, Rel Γ K S h H ∧ REnv Γ K S env σ ∧ Post Γ K (Rep Γ K) S H Q (WE' W σ) (m env h)
def tOfT (Γ : Gm) (K : PySem.W.Frag) (W : WX) (m : MT) : TT := fun σ H Q => ∃ S h env, Rel Γ K S h H ∧ REnv Γ K S env σ ∧ Post Γ K (fun _ (a b : Bool) => b = a) S H Q (WE' W σ) (m env h)
theorem SE.of (h : SE Γ X W e me) : PE X e (tOf Γ X.K W me) := by
  obtain ⟨t, pt, et⟩ := h.ex
  exact ⟨fun pins s σ H Q I ⟨S, h, env, R, G, p⟩ => pt.run pins s σ H Q I (et S H h σ env Q R G p)⟩
theorem ST.of (h : ST Γ X W e mt) : PT X e (tOfT Γ X.K W mt) := by
  obtain ⟨t, pt, et⟩ := h.ex
  exact ⟨fun pins s σ H Q I ⟨S, h, env, R, G, p⟩ => pt.run pins s σ H Q I (et S H h σ env Q R G p)⟩
def TgW (tgt : TG) (vs : List Nat) : Prop := ∀ v (σ0 σ : L2.St) H Q, L2.wipe σ vs = L2.wipe σ0 vs → tgt v σ H Q → tgt v σ H (fun σ2 H2 => L2.wipe σ2 vs = L2.wipe σ0 vs ∧ Q σ2 H2)
theorem wipe_set {x : Option V} : ∀ {vs : List Nat} {i : Nat} {σ : L2.St}, i ∈ vs → L2.wipe (σ.set i x) vs = L2.wipe σ vs
  | v :: vs, i, σ, h => by
    unfold L2.wipe
    by_cases hi : i ∈ vs
    · rw [wipe_set hi]
    · have e : i = v := (List.mem_cons.mp h).resolve_right hi
      subst e
      have gen : ∀ {vs : List Nat} {σ : L2.St}, i ∉ vs → L2.wipe (σ.set i x) vs = (L2.wipe σ vs).set i x := by
        intro vs
        induction vs with
        | nil => intro σ _; rfl
        | cons w vs ih =>
          intro σ hn
          unfold L2.wipe
          rw [ih (fun z => hn (List.mem_cons_of_mem _ z)), List.set_comm _ _ (fun z => hn (by rw [z]; exact List.mem_cons_self))]
      rw [gen hi, List.set_set]
theorem wipe_wipe : ∀ {vs ws : List Nat} {σ : L2.St}, (∀ v ∈ ws, v ∈ vs) → L2.wipe (L2.wipe σ ws) vs = L2.wipe σ vs
  | vs, [], σ, _ => rfl
  | vs, w :: ws, σ, h => by
    show L2.wipe ((L2.wipe σ ws).set w none) vs = _
    rw [wipe_set (h w List.mem_cons_self), wipe_wipe (fun v hv => h v (List.mem_cons_of_mem _ hv))]
theorem tgw_name {i : Nat} {vs : List Nat} (hi : i ∈ vs) : TgW (gName i) vs := fun v σ0 σ H Q h q => ⟨(wipe_set hi).trans h, q⟩
def gNames : List Nat → TGs
  | [] => gNil
  | i :: is => gCons (gName i) (gNames is)
theorem tgs_names : ∀ {is vs : List Nat}, (∀ i ∈ is, i ∈ vs) → ∀ us (σ0 σ : L2.St) H Q, L2.wipe σ vs = L2.wipe σ0 vs → gNames is us σ H Q → gNames is us σ H (fun σ2 H2 => L2.wipe σ2 vs = L2.wipe σ0 vs ∧ Q σ2 H2)
  | [], vs, _, us, σ0, σ, H, Q, e, ⟨q1, q2⟩ => ⟨q1, e, q2⟩
  | i :: is, vs, h, us, σ0, σ, H, Q, e, ⟨v, r, q1, q2⟩ => ⟨v, r, q1, tgs_names (fun j hj => h j (List.mem_cons_of_mem _ hj)) r σ0 _ H Q ((wipe_set (h i List.mem_cons_self)).trans e) q2⟩
theorem tgw_tup {is vs : List Nat} {n : Nat} (h : ∀ i ∈ is, i ∈ vs) : TgW (L2.gTup K n (gNames is)) vs := fun v σ0 σ H Q e ⟨a, xs, q1, q2, q3, q4⟩ => ⟨a, xs, q1, q2, q3, tgs_names h xs σ0 σ H Q e q4⟩
theorem exg_name {i : Nat} : ExG Γ K W (gName i) (gNm i) := fun S H h σ env d v Q R G r p => p S H _ (Ext.refl _ _) R (G.set r i)
theorem exgs_names : ∀ {is : List Nat} S H h σ env ds vs Q, Rel Γ K S h H → REnv Γ K S env σ → RepL Γ K S ds vs → PostG Γ K S H Q W σ (gTp (is.map gNm) ds env h) → gNames is vs σ H Q
  | [], S, H, h, σ, env, ds, vs, Q, R, G, r, p => by
    cases ds with
    | nil => exact ⟨by unfold RepL at r; exact r, p S H σ (Ext.refl _ _) R G⟩
    | cons d ds => exact p.elim
  | i :: is, S, H, h, σ, env, ds, vs, Q, R, G, r, p => by
    cases ds with
    | nil => exact p.elim
    | cons d ds =>
      unfold RepL at r
      obtain ⟨v, vr, rfl, r1, r2⟩ := r
      refine ⟨v, vr, rfl, exgs_names S H h _ (env.set i (some d)) ds vr Q R (G.set r1 i) r2 ?_⟩
      have p' : PostG Γ K S H Q W σ (gTp (is.map gNm) ds (env.set i (some d)) h) := p
      rcases gTp_nox (is.map gNm) ds (env.set i (some d)) h with ⟨env2, h2, y⟩ | y
      · rw [y] at p' ⊢; exact p'
      · rw [y] at p'; exact p'.elim
theorem gtp_len {W : WX} {Q : L2.St → Hp → Prop} {S : Sh} {H : Hp} {σ : L2.St} : ∀ {gs : List MG} {ds : List MV} {env : MEnv} {h : MH}, PostG Γ K S H Q W σ (gTp gs ds env h) → ds.length = gs.length
  | [], [], _, _, _ => rfl
  | [], _ :: _, _, _, p => p.elim
  | _ :: _, [], _, _, p => p.elim
  | g :: gs, d :: ds, env, h, p => by
    unfold gTp at p
    cases z : g d env h with
    | ok env1 h1 =>
      rw [z] at p
      have p' : PostG Γ K S H Q W σ (gTp gs ds env1 h1) := p
      rw [List.length_cons, List.length_cons, gtp_len p']
    | exc C xs h1 => rw [z] at p; exact p.elim
    | stuck => rw [z] at p; exact p.elim
theorem exg_tup {is : List Nat} {n : Nat} (hn : is.length = n) : ExG Γ K W (L2.gTup K n (gNames is)) (gTup (is.map gNm)) := by
  intro S H h σ env d v Q R G r p
  unfold gTup at p
  split at p
  · rename_i xs
    obtain ⟨a, us, rfl, q2, q3⟩ := tup_ok R r
    exact ⟨a, us, rfl, q2, by rw [← repL_len q3, gtp_len p, List.length_map, hn], exgs_names S H h σ env xs us Q R G q3 p⟩
  · exact p.elim

theorem comp_turn {tgt : TG} {g : MG} {mtt : MT} {mee : ME} {vs : List Nat} (eg : ExG Γ K W0 tgt g) (hw : TgW tgt vs) {D : Addr} {S1 : Sh} {H1 : Hp} {acc : List MV} {x : MV} {v : V} {σ : L2.St} {env : MEnv}
    (hn : H1 D = none) (a : AtD Γ K D S1 H1 acc S h H) (G : REnv Γ K S env σ) (rv : Rep Γ K S x v) {Nx : Hp → Prop}
    {acc1 : List MV} {h1 : MH} (hc : compT g mtt mee x acc (wipeM env vs) h = .ok acc1 h1) (hk : ∀ S' H', AtD Γ K D S1 H1 acc1 S' h1 H' → Ext S H S' H' ∨ True → (∀ env' σ', REnv Γ K S env' σ' → REnv Γ K S' env' σ') → Nx H') :
    tgt v (L2.wipe σ vs) H fun σ2 H2 => L2.wipe σ2 vs = L2.wipe σ vs ∧ tOfT Γ K W0 mtt σ2 H2 fun b H3 => if b = true then tOf Γ K W0 mee σ2 H3 fun y H4 => ∃ acc, H4 D = some (.lst acc) ∧ acc.length < sizeLine ∧ Nx (upd H4 D (.lst (acc ++ [y]))) else Nx H3 := by
  unfold compT at hc
  refine hw v σ (L2.wipe σ vs) H _ (wipe_wipe fun _ hv => hv) ?_
  cases z1 : g x (wipeM env vs) h with
  | exc C xs h2 => rw [z1] at hc; cases hc
  | stuck => rw [z1] at hc; cases hc
  | ok env2 h2 =>
    rw [z1] at hc
    refine eg S H h _ _ x v _ a.rel (G.wipe vs) rv ?_
    rw [z1]
    intro S2 H2 σ2 e2 R2 G2
    have a2 := a.step e2 R2
    cases z2 : mtt env2 h2 with
    | exc C xs h2 => simp only [z2, Out.nox, Out.bind] at hc; cases hc
    | stuck => simp only [z2, Out.nox, Out.bind] at hc; cases hc
    | ok bb h3 =>
      simp only [z2, Out.nox, Out.bind] at hc
      refine ⟨S2, h2, env2, R2, G2, ?_⟩
      rw [z2]
      intro S3 H3 b' e3 R3 eb'
      have eb'' : b' = bb := eb'
      subst eb''
      have a3 := a2.step e3 R3
      cases b' with
      | false =>
        rw [if_neg Bool.false_ne_true] at hc ⊢
        cases hc
        exact hk S3 H3 a3 (.inr trivial) fun env' σ' g => (g.mono e2).mono e3
      | true =>
        rw [if_pos rfl] at hc ⊢
        cases z3 : mee env2 h3 with
        | exc C xs h2 => simp only [z3] at hc; cases hc
        | stuck => simp only [z3] at hc; cases hc
        | ok y h4 =>
          simp only [z3] at hc
          split at hc
          · rename_i hlen
            cases hc
            refine ⟨S3, h3, env2, R3, G2.mono e3, ?_⟩
            rw [z3]
            intro S4 H4 w e4 R4 r4
            obtain ⟨us, q1, q2, q3⟩ := (a3.step e4 R4).push hn r4
            exact ⟨us, q1, by rw [q2]; exact hlen, hk S4 _ q3 (.inr trivial) fun env' σ' g => ((g.mono e2).mono e3).mono e4⟩
          · cases hc
theorem compT_noexc {g : MG} {t : MT} {e : ME} {x : MV} {acc : List MV} {env : MEnv} {h : MH} : ∀ C xs h', compT g t e x acc env h ≠ .exc C xs h' := by
  intro C xs h' q
  unfold compT at q
  cases z1 : g x env h with
  | exc _ _ _ => rw [z1] at q; cases q
  | stuck => rw [z1] at q; cases q
  | ok env2 h2 =>
    rw [z1] at q
    cases z2 : t env2 h2 with
    | exc _ _ _ => simp only [z2, Out.nox, Out.bind] at q; cases q
    | stuck => simp only [z2, Out.nox, Out.bind] at q; cases q
    | ok bb h3 =>
      simp only [z2, Out.nox, Out.bind] at q
      split at q
      · cases z3 : e env2 h3 with
        | exc _ _ _ => simp only [z3] at q; cases q
        | stuck => simp only [z3] at q; cases q
        | ok y h4 =>
          simp only [z3] at q
          split at q <;> cases q
      · cases q
theorem ex_comp {bb : Bool} {wi : TI} {mi : MIt} {tgt : TG} {g : MG} {mtt : MT} {mee : ME} {vs : List Nat} (ei : ExI Γ K W wi mi) (eg : ExG Γ K W0 tgt g) (hw : TgW tgt vs) : ExE Γ K W (tLc wi tgt (tOfT Γ K W0 mtt) (tOf Γ K W0 mee) vs) (mComp bb mi g mtt mee vs) := by
  intro S H h σ env Q R G p
  refine ei S H h σ env _ R G ?_
  unfold mComp at p
  cases z : mi env h with
  | exc C xs h1 => rw [z] at p; exact p
  | stuck => rw [z] at p; exact p
  | ok iv h1 =>
    rw [z] at p
    cases iv with
    | st xs =>
      intro S1 H1 J e1 R1 it D hn
      have G1 := G.mono e1
      have p1 : Post Γ K (Rep Γ K) S1 H1 Q (WE' W σ) ((compL g mtt mee (wipeM env vs) xs [] h1).bind fun ys h => retL bb ys h) := Post.ext p e1
      clear p
      refine ⟨fun i m H' => m = xs.length - i ∧ i ≤ xs.length ∧ ∃ S' h' acc, AtD Γ K D S1 H1 acc S' h' H' ∧ REnv Γ K S' env σ ∧ Post Γ K (Rep Γ K) S1 H1 Q (WE' W σ) ((compL g mtt mee (wipeM env vs) (xs.drop i) acc h').bind fun ys h => retL bb ys h), ⟨xs.length, by simp, Nat.zero_le _, S1, h1, [], AtD.begin R1 hn, G1, p1⟩, ?_⟩
      rintro i m H2 ⟨rfl, hi, S2, h2, acc, a2, G2, p2⟩
      obtain ⟨it1, it2⟩ := it S2 h2 H2 i a2.ext.hs a2.ext.ix a2.rel
      by_cases hlt : i < xs.length
      · have hx : xs[i]? = some xs[i] := List.getElem?_eq_getElem hlt
        obtain ⟨go, yl⟩ := it2 _ hx
        rw [List.drop_eq_getElem_cons hlt] at p2
        unfold compL at p2
        cases zc : compT g mtt mee xs[i] acc (wipeM env vs) h2 with
        | exc C ys h3 => exact absurd zc (compT_noexc _ _ _)
        | stuck => rw [zc] at p2; exact p2.elim
        | ok acc3 h3 =>
          rw [zc] at p2
          refine .inr ⟨go, fun H' => ∃ S' h' acc, AtD Γ K D S1 H1 acc S' h' H' ∧ REnv Γ K S' env σ ∧ Post Γ K (Rep Γ K) S1 H1 Q (WE' W σ) ((compL g mtt mee (wipeM env vs) (xs.drop (i + 1)) acc h').bind fun ys h => retL bb ys h), fun H' w => ⟨xs.length - (i + 1), by omega, rfl, hlt, w⟩, fun v H' y => ?_⟩
          obtain ⟨rfl, rv⟩ := yl v H' y
          exact comp_turn eg hw hn a2 G2 rv zc fun S' H' a' _ mono => ⟨S', h3, acc3, a', mono _ _ G2, p2⟩
      · have hz : xs[i]? = none := List.getElem?_eq_none_iff.mpr (by omega)
        have hd : xs.drop i = [] := List.drop_eq_nil_iff.mpr (by omega)
        rw [hd] at p2
        exact .inl ⟨it1 hz, a2.end_ hn p2⟩
    | lv n =>
      intro S1 H1 J e1 R1 it D hn
      have G1 := G.mono e1
      have p1 : Post Γ K (Rep Γ K) S1 H1 Q (WE' W σ) ((compR g mtt mee (wipeM env vs) n big 0 [] h1).bind fun ys h => retL bb ys h) := Post.ext p e1
      clear p
      refine ⟨fun i m H' => ∃ S' h' acc, AtD Γ K D S1 H1 acc S' h' H' ∧ REnv Γ K S' env σ ∧ Post Γ K (Rep Γ K) S1 H1 Q (WE' W σ) ((compR g mtt mee (wipeM env vs) n m i acc h').bind fun ys h => retL bb ys h), ⟨big, S1, h1, [], AtD.begin R1 hn, G1, p1⟩, ?_⟩
      rintro i m H2 ⟨S2, h2, acc, a2, G2, p2⟩
      cases m with
      | zero => exact p2.elim
      | succ m =>
        unfold compR at p2
        split at p2
        · rename_i xs hxs
          obtain ⟨it1, it2⟩ := it S2 h2 H2 i xs a2.ext.hs a2.ext.ix a2.rel hxs
          split at p2
          · rename_i hz
            exact .inl ⟨it1 hz, a2.end_ hn p2⟩
          · rename_i x hx
            obtain ⟨go, yl⟩ := it2 _ hx
            cases zc : compT g mtt mee x acc (wipeM env vs) h2 with
            | exc C ys h3 => exact absurd zc (compT_noexc _ _ _)
            | stuck => rw [zc] at p2; exact p2.elim
            | ok acc3 h3 =>
              rw [zc] at p2
              refine .inr ⟨go, fun H' => ∃ S' h' acc, AtD Γ K D S1 H1 acc S' h' H' ∧ REnv Γ K S' env σ ∧ Post Γ K (Rep Γ K) S1 H1 Q (WE' W σ) ((compR g mtt mee (wipeM env vs) n m (i + 1) acc h').bind fun ys h => retL bb ys h), fun H' w => ⟨m, Nat.lt_succ_self m, w⟩, fun v H' y => ?_⟩
              obtain ⟨rfl, rv⟩ := yl v H' y
              exact comp_turn eg hw hn a2 G2 rv zc fun S' H' a' _ mono => ⟨S', h3, acc3, a', mono _ _ G2, p2⟩
        · exact p2.elim
inductive TgOk (K : PySem.W.Frag) (X : Cx) (scope : Scope) (vs : List Nat) (tg : Expr) : TG → MG → Prop
  | nm {i : Nat} (hi : i ∈ vs) (hp : ∀ (s : Shared) (H : Hp) (C : Addr) (cl : List (Str × Addr)) (fp : List Addr), PG (X.blk s H scope (compEnvC scope cl C X.env) fp) tg (gName i)) : TgOk K X scope vs tg (gName i) (gNm i)
  | tp {is : List Nat} {n : Nat} (hi : ∀ i ∈ is, i ∈ vs) (hn : is.length = n) (hp : ∀ (s : Shared) (H : Hp) (C : Addr) (cl : List (Str × Addr)) (fp : List Addr), PG (X.blk s H scope (compEnvC scope cl C X.env) fp) tg (L2.gTup K n (gNames is))) : TgOk K X scope vs tg (L2.gTup K n (gNames is)) (gTup (is.map gNm))
variable {elt iter : Expr} {ifs : List Expr} {scope : Scope} {own : List (Str × Nat)} {mi : MIt} {mee : ME} {mtt : MT} {g : MG} {tgt : TG}
structure STs (Γ : Gm) (X : Cx) (W : WX) (es : List Expr) (m : MT) : Prop where
  run : PTs X es (tOfT Γ X.K W m)
theorem sts_nil : STs Γ X W [] tYesM := ⟨⟨fun pins s σ H Q I ⟨S, h, env, R, G, p⟩ => pts_nil.run pins s σ H Q I (p S H true (Ext.refl _ _) R rfl)⟩⟩
theorem se_comp (bb : Bool) (hc : X.calm = true) (hN : X.N.Nodup) (hi : SI Γ X W tg iter mi) (ok : BlkOk X.N X.env.scope scope own) (hg : TgOk X.K X scope (own.map (·.2)) tg tgt g)
    (ht : ∀ (s : Shared) (H : Hp) (C : Addr) (cl : List (Str × Addr)) (fp : List Addr), STs Γ (X.blk s H scope (compEnvC scope cl C X.env) fp) W0 ifs mtt)
    (he : ∀ (s : Shared) (H : Hp) (C : Addr) (cl : List (Str × Addr)) (fp : List Addr), SE Γ (X.blk s H scope (compEnvC scope cl C X.env) fp) W0 elt mee)
    (hs : ∀ x, foldedSetIterable iter X.env x = pure x := by intro _; rfl) : SE Γ X W (.ListComp elt [⟨tg, iter, ifs, 0⟩] scope pos) (mComp bb mi g mtt mee (own.map (·.2))) := by
  obtain ⟨wi, pi, ei⟩ := hi.ex
  cases hg with
  | nm h1 h2 => exact ⟨_, pe_lc hc hN pi ok h2 (fun s H C cl fp => (ht s H C cl fp).run) (fun s H C cl fp => (he s H C cl fp).of) hs, ex_comp ei exg_name (tgw_name h1)⟩
  | tp h1 hn h2 => exact ⟨_, pe_lc hc hN pi ok h2 (fun s H C cl fp => (ht s H C cl fp).run) (fun s H C cl fp => (he s H C cl fp).of) hs, ex_comp ei (exg_tup hn) (tgw_tup h1)⟩
theorem ss_setLc (bb : Bool) (i : Nat) {y : Str} {py spos : Pos} (hc : X.calm = true) (hN : X.N.Nodup) (hsw : swapsWith (.ListComp elt [⟨tg, iter, ifs, 0⟩] scope pos) (some (.Name y py)) spos.line X.env = pure true) (hi : SI Γ X W tg iter mi) (ok : BlkOk X.N X.env.scope scope own) (hg : TgOk X.K X scope (own.map (·.2)) tg tgt g)
    (ht : ∀ (s : Shared) (H : Hp) (C : Addr) (cl : List (Str × Addr)) (fp : List Addr), STs Γ (X.blk s H scope (compEnvC scope cl C X.env) fp) W0 ifs mtt)
    (he : ∀ (s : Shared) (H : Hp) (C : Addr) (cl : List (Str × Addr)) (fp : List Addr), SE Γ (X.blk s H scope (compEnvC scope cl C X.env) fp) W0 elt mee)
    (hy : X.N[i]? = some y := by rfl) (hl : X.env.scope.names.lookup y = some .local := by rfl)
    (hs : ∀ x, foldedSetIterable iter X.env x = pure x := by intro _; rfl) : SS Γ X W (.Assign [.Name y py] (.ListComp elt [⟨tg, iter, ifs, 0⟩] scope pos) spos) (sSet i (mComp bb mi g mtt mee (own.map (·.2)))) := by
  obtain ⟨wi, pi, ei⟩ := hi.ex
  have fin : ∀ {t : TE}, ExE Γ X.K W t (mComp bb mi g mtt mee (own.map (·.2))) → ExS Γ X.K W (tAsg t (gName i)) (sSet i (mComp bb mi g mtt mee (own.map (·.2)))) := fun {t} et S H h σ env D R G p => exES (t := t) et R G p fun d h1 S1 H1 v e1 R1 G1 r1 p1 => p1 S1 H1 _ (Ext.refl _ _) R1 (G1.set r1 i)
  cases hg with
  | nm h1 h2 => exact ⟨_, ps_setLc hc hN hy hl hsw pi ok h2 (fun s H C cl fp => (ht s H C cl fp).run) (fun s H C cl fp => (he s H C cl fp).of) hs, fin (ex_comp ei exg_name (tgw_name h1))⟩
  | tp h1 hn h2 => exact ⟨_, ps_setLc hc hN hy hl hsw pi ok h2 (fun s H C cl fp => (ht s H C cl fp).run) (fun s H C cl fp => (he s H C cl fp).of) hs, fin (ex_comp ei (exg_tup hn) (tgw_tup h1))⟩
end
end Mn
set_option Elab.async false
set_option linter.all false
set_option maxRecDepth 100000
namespace Mn
open PySem PySem.Spec PyProof.Rows L2

def spM (Γ : Gm) (K : PySem.W.Frag) (n : Nat) (f : MF) : Sp := fun vs H Q E => vs.length = n ∧ ∃ S h ds, Rel Γ K S h H ∧ RepL Γ K S ds vs ∧ Post Γ K (Rep Γ K) S H Q E (f ds h)
@[reducible] def OutS.out : OutS → Out MV
  | .ok (.rt d) _ h => .ok d h
  | .ok .nx _ h => .ok .non h
  | .exc C xs _ h => .exc C xs h
  | _ => .stuck
def runF (N : Nat) (m : MS) : MF := fun ds h => (m (ds.map some ++ List.replicate (N - ds.length) none) h).out
section
variable {P : Program} {w : World} {K : PySem.W.Frag} {mg : Str → Option Value} {base : Heap} {Γ : Gm}
theorem start_env {S : Sh} {N : List Str} : ∀ {ds : List MV} {vs : List V}, RepL Γ K S ds vs → ∀ n, REnv Γ K S (ds.map some ++ List.replicate n none) (vs.map some ++ List.replicate n none)
  | [], vs, r, n => by
    unfold RepL at r; subst r
    refine ⟨by simp, fun i d e => ?_⟩
    have e' : (List.replicate n (none : Option MV))[i]? = some (some d) := e
    rw [List.getElem?_replicate] at e'
    split at e' <;> cases e'
  | d :: ds, vs, r, n => by
    unfold RepL at r
    obtain ⟨v, vr, rfl, r1, r2⟩ := r
    obtain ⟨h1, h2⟩ := start_env (N := N) r2 n
    refine ⟨by simpa using h1, fun i d' e => ?_⟩
    cases i with
    | zero =>
      have e' : some (some d) = some (some d') := e
      cases e'
      exact ⟨v, rfl, r1⟩
    | succ i => exact h2 i d' e
theorem fn_ok {x qual : Str} {st : Stmt} {f : Addr} {fd : FuncData} {N ps : List Str} {k : Nat} {m : MS} (F : Fun K x qual st f fd) (S : FnScope N ps (defScope st))
    (hb : ∀ (cdv : Value) (A : Around) (outer : List Env) (s : Shared) (H : Hp) (E : XK), Room k (A.deeper (envOfC qual (defScope st) s.heap.objs.size f cdv)) →
      SSs Γ (cxOf (L2.CX P w) P w K mg base N qual (defScope st) f cdv A outer s H E) (fun c d _ H => E c d H) (defBody st) m) :
    FnOk P w K mg base (L2.CX P w) (k + 1) f fd ps (spM Γ K ps.length (runF N.length m)) := by
  refine F.okX S (fun vs H Q E h => h.1) (fun cdv A outer s H vs Q E hr hsp => ?_)
  obtain ⟨hl, Sh, h, ds, R, r, p⟩ := hsp
  obtain ⟨t, pt, et⟩ := (hb cdv A outer s H E hr).ex
  refine ⟨t, pt, et Sh H h (L2.start N vs) (ds.map some ++ List.replicate (N.length - ds.length) none) _ R ?_ ?_⟩
  · have := start_env (N := N) r (N.length - ds.length)
    unfold L2.start
    rw [repL_len r] at this ⊢
    exact this
  · unfold runF at p
    cases z : m (ds.map some ++ List.replicate (N.length - ds.length) none) h with
    | ok fl env h1 =>
      rw [z] at p
      cases fl with
      | nx => exact fun S' H' σ' e R' G' => p S' H' .non e R' is_non
      | rt d => exact fun S' H' v e R' rv => p S' H' v e R' rv
      | bk => exact p.elim
      | ct => exact p.elim
    | exc C xs env h1 =>
      rw [z] at p
      exact fun S' H' σ' dd e R' G' x => p S' H' dd e R' x
    | stuck => rw [z] at p; exact p.elim
variable {X : Cx} {W : WX} {e : Expr} {es : List Expr} {ms : MA} {me : ME} {pos p apos : Pos} {fd : FuncData} {ps : List Str} {k : Nat} {f C : Addr} {x m : Str}
theorem sp_of {n : Nat} {g : MF} {S : Sh} {H : Hp} {h : MH} {ds : List MV} {vs : List V} {Q : VK} {E : XK} (R : Rel Γ K S h H) (r : RepL Γ K S ds vs) (hn : ds.length = n) (p : Post Γ K (Rep Γ K) S H Q E (g ds h)) : spM Γ K n g vs H Q E := ⟨by rw [← repL_len r]; exact hn, S, h, ds, R, r, p⟩
def mCall (n : Nat) (g : MF) (a : MA) : ME := fun env h => (a env h).bind fun ds h => if ds.length = n then g ds h else .stuck
theorem se_call {n : Nat} {g : MF} (F : FnOk X.prog X.w X.K X.mg X.base (L2.CX X.prog X.w) k f fd ps (spM Γ X.K n g)) (hr : Room k X.A) (hm : X.mg x = some (.ref f)) (hk : PySem.W.keepIn X.K (.ref f) = true) (hb : Binds X.K fd ps []) (tk : Takes X W)
    (ha : SA Γ X W (e :: es) ms) (hg : Gl X x := by rfl) (hdb : (x == ("__debug__" : Str)) = false := by decide) (he : starEach (e :: es) X.env = (false, eval e X.env) :: starEach es X.env := by rfl) (hpl : (backTo pos (starEach es X.env)).any (·.1) = false := by rfl) :
    SE Γ X W (.Call (.Name x p) (e :: es) [] pos) (mCall n g ms) := by
  obtain ⟨t, pt, et⟩ := ha.ex
  refine ⟨_, pe_callSD (E := WE W) F hr hg hm hk hb .nil (fun σ => passAt tk σ) pt hdb he hpl, fun S H h σ env Q R G p => exA_bind (t := t) et R G p fun ds h1 S1 H1 vs e1 R1 G1 r1 p1 => ?_⟩
  split at p1
  · rename_i hn
    rw [List.append_nil]
    exact sp_of R1 r1 hn p1
  · exact p1.elim
end

def sRaise (C : Str) : MS := fun env h => .exc C [] env h
section
variable {Γ : Gm} {X : Cx} {W : WX}
theorem ss_raise {x m : Str} {j : Nat} {p p2 pos pos' : Pos} {bmB : List Value} {B newId initId : String} (hc : X.calm = true) (tk : Takes X W) (F : ExcBaseFacts B newId initId bmB) (q : PySem.W.excIn X.K (Γ.cls x) bmB newId = true) (gC : X.mg x = some (.ref (Γ.cls x))) (kC : PySem.W.keepIn X.K (.ref (Γ.cls x)) = true) (r : Raises X (.ref (Γ.cls x)))
    (hg : Gl X x := by rfl) (hdb : (x == ("__debug__" : Str)) = false := by decide) : SS Γ X W (.Raise (some (.Call (.Name x p) [.Constant (.str m) j p2] [] pos)) none pos') (sRaise x) :=
  ⟨_, ps_raise hc tk (pmk_own F q gC kC r hg hdb), fun S H h σ env D R G p => p S H σ none (Ext.refl _ _) R G rfl⟩
end

def wGen (K : PySem.W.Frag) (Wout : WX) (D : Ends) : List (Value × Option Nat × (Addr → Value → Option Addr → TS)) → WX
  | [] => Wout
  | (c, none, ts) :: r => fun cls d σ H => ∃ b, PySem.W.exmOne K cls c = some b ∧ (b = true → ∀ a, H a = none → ts a cls d D σ H) ∧ (b = false → wGen K Wout D r cls d σ H)
  | (c, some i, ts) :: r => fun cls d σ H => ∃ b, PySem.W.exmOne K cls c = some b ∧ (b = true → ∀ a, H a = none → ts a cls d { nx := fun σ' H' => D.nx (σ'.set i none) H', rt := D.rt, bk := fun σ' H' => D.bk (σ'.set i none) H', ct := fun σ' H' => D.ct (σ'.set i none) H' } (σ.set i (some (.ref a))) H) ∧ (b = false → wGen K Wout D r cls d σ H)
inductive HdsG (X : Cx) : List ExceptHandler → List (Value × Option Nat × (Addr → Value → Option Addr → TS)) → Prop
  | nil : HdsG X [] []
  | cons {x : Str} {c : Value} {ts : Addr → Value → Option Addr → TS} {b₀ : Stmt} {suite : List Stmt} {np pos' : Pos} {hds : List ExceptHandler} {l : List (Value × Option Nat × (Addr → Value → Option Addr → TS))} (hc : Names X x c)
      (hsu : ∀ (a : Addr) (oe : Obj) (cls : Value) (d : Option Addr) (pn : List (Addr × Obj)), Zc cls d oe → (∃ vs, oe.data = .fields vs) → PSs (X.suite a ((a, oe) :: pn)) (b₀ :: suite) (ts a cls d)) (r : HdsG X hds l) :
      HdsG X (.ExceptHandler (some (.Name x np)) none (b₀ :: suite) pos' :: hds) ((c, none, ts) :: l)
  | consA {x n : Str} {i : Nat} {c : Value} {ts : Addr → Value → Option Addr → TS} {b₀ : Stmt} {suite : List Stmt} {np pos' : Pos} {hds : List ExceptHandler} {l : List (Value × Option Nat × (Addr → Value → Option Addr → TS))} (hN : X.N.Nodup) (hi : X.N[i]? = some n) (hln : X.env.kindOf n = some .local) (hc : Names X x c)
      (hsu : ∀ (a : Addr) (oe : Obj) (cls : Value) (d : Option Addr) (pn : List (Addr × Obj)), Zc cls d oe → (∃ vs, oe.data = .fields vs) → PSs (X.suite a ((a, oe) :: pn)) (b₀ :: suite) (ts a cls d)) (r : HdsG X hds l) :
      HdsG X (.ExceptHandler (some (.Name x np)) (some n) (b₀ :: suite) pos' :: hds) ((c, some i, ts) :: l)
section
variable {X : Cx} {body : List Stmt} {h₀ : ExceptHandler} {hds : List ExceptHandler} {l : List (Value × Option Nat × (Addr → Value → Option Addr → TS))} {pos : Pos} {tb : WX → TS} {Wout : WX}
theorem ps_try_gen (hs : X.stack = X.env :: X.outer) (hf : X.env.frame = some X.env.locals) (tk : Takes X Wout)
    (hb : ∀ (W : WX) (pn : List (Addr × Obj)) (xe : Value → Shared → Prop), Takes (X.tr pn xe) W → PassesOwn (model X.prog X.w) X.A X.env xe → PSs (X.tr pn xe) body (tb W))
    (hh : HdsG X (h₀ :: hds) l) : PS X (.Try body (h₀ :: hds) [] [] pos) (fun D σ H => tb (wGen X.K Wout D l) D σ H) := by
  refine ⟨fun pins s σ H D I h => ?_⟩
  have ok := I.ok
  have hfr : X.A.frames = some (X.env :: X.outer) := by rw [ok.frames, hs]
  refine wpAny_Try_except ?_
  refine wpAny_mono ((hb (wGen X.K Wout D l) (X.pn ++ pins) (fun e s₁ => wpAny (model X.prog X.w) X.A (noteFrame e X.env) (fun _ s₂ => wpAny (model X.prog X.w) X.A (setFlight e none) (fun _ s₃ =>
    wpAny (model X.prog X.w) X.A (handleBy e X.env (h₀ :: hds)) (SP X pins D) X.xe s₃) X.xe s₂) X.xe s₁) (fun u s' xx => ?_) PassesOwn.looking).run [] s σ H D (I.toTry _) h) (fun f s1 hsp => ?_) (fun e s1 he => he)
  · obtain ⟨a, B, sI, pins', σ', H', cls, d, rfl, J', nb, up, sky, na, os, ag, w⟩ := xx
    have J : Inv X pins σ' H' sI := J'.ofTry ok
    have sky' : Sky B (X.env :: X.outer) a (Zc cls d) X.env.locals s'.heap := by rw [← hs]; exact sky
    show wpAny (model X.prog X.w) X.A (noteFrame (.ref a) X.env) _ _ _
    refine Sky.land Zc.steady hfr hf sky' fun h3 fl3 up3 => ?_
    have J3 : Inv X pins σ' H' { s' with heap := h3 } := J.landed nb fl3.1 (up.trans up3) os ag
    obtain ⟨oe3, vs3, he3, hz3, hd3⟩ := fl3.there
    have notFr : ∀ {h : Heap} {o : Obj} {vs : Array Value}, h.FunFrames B (X.env :: X.outer) → h.get? a = some o → o.data = .fields vs → a ∉ frs (X.env :: X.outer) := fun {h o vs} ff e dd hm => by
      obtain ⟨_, o', e', hnf⟩ := ff.mem hm
      rw [e] at e'; cases e'
      exact hnf _ dd
    have nfr := notFr fl3.2.2.1 he3 hd3
    have nL : a ≠ X.env.locals := fun z => nfr (List.mem_filterMap.mpr ⟨X.env, List.mem_cons_self, by rw [hf, z]⟩)
    have nF : a ∉ X.fs := fun hm => by
      obtain ⟨e, he, q⟩ := List.mem_filterMap.mp hm
      exact nfr (List.mem_filterMap.mpr ⟨e, List.mem_cons_of_mem _ he, q⟩)
    have S3 := J3.suite he3 hd3 na nL nF
    have test : ∀ {x : Str} {np : Pos} {c : Value} {Q : Value → Shared → Prop} {E : Value → Shared → Prop}, Names X x c → Q c { s' with heap := h3 } → wpAny (model X.prog X.w) (X.A.mark (some (.ref a))) (eval (.Name x np) X.env) Q E { s' with heap := h3 } := fun {x np c Q E} hc q => by
      obtain ⟨hg, hdbg, hm | ⟨hm, hv, hnn⟩⟩ := hc
      · exact ld_glob (X := X.suite a ((a, oe3) :: (X.pn ++ pins))) S3 hg hm q hdbg
      · exact ld_blt (X := X.suite a ((a, oe3) :: (X.pn ++ pins))) S3 hg hm hv q hnn hdbg
    have LT : PySem.W.Looks (model X.prog X.w) h3 (typeOf (.ref a)) cls := fun A Q E s k q => wpAny_typeOf_ref (k _ _ he3) (by rw [hz3.1]; exact q)
    have go : ∀ {hds' : List ExceptHandler} {l' : List (Value × Option Nat × (Addr → Value → Option Addr → TS))}, HdsG X hds' l' → wGen X.K Wout D l' cls d σ' H' →
        wpAny (model X.prog X.w) X.A (handleBy (.ref a) X.env hds') (SP X pins D) X.xe { s' with heap := h3 } := by
      intro hds' l' hk
      induction hk with
      | nil =>
        intro w
        refine wpAny_handleBy_nil ?_
        obtain ⟨k1, k2, k3, oe, vs, T, oT, ts', he, hz, hd, h1, hr⟩ := id fl3
        unfold PySem.passOn
        refine wpAny_bind (wpAny_field he hd h1 ?_)
        rw [if_neg (show ¬ ((Value.ref T == Value.none) = true) from by simp)]
        have fin : wpAny (model X.prog X.w) X.A (setFlight (.ref a) X.env.frame) (fun _ s4 => wpAny (model X.prog X.w) X.A (throw (.ref a) : Sem Flow) (SP X pins D) X.xe s4) X.xe { s' with heap := h3 } := by
          rw [hf]
          refine HandSPX.setFlight_upZ fl3 fun h4 hh4 up4 => wpAny_throw (tk _ _ ?_)
          exact ⟨a, B, sI, pins, σ', H', cls, d, rfl, J, nb, (up.trans up3).trans up4, .inr (.inr (by rw [hs]; exact hh4)), na, os, ag, w⟩
        first
          | exact wpAny_bind (wpAny_pure (wpAny_bind fin))
          | exact wpAny_bind fin
      | @cons x c ts b₀ suite np pos' hds2 l2 hc hsu r ih =>
        intro w
        obtain ⟨b, hb1, hyes, hno⟩ := w
        refine wpAny_handleBy_cons (codeAny_handlers_test ?_) (by intro q; cases q)
        have LM := PySem.W.exm_one (M := model X.prog X.w) (J3.kIn) LT hb1
        refine test hc (LM.here ?_)
        cases b with
        | true =>
          refine codeAny_handlers_suite ?_
          refine HandSPX.lands_againZ fl3 fun h4 fl4 up4 => ?_
          have J4 : Inv X pins σ' H' { s' with heap := h4 } := J.landed nb fl4.1 ((up.trans up3).trans up4) os ag
          obtain ⟨oe4, vs4, he4, hz4, hd4⟩ := fl4.there
          have S4 := J4.suite he4 hd4 na nL nF
          refine wpAny_mono ((hsu a oe4 cls d (X.pn ++ pins) hz4 ⟨_, hd4⟩).run [] _ _ H' _ S4 (hyes rfl a na)) (fun f s6 hsp => ?_) (fun _ _ z => False.elim z)
          cases f with
          | next =>
            obtain ⟨σ6, H6, S6, q6⟩ := hsp
            exact ⟨_, _, S6.unsuite ok, q6⟩
          | brk =>
            obtain ⟨σ6, H6, S6, q6⟩ := hsp
            exact ⟨_, _, S6.unsuite ok, q6⟩
          | cont =>
            obtain ⟨σ6, H6, S6, q6⟩ := hsp
            exact ⟨_, _, S6.unsuite ok, q6⟩
          | ret u =>
            obtain ⟨v6, σ6, H6, S6, r6, q6⟩ := hsp
            exact ⟨_, _, _, S6.unsuite ok, r6, q6⟩
        | false =>
          show wpAny _ X.A (handleBy (.ref a) X.env hds2) _ _ _
          exact ih (hno rfl)
      | @consA x n i c ts b₀ suite np pos' hds2 l2 hN hi hln hc hsu r ih =>
        intro w
        obtain ⟨b, hb1, hyes, hno⟩ := w
        refine wpAny_handleBy_cons (codeAny_handlers_test ?_) (by intro q; cases q)
        have LM := PySem.W.exm_one (M := model X.prog X.w) (J3.kIn) LT hb1
        refine test hc (LM.here ?_)
        cases b with
        | true =>
          refine codeAny_handlers_suite_as ?_
          refine HandSPX.lands_againZ fl3 fun h4 fl4 up4 => ?_
          have J4 : Inv X pins σ' H' { s' with heap := h4 } := J.landed nb fl4.1 ((up.trans up3).trans up4) os ag
          obtain ⟨oe4, vs4, he4, hz4, hd4⟩ := fl4.there
          have S4 := J4.suite he4 hd4 na nL nF
          refine store_ok (X := X.suite a ((a, oe4) :: (X.pn ++ pins))) (v := .ref a) S4 hN hi (.inl hln) rfl (fun s5 S5 => ?_) (.inr hln)
          refine wpAny_mono ((hsu a oe4 cls d (X.pn ++ pins) hz4 ⟨_, hd4⟩).run [] s5 _ H' _ S5 (hyes rfl a na)) (fun f s6 hsp => ?_) (fun _ _ z => False.elim z)
          have end_ : ∀ {σ6 : L2.St} {H6 : Hp} {Q : Shared → Prop}, Inv (X.suite a ((a, oe4) :: (X.pn ++ pins))) [] σ6 H6 s6 → (∀ s7, Inv X pins (σ6.set i none) H6 s7 → Q s7) →
              wpAny (model X.prog X.w) X.A (do bindName X.env n .none; unbindBehindTheSuite X.env n pos') (fun _ s7 => Q s7) X.xe s6 := fun {σ6 H6 Q} S6 hq => gone_ok (S6.unsuite ok) hN hi hln hq
          cases f with
          | next =>
            obtain ⟨σ6, H6, S6, q6⟩ := hsp
            exact end_ S6 fun s7 J7 => ⟨_, _, J7, q6⟩
          | brk =>
            obtain ⟨σ6, H6, S6, q6⟩ := hsp
            exact end_ S6 fun s7 J7 => ⟨_, _, J7, q6⟩
          | cont =>
            obtain ⟨σ6, H6, S6, q6⟩ := hsp
            exact end_ S6 fun s7 J7 => ⟨_, _, J7, q6⟩
          | ret u =>
            obtain ⟨v6, σ6, H6, S6, r6, q6⟩ := hsp
            exact end_ S6 fun s7 J7 => ⟨_, _, _, J7, r6, q6⟩
        | false =>
          show wpAny _ X.A (handleBy (.ref a) X.env hds2) _ _ _
          exact ih (hno rfl)
    exact go hh w
  · cases f with
    | next =>
      obtain ⟨σ', H', J', q⟩ := hsp
      exact wpAny_execs_nil ⟨σ', H', J'.ofTry ok, q⟩
    | brk =>
      obtain ⟨σ', H', J', q⟩ := hsp
      exact ⟨σ', H', J'.ofTry ok, q⟩
    | cont =>
      obtain ⟨σ', H', J', q⟩ := hsp
      exact ⟨σ', H', J'.ofTry ok, q⟩
    | ret u =>
      obtain ⟨v, σ', H', J', r, q⟩ := hsp
      exact ⟨v, σ', H', J'.ofTry ok, r, q⟩
end
structure Hd where
  tab : List (Str × Bool)
  sl : Option Nat
  su : MV → MS
@[reducible] def OutS.noxS : OutS → OutS
  | .exc _ _ _ _ => .stuck
  | o => o
def wipeO (i : Nat) : OutS → OutS
  | .ok f env h => .ok f (env.set i none) h
  | _ => .stuck
open Classical in
noncomputable def runHds (C : Str) (xs : List MV) : List Hd → MEnv → MH → OutS
  | [], env, h => .exc C xs env h
  | hd :: r, env, h => match hd.tab.lookup C with
    | some true => match hd.sl with
      | none => (hd.su .non env h).noxS
      | some i => if ∀ a d, wipeO i (hd.su (.exo a d C xs) (env.set i (some (.exo a d C xs))) h) = wipeO i (hd.su (.exo 0 none C xs) (env.set i (some (.exo 0 none C xs))) h) then
          wipeO i (hd.su (.exo 0 none C xs) (env.set i (some (.exo 0 none C xs))) h) else .stuck
    | some false => runHds C xs r env h
    | none => .stuck
noncomputable def sTry (b : MS) (hds : List Hd) : MS := fun env h => match b env h with
  | .exc C xs env' h' => runHds C xs hds env' h'
  | o => o
def tOfS (Γ : Gm) (K : PySem.W.Frag) (W : WX) (m : MS) : TS := fun D σ H => ∃ S h env, Rel Γ K S h H ∧ REnv Γ K S env σ ∧ PostS Γ K S H D W (m env h)
section
variable {Γ : Gm} {X : Cx} {W : WX}
theorem SSs.of {sts : List Stmt} {m : MS} (h : SSs Γ X W sts m) : PSs X sts (tOfS Γ X.K W m) := by
  obtain ⟨t, pt, et⟩ := h.ex
  exact ⟨fun pins s σ H D I ⟨S, h, env, R, G, p⟩ => pt.run pins s σ H D I (et S H h σ env D R G p)⟩
theorem pss_exW {ι : Type} {sts : List Stmt} {t : ι → TS} (h : ∀ i, PSs X sts (t i)) : PSs X sts (fun D σ H => ∃ i, t i D σ H) := ⟨fun pins s σ H D I ⟨i, q⟩ => (h i).run pins s σ H D I q⟩
def tHd (Γ : Gm) (K : PySem.W.Frag) (hd : Hd) (a : Addr) (cls : Value) (d : Option Addr) : TS := fun D σ H => ∃ i : { q : Str × List MV // cls = .ref (Γ.cls q.1) ∧ hd.tab.lookup q.1 = some true },
  tOfS Γ K W0 (hd.su (match hd.sl with | none => .non | some _ => .exo a d i.1.1 i.1.2)) D σ H
inductive SHd (Γ : Gm) (X : Cx) : List ExceptHandler → List Hd → Prop
  | nil : SHd Γ X [] []
  | cons {x : Str} {c : Value} {b₀ : Stmt} {suite : List Stmt} {np pos' : Pos} {hds : List ExceptHandler} {tab : List (Str × Bool)} {su : MV → MS} {l : List Hd} (hc : Names X x c) (ht : ∀ p ∈ tab, PySem.W.exmOne X.K (.ref (Γ.cls p.1)) c = some p.2)
      (hsu : ∀ (a : Addr) (oe : Obj) (C : Str) (d : Option Addr) (pn : List (Addr × Obj)), Zc (.ref (Γ.cls C)) d oe → (∃ vs, oe.data = .fields vs) → SSs Γ (X.suite a ((a, oe) :: pn)) W0 (b₀ :: suite) (su .non)) (r : SHd Γ X hds l) :
      SHd Γ X (.ExceptHandler (some (.Name x np)) none (b₀ :: suite) pos' :: hds) (⟨tab, none, su⟩ :: l)
  | consA {x n : Str} {i : Nat} {c : Value} {b₀ : Stmt} {suite : List Stmt} {np pos' : Pos} {hds : List ExceptHandler} {tab : List (Str × Bool)} {su : MV → MS} {l : List Hd} (hN : X.N.Nodup) (hi : X.N[i]? = some n) (hln : X.env.kindOf n = some .local) (hc : Names X x c) (ht : ∀ p ∈ tab, PySem.W.exmOne X.K (.ref (Γ.cls p.1)) c = some p.2)
      (hsu : ∀ (a : Addr) (oe : Obj) (C : Str) (xs : List MV) (d : Option Addr) (pn : List (Addr × Obj)), Zc (.ref (Γ.cls C)) d oe → (∃ vs, oe.data = .fields vs) → tab.lookup C = some true → SSs Γ (X.suite a ((a, oe) :: pn)) W0 (b₀ :: suite) (su (.exo a d C xs))) (r : SHd Γ X hds l) :
      SHd Γ X (.ExceptHandler (some (.Name x np)) (some n) (b₀ :: suite) pos' :: hds) (⟨tab, some i, su⟩ :: l)
theorem SHd.hds {hs : List ExceptHandler} {l : List Hd} (h : SHd Γ X hs l) : ∃ g : List (Value × Option Nat × (Addr → Value → Option Addr → TS)), HdsG X hs g ∧
    ∀ (Wout : WX) (D : Ends) (C : Str) (xs : List MV) (env : MEnv) (hh : MH) S H σ dd, Rel Γ X.K S hh H → REnv Γ X.K S env σ → RepX Γ X.K C xs dd S H → PostS Γ X.K S H D Wout (runHds C xs l env hh) → wGen X.K Wout D g (.ref (Γ.cls C)) dd σ H := by
  induction h with
  | nil => exact ⟨[], .nil, fun Wout D C xs env hh S H σ dd R G x p => p S H σ dd (Ext.refl _ _) R G x⟩
  | @cons x c b₀ suite np pos' hds tab su l hc ht hsu r ih =>
    obtain ⟨g, hg, ih⟩ := ih
    refine ⟨(c, none, tHd Γ X.K ⟨tab, none, su⟩) :: g, .cons hc (fun a oe cls d pn hz hf => pss_exW fun ⟨⟨C, xs⟩, e, _⟩ => ?_) hg, fun Wout D C xs env hh S H σ dd R G x p => ?_⟩
    · have e' : cls = .ref (Γ.cls C) := e
      subst e'
      exact (hsu a oe C d pn hz hf).of
    · unfold runHds at p
      simp only at p
      split at p
      · rename_i ht1
        refine ⟨true, ht (C, true) (PySem.mem_of_lookup ht1), fun _ a ha => ⟨⟨(C, xs), rfl, ht1⟩, S, hh, env, R, G, ?_⟩, fun z => by cases z⟩
        show PostS Γ X.K S H D W0 (su .non env hh)
        cases z : su .non env hh with
        | ok f env1 h1 => rw [z] at p; cases f <;> exact p
        | exc _ _ _ _ => rw [z] at p; exact p.elim
        | stuck => rw [z] at p; exact p
      · rename_i ht1
        exact ⟨false, ht (C, false) (PySem.mem_of_lookup ht1), fun z => (by cases z), fun _ => ih Wout D C xs env hh S H σ dd R G x p⟩
      · exact p.elim
  | @consA x n i c b₀ suite np pos' hds tab su l hN hi hln hc ht hsu r ih =>
    obtain ⟨g, hg, ih⟩ := ih
    refine ⟨(c, some i, tHd Γ X.K ⟨tab, some i, su⟩) :: g, .consA hN hi hln hc (fun a oe cls d pn hz hf => pss_exW fun ⟨⟨C, xs⟩, e, ht1⟩ => ?_) hg, fun Wout D C xs env hh S H σ dd R G x p => ?_⟩
    · have e' : cls = .ref (Γ.cls C) := e
      subst e'
      exact (hsu a oe C xs d pn hz hf ht1).of
    · unfold runHds at p
      simp only at p
      split at p
      · rename_i ht1
        split at p
        · rename_i hall
          refine ⟨true, ht (C, true) (PySem.mem_of_lookup ht1), fun _ a ha => ⟨⟨(C, xs), rfl, ht1⟩, S, hh, env.set i (some (.exo a dd C xs)), R, G.set ?_ i, ?_⟩, fun z => by cases z⟩
          · unfold Rep
            refine ⟨rfl, ?_⟩
            unfold RepX at x
            split at x
            · exact ⟨[], .inl ⟨rfl, x⟩, repL_nil⟩
            · obtain ⟨d, v, q1, q2, q3⟩ := x
              exact ⟨[v], .inr ⟨d, v, rfl, q1, q2⟩, repL_cons q3 repL_nil⟩
            · exact x.elim
          · show PostS Γ X.K S H _ W0 (su (.exo a dd C xs) (env.set i (some (.exo a dd C xs))) hh)
            rw [← hall a dd] at p
            cases z : su (.exo a dd C xs) (env.set i (some (.exo a dd C xs))) hh with
            | ok f env1 h1 =>
              rw [z] at p
              cases f with
              | nx => exact fun S' H' σ' e R' G' => p S' H' _ e R' (G'.drop i none)
              | bk => exact fun S' H' σ' e R' G' => p S' H' _ e R' (G'.drop i none)
              | ct => exact fun S' H' σ' e R' G' => p S' H' _ e R' (G'.drop i none)
              | rt d => exact p
            | exc _ _ _ _ => rw [z] at p; exact p.elim
            | stuck => rw [z] at p; exact p.elim
        · exact p.elim
      · rename_i ht1
        exact ⟨false, ht (C, false) (PySem.mem_of_lookup ht1), fun z => (by cases z), fun _ => ih Wout D C xs env hh S H σ dd R G x p⟩
      · exact p.elim
theorem ss_try {body : List Stmt} {h₀ : ExceptHandler} {hds : List ExceptHandler} {pos : Pos} {b : MS} {l : List Hd} (hs : X.stack = X.env :: X.outer) (hf : X.env.frame = some X.env.locals) (tk : Takes X W)
    (hb : ∀ (W' : WX) (pn : List (Addr × Obj)) (xe : Value → Shared → Prop), Takes (X.tr pn xe) W' → PassesOwn (model X.prog X.w) X.A X.env xe → SSs Γ (X.tr pn xe) W' body b)
    (hh : SHd Γ X (h₀ :: hds) l) : SS Γ X W (.Try body (h₀ :: hds) [] [] pos) (sTry b l) := by
  obtain ⟨g, hg, eg⟩ := hh.hds
  refine ⟨_, ps_try_gen hs hf tk (tb := fun W' => tOfS Γ X.K W' b) (fun W' pn xe t1 t2 => (hb W' pn xe t1 t2).of) hg, fun S H h σ env D R G p => ⟨S, h, env, R, G, ?_⟩⟩
  unfold sTry at p
  cases z : b env h with
  | ok f env1 h1 => rw [z] at p; cases f <;> exact p
  | exc C xs env1 h1 =>
    rw [z] at p
    exact fun S' H' σ' dd e R' G' x => eg W D C xs env1 h1 S' H' σ' dd R' G' x (PostS.ext p e)
  | stuck => rw [z] at p; exact p.elim
end
end Mn
set_option Elab.async false
set_option linter.all false
set_option maxRecDepth 100000
namespace Mn
open PySem PySem.Spec PyProof.Rows L2

theorem CallR.or {X : Cx} {f : Value} {r r' : List V → Hp → VK → Prop} (a : CallR X f r) (b : CallR X f r') : CallR X f (fun xs H Q => r xs H Q ∨ r' xs H Q) := by
  intro pins s σ H xs us Q I r h
  rcases h with h | h
  · exact a pins s σ H xs us Q I r h
  · exact b pins s σ H xs us Q I r h
section
variable {Γ : Gm} {K : PySem.W.Frag} {X : Cx} {W : WX}

def fLen : MF
  | [.str z], h => if z.length ≤ sizeLine then .ok (.int z.length) h else .stuck
  | [.ref n], h => match h[n]? with
    | some (.lst xs) => .ok (.int xs.length) h
    | some (.dct kvs) => .ok (.int kvs.length) h
    | _ => .stuck
  | [x], h => match seqAt h x with
    | some xs => .ok (.int xs.length) h
    | none => .stuck
  | _, _ => .stuck
theorem repD_len : ∀ {kvs : List (MV × MV)} {us : List (Key × V)} {S : Sh}, RepD Γ K S kvs us → kvs.length = us.length
  | [], us, S, r => by unfold RepD at r; rw [r]; rfl
  | x :: xs, us, S, ⟨k, u, r, e1, e2, e3, e4⟩ => by rw [e1, List.length_cons, List.length_cons, repD_len e4]
def rLenAll (K : PySem.W.Frag) : List V → Hp → VK → Prop := fun xs H Q => (∃ x n, xs = [x] ∧ LenV K x H n ∧ Q (.int n) H) ∨ ∃ a kvs, xs = [V.ref a] ∧ H a = some (.dK kvs) ∧ Q (.int kvs.length) H
theorem call_lenAll : CallR X (.builtin "len") (rLenAll X.K) := CallR.or call_len call_lenD
theorem lift_len : LiftF Γ K (rLenAll K) fLen := by
  intro S H h xs us Q E R r p
  unfold fLen at p
  split at p
  · obtain ⟨v, rfl, q1⟩ := repL_1 r
    split at p
    · rename_i hz
      have := rep_str q1
      subst this
      exact .inl ⟨_, _, rfl, ⟨hz, rfl⟩, p.val R is_int⟩
    · exact p.elim
  · obtain ⟨v, rfl, q1⟩ := repL_1 r
    split at p
    · rename_i n _ xs hx
      obtain ⟨a, us, rfl, q2, q3⟩ := lstAt_ok (xs := xs) R (d := .ref n) (show lstAt h (.ref n) = some xs by unfold lstAt; simp only; rw [hx]) q1
      exact .inl ⟨_, us.length, rfl, .inl ⟨us, q2, rfl⟩, by rw [← repL_len q3]; exact p.val R is_int⟩
    · rename_i n _ kvs hx
      unfold Rep at q1
      obtain ⟨a, e1, rfl⟩ := q1
      obtain ⟨_, us, q2, q3⟩ := R.cell n _ a hx e1
      exact .inr ⟨a, us, rfl, q2, by rw [← repD_len q3]; exact p.val R is_int⟩
    · exact p.elim
  · rename_i x _ _ _
    obtain ⟨v, rfl, q1⟩ := repL_1 r
    split at p
    · rename_i xs hx
      obtain ⟨a, us, rfl, q2, q3⟩ := seqAt_ok R hx q1
      refine .inl ⟨_, us.length, rfl, ?_, by rw [← repL_len q3]; exact p.val R is_int⟩
      rcases q2 with q2 | q2
      · exact .inl ⟨us, q2, rfl⟩
      · exact .inr ⟨us, q2, rfl⟩
    · exact p.elim
  · exact p.elim

def fInt : MF
  | [.int i], h => .ok (.int i) h
  | [.bl b], h => .ok (.int (if b then 1 else 0)) h
  | _, _ => .stuck
theorem lift_int : LiftF Γ K (fun xs H Q => (∃ i, xs = [V.int i] ∧ Q (.int i) H) ∨ ∃ k, xs = [V.bl k] ∧ Q (.int (if k then 1 else 0)) H) fInt := by
  intro S H h xs us Q E R r p
  unfold fInt at p
  split at p
  · obtain ⟨v, rfl, q1⟩ := repL_1 r
    exact .inl ⟨_, by rw [rep_int q1], p.val R is_int⟩
  · obtain ⟨v, rfl, q1⟩ := repL_1 r
    exact .inr ⟨_, by rw [rep_bl q1], p.val R is_int⟩
  · exact p.elim
def fList (b : Bool) : MF
  | [x], h => match seqAt h x with
    | some xs => retL b xs h
    | none => .stuck
  | _, _ => .stuck
theorem lift_list {b : Bool} : LiftF Γ K (fun xs H Q => ∃ p ys, xs = [V.ref p] ∧ (SqL K H p ys ∨ SqT K H p ys) ∧ ∀ l, H l = none → Q (.ref l) (upd H l (.lst ys))) (fList b) := by
  intro S H h xs us Q E R r p
  unfold fList at p
  split at p
  · obtain ⟨v, rfl, q1⟩ := repL_1 r
    split at p
    · rename_i xs hx
      obtain ⟨a, us, rfl, q2, q3⟩ := seqAt_ok R hx q1
      exact ⟨a, us, rfl, q2, newL R q3 p⟩
    · exact p.elim
  · exact p.elim
def fTuple : MF
  | [.tup xs], h => .ok (.tup xs) h
  | [x], h => match lstAt h x with
    | some xs => .ok (.tup xs) h
    | none => .stuck
  | _, _ => .stuck
theorem lift_tuple : LiftF Γ K (fun xs H Q => ∃ p ys, xs = [V.ref p] ∧ ((SqL K H p ys ∧ ∀ l, H l = none → Q (.ref l) (upd H l (.tup ys))) ∨ (SqT K H p ys ∧ Q (.ref p) H))) fTuple := by
  intro S H h xs us Q E R r p
  unfold fTuple at p
  split at p
  · obtain ⟨v, rfl, q1⟩ := repL_1 r
    have q1' := q1
    obtain ⟨a, us, rfl, q2, q3⟩ := tup_ok R q1
    exact ⟨a, us, rfl, .inr ⟨q2, p.val R q1'⟩⟩
  · obtain ⟨v, rfl, q1⟩ := repL_1 r
    split at p
    · rename_i xs hx
      obtain ⟨a, us, rfl, q2, q3⟩ := lstAt_ok R hx q1
      exact ⟨a, us, rfl, .inl ⟨q2, newT R q3 p⟩⟩
    · exact p.elim
  · exact p.elim
def fMax2 : MF
  | [.int i, .int j], h => .ok (.int (if j > i then j else i)) h
  | _, _ => .stuck
theorem lift_max2 : LiftF Γ K (fun xs H Q => ∃ i j : Int, xs = [V.int i, .int j] ∧ Q (.int (if j > i then j else i)) H) fMax2 := by
  intro S H h xs us Q E R r p
  unfold fMax2 at p
  split at p
  · obtain ⟨v, w, rfl, q1, q2⟩ := repL_2 r
    exact ⟨_, _, by rw [rep_int q1, rep_int q2], p.val R is_int⟩
  · exact p.elim
def tyOfM (h : MH) : MV → Option String
  | .non => some "NoneType"
  | .bl _ => some "bool"
  | .int _ => some "int"
  | .str _ => some "str"
  | .tup _ => some "tuple"
  | .fl _ => some "list"
  | .ref n => match h[n]? with
    | some (.lst _) => some "list"
    | some (.dct _) => some "dict"
    | _ => none
  | _ => none
def isiB (a T : String) : Option Bool := if a ∈ ["NoneType", "bool", "int", "str", "tuple", "list", "dict"] ∧ T ∈ ["bool", "int", "str", "tuple", "list", "dict"] then some (a == T || (a == "bool" && T == "int")) else none
theorem isiB_ok {a T : String} {b : Bool} (e : isiB a T = some b) : kitB a T = some b := by
  unfold isiB at e
  split at e
  · rename_i hm
    obtain ⟨h1, h2⟩ := hm
    have gen : ∀ x ∈ ["NoneType", "bool", "int", "str", "tuple", "list", "dict"], ∀ y ∈ ["bool", "int", "str", "tuple", "list", "dict"], kitB x y = some (x == y || (x == "bool" && y == "int")) := by decide +kernel
    rw [gen a h1 T h2]; exact e
  · cases e
def fIsi (T : String) (x : MV) (h : MH) : Out MV := match tyOfM h x with
  | some a => match isiB a T with
    | some b => .ok (.bl b) h
    | none => .stuck
  | none => .stuck
theorem tyx_tup {S : Sh} {H : Hp} {h : MH} {a : Addr} {us : List V} (R : Rel Γ K S h H) (q : SqT K S.Hs a us) : TyX K H (.ref a) (.type "tuple") := by
  rcases q with (q | ⟨o, q⟩) | ⟨o, its, n, q1, q2, _⟩
  · exact .base (.tup (R.sub _ _ q))
  · exact .fTuple (R.sub _ _ q)
  · exact .kTuple q1 q2
theorem tyOfM_ok {S : Sh} {H : Hp} {h : MH} {x : MV} {v : V} {a : String} (R : Rel Γ K S h H) (e : tyOfM h x = some a) (r : Rep Γ K S x v) : TyX K H v (.type a) := by
  cases x with
  | non => cases e; rw [rep_non r]; exact .base .non
  | bl b => cases e; rw [rep_bl r]; exact .base (.bl b)
  | int i => cases e; rw [rep_int r]; exact .base (.int i)
  | str z => cases e; rw [rep_str r]; exact .base (.str z)
  | tup xs =>
    cases e
    unfold Rep at r
    obtain ⟨a, us, rfl, q1, _⟩ := r
    exact tyx_tup R q1
  | fl xs =>
    cases e
    unfold Rep at r
    obtain ⟨a, us, rfl, q1, _⟩ := r
    exact .base (.lst (R.sub _ _ q1))
  | ref n =>
    unfold Rep at r
    obtain ⟨a, e1, rfl⟩ := r
    unfold tyOfM at e
    simp only at e
    split at e
    · rename_i xs hx
      cases e
      obtain ⟨_, us, q1, _⟩ := R.cell n _ a hx e1
      exact .base (.lst q1)
    · rename_i kvs hx
      cases e
      obtain ⟨_, us, q1, _⟩ := R.cell n _ a hx e1
      exact .base (.dK q1)
    · cases e
  | sl _ => cases e
  | ob _ _ _ => cases e
  | exo _ _ _ _ => cases e
theorem se_isi {e : Expr} {me : ME} {T : String} {p p2 pos : Pos} (ha : SE Γ X W e me) (hm : X.mg "isinstance" = none) (hm2 : X.mg (Str.ofString T) = none) (hg : Gl X "isinstance" := by rfl) (hg2 : Gl X (Str.ofString T) := by rfl) (hv : bootBuiltins "isinstance" = some (.builtin "isinstance") := by decide +kernel) (hv2 : bootBuiltins (Str.ofString T) = some (.type T) := by decide +kernel)
    (hn2 : (Str.ofString T) ≠ "__name__" := by decide) (hd2 : ((Str.ofString T) == ("__debug__" : Str)) = false := by decide)
    (he : starEach [e, .Name (Str.ofString T) p2] X.env = (false, eval e X.env) :: starEach [.Name (Str.ofString T) p2] X.env := by rfl) (he2 : starEach [.Name (Str.ofString T) p2] X.env = (false, eval (.Name (Str.ofString T) p2) X.env) :: starEach [] X.env := by rfl) (hpl : (backTo pos (starEach [.Name (Str.ofString T) p2] X.env)).any (·.1) = false := by rfl) :
    SE Γ X W (.Call (.Name "isinstance" p) [e, .Name (Str.ofString T) p2] [] pos) (m1 (fIsi T) me) := by
  obtain ⟨t, pt, et⟩ := ha.ex
  refine ⟨_, pe_callB call_isi hg hm hv (pa_cons pt (pa_cons (pe_bltn (v := .ty T) hg2 hm2 hv2 rfl hn2 hd2) pa_nil he2) he) (by decide) (by decide) he hpl, fun S H h σ env Q R G q => exE_bind (t := t) et R G q fun x h1 S1 H1 v e1 R1 G1 r1 p1 => ?_⟩
  unfold fIsi at p1
  split at p1
  · rename_i a ha
    split at p1
    · rename_i b hb
      exact ⟨v, .ty T, .type a, .type T, b, rfl, .ty T, tyOfM_ok R1 ha r1, kit_ty (isiB_ok hb), p1.val R1 is_bl⟩
    · exact p1.elim
  · exact p1.elim

open Classical in
noncomputable def mIsE (i : Nat) (v : MV) (tab : List (Str × Bool)) : ME := fun env h => if env[i]? = some (some v) then (match v with
  | .exo _ _ C [] => match tab.lookup C with
    | some b => .ok (.bl b) h
    | none => .stuck
  | _ => .stuck) else .stuck
theorem se_isE {X0 : Cx} {a : Addr} {oe : Obj} {pn : List (Addr × Obj)} {C n D : Str} {xs : List MV} {d : Option Addr} {tab : List (Str × Bool)} {cv : Value} {v2 : V} {p p1 p2 pos : Pos} (i : Nat) (hz : Zc (.ref (Γ.cls C)) d oe) (hf : ∃ vs, oe.data = .fields vs)
    (hi : X0.N[i]? = some n) (hvis : Vis X0.env.scope n) (hdn : (n == ("__debug__" : Str)) = false) (hcn : (n == ("__classdict__" : Str)) = false)
    (hD : PE (X0.suite a ((a, oe) :: pn)) (.Name D p2) (tC v2)) (hcv : ∀ u, RelV v2 u → u = cv)
    (ht : ∀ q ∈ tab, ExcC X0.K (Γ.cls q.1) ∧ PySem.W.kitOne X0.K (.ref (Γ.cls q.1)) cv = some q.2)
    (hm : X0.mg "isinstance" = none) (hg : Gl X0 "isinstance" := by rfl) (hv : bootBuiltins "isinstance" = some (.builtin "isinstance") := by decide +kernel)
    (he : starEach [.Name n p1, .Name D p2] X0.env = (false, eval (.Name n p1) X0.env) :: starEach [.Name D p2] X0.env := by rfl) (he2 : starEach [.Name D p2] X0.env = (false, eval (.Name D p2) X0.env) :: starEach [] X0.env := by rfl) (hpl : (backTo pos (starEach [.Name D p2] X0.env)).any (·.1) = false := by rfl) :
    SE Γ (X0.suite a ((a, oe) :: pn)) W0 (.Call (.Name "isinstance" p) [.Name n p1, .Name D p2] [] pos) (mIsE i (.exo a d C xs) tab) := by
  by_cases hcase : ∃ b, tab.lookup C = some b
  · obtain ⟨b, hb⟩ := hcase
    obtain ⟨hE, hk⟩ := ht _ (PySem.mem_of_lookup hb)
    by_cases hd : d = none
    · subst hd
      refine ⟨_, pe_callB (X := X0.suite a ((a, oe) :: pn)) (call_isE (X := X0) hE hz hf) hg hm hv (pa_cons (pe_var (i := i) hi hvis hdn hcn) (pa_cons hD pa_nil he2) he) (by decide) (by decide) he hpl, fun S H h σ env Q R G q => ?_⟩
      unfold mIsE at q
      split at q
      · rename_i henv
        obtain ⟨v, h1, h2⟩ := G.2 i _ henv
        unfold Rep at h2
        obtain ⟨rfl, _⟩ := h2
        cases xs with
        | nil =>
          simp only [hb] at q
          exact ⟨.ref a, h1, v2, cv, b, rfl, hcv, hk, q.val R is_bl⟩
        | cons x xs => exact q.elim
      · exact q.elim
    · refine ⟨_, (⟨fun _ _ _ _ _ _ z => False.elim z⟩ : PE _ _ (fun _ _ _ => False)), fun S H h σ env Q R G q => ?_⟩
      unfold mIsE at q
      split at q
      · rename_i henv
        obtain ⟨v, h1, h2⟩ := G.2 i _ henv
        unfold Rep at h2
        obtain ⟨rfl, us, h3, h4⟩ := h2
        cases xs with
        | nil =>
          unfold RepL at h4
          subst h4
          rcases h3 with ⟨_, h3⟩ | ⟨dd, u, h3, _⟩
          · exact hd h3
          · cases h3
        | cons x xs => exact q.elim
      · exact q.elim
  · refine ⟨_, (⟨fun _ _ _ _ _ _ z => False.elim z⟩ : PE _ _ (fun _ _ _ => False)), fun S H h σ env Q R G q => ?_⟩
    unfold mIsE at q
    split at q
    · cases xs with
      | nil =>
        have : tab.lookup C = none := by
          cases z : tab.lookup C with
          | none => rfl
          | some b => exact absurd ⟨b, z⟩ hcase
        simp only [this] at q
        exact q.elim
      | cons x xs => exact q.elim
    · exact q.elim

def mTup (a : MA) : ME := fun env h => (a env h).bind fun xs h => if xs.length ≤ sizeLine then .ok (.tup xs) h else .stuck
def mLst (b : Bool) (a : MA) : ME := fun env h => (a env h).bind fun xs h => if xs.length ≤ sizeLine then retL b xs h else .stuck
variable {es : List Expr} {ms : MA} {pos : Pos}
theorem se_tup {x1} (ha : SA Γ X W es ms) : SE Γ X W (.Tuple es x1 pos) (mTup ms) := by
  obtain ⟨t, pt, et⟩ := ha.ex
  refine ⟨_, pe_tup pt, fun S H h σ env Q R G p => exA_bind (t := t) et R G p fun xs h1 S1 H1 us e1 R1 G1 r1 p1 => ?_⟩
  split at p1
  · rename_i hz
    exact ⟨by rw [← repL_len r1]; exact hz, newT R1 r1 p1⟩
  · exact p1.elim
theorem se_lst (b : Bool) (ha : SA Γ X W es ms) : SE Γ X W (.List es pos) (mLst b ms) := by
  obtain ⟨t, pt, et⟩ := ha.ex
  refine ⟨_, pe_lst pt, fun S H h σ env Q R G p => exA_bind (t := t) et R G p fun xs h1 S1 H1 us e1 R1 G1 r1 p1 => ?_⟩
  split at p1
  · rename_i hz
    exact ⟨by rw [← repL_len r1]; exact hz, newL R1 r1 p1⟩
  · exact p1.elim

def LiftM (Γ : Gm) (K : PySem.W.Frag) (r : V → List V → Hp → VK → Prop) (f : MV → List MV → MH → Out MV) : Prop :=
  ∀ S H h x u xs us Q E, Rel Γ K S h H → Rep Γ K S x u → RepL Γ K S xs us → Post Γ K (Rep Γ K) S H Q E (f x xs h) → r u us H Q
def tyChk (T : String) (h : MH) (x : MV) : Bool := (T == "list" && (lstAt h x).isSome) || (T == "str" && (match x with | .str _ => true | _ => false)) || (T == "dict" && (match x with | .ref n => (match h[n]? with | some (.dct _) => true | _ => false) | _ => false))
theorem tyChk_ok {T : String} {S : Sh} {H : Hp} {h : MH} {x : MV} {v : V} (R : Rel Γ K S h H) (e : tyChk T h x = true) (r : Rep Γ K S x v) : tyV K T v H := by
  unfold tyChk at e
  simp only [Bool.or_eq_true, Bool.and_eq_true, beq_iff_eq] at e
  rcases e with (⟨rfl, e⟩ | ⟨rfl, e⟩) | ⟨rfl, e⟩
  · obtain ⟨xs, hx⟩ := Option.isSome_iff_exists.mp e
    obtain ⟨a, us, rfl, q2, q3⟩ := lstAt_ok R hx r
    exact .inl ⟨rfl, us, q2⟩
  · cases x with
    | str z => rw [rep_str r]; exact rfl
    | _ => cases e
  · cases x with
    | ref n =>
      simp only at e
      split at e
      · rename_i kvs hx
        unfold Rep at r
        obtain ⟨a, e1, rfl⟩ := r
        obtain ⟨_, us, q2, q3⟩ := R.cell n _ a hx e1
        exact .inr (.inr (.inl ⟨rfl, .inl ⟨us, q2⟩⟩))
      · cases e
    | _ => cases e
def mM (T : String) (f : MV → List MV → MH → Out MV) (o : ME) (a : MA) : ME := fun env h => (o env h).bind fun x h => if tyChk T h x = true then (a env h).bind fun xs h => f x xs h else .stuck
def mM0 (T : String) (f : MV → List MV → MH → Out MV) (o : ME) : ME := fun env h => (o env h).bind fun x h => if tyChk T h x = true then f x [] h else .stuck
variable {o e : Expr} {mo : ME} {name : Str} {apos cpos : Pos} {T id : String} {r : V → List V → Hp → VK → Prop} {f : MV → List MV → MH → Out MV}
theorem se_m0 (pa : PlainAttrs T) (slot : Slot T name id) (hty : typeOf (.builtin id) = pure (.type "method_descriptor")) (hm : MtR X id r) (hl : LiftM Γ X.K r f) (ho : SE Γ X W o mo)
    (hbase : attributeBase o name X.env (eval o X.env) = eval o X.env := by rfl) (hline : (apos.endLine == cpos.line) = true := by rfl) : SE Γ X W (.Call (.Attribute o name apos) [] [] cpos) (mM0 T f mo) := by
  obtain ⟨t, pt, et⟩ := ho.ex
  refine ⟨_, pe_bm0 pa slot hty hm pt hbase hline, fun S H h σ env Q R G p => exE_bind (t := t) et R G p fun x h1 S1 H1 v e1 R1 G1 r1 p1 => ?_⟩
  split at p1
  · rename_i hc
    exact ⟨tyChk_ok R1 hc r1, hl S1 H1 h1 x v [] [] Q _ R1 r1 repL_nil p1⟩
  · exact p1.elim
theorem se_m (pa : PlainAttrs T) (slot : Slot T name id) (hty : typeOf (.builtin id) = pure (.type "method_descriptor")) (hm : MtR X id r) (hl : LiftM Γ X.K r f) (ho : SE Γ X W o mo) (ha : SA Γ X W (e :: es) ms)
    (hbase : attributeBase o name X.env (eval o X.env) = eval o X.env := by rfl)
    (hfew : ((backTo cpos (starEach (e :: es) X.env)).all (fun x => !x.1) && (backToKw cpos (keywordEach [] X.env)).all (fun x => x.1.isSome)
      && decide ((e :: es).length + ([] : List Keyword).length + (if ([] : List Keyword).isEmpty then 0 else 1) < 30)) = true := by rfl)
    (hline : (apos.endLine == cpos.line) = true := by rfl) (hs : starEach (e :: es) X.env = (false, eval e X.env) :: starEach es X.env := by rfl) (hplain : (backTo cpos (starEach es X.env)).any (·.1) = false := by rfl) : SE Γ X W (.Call (.Attribute o name apos) (e :: es) [] cpos) (mM T f mo ms) := by
  obtain ⟨t, pt, et⟩ := ho.ex
  obtain ⟨ta, pta, eta⟩ := ha.ex
  refine ⟨_, pe_bm pa slot hty hm pt pta hbase hfew hline hs hplain, fun S H h σ env Q R G p => exE_bind (t := t) et R G p fun x h1 S1 H1 v e1 R1 G1 r1 p1 => ?_⟩
  split at p1
  · rename_i hc
    exact ⟨tyChk_ok R1 hc r1, exA_bind (t := ta) eta R1 G1 p1 fun xs h2 S2 H2 us e2 R2 G2 r2 p2 => hl S2 H2 h2 x v xs us Q _ R2 (r1.ext e2) r2 p2⟩
  · exact p1.elim
def fAppend : MV → List MV → MH → Out MV
  | .ref n, [y], h => match h[n]? with
    | some (.lst xs) => if xs.length < sizeLine then .ok .non (h.set n (.lst (xs ++ [y]))) else .stuck
    | _ => .stuck
  | _, _, _ => .stuck
theorem lift_append : LiftM Γ K rAppend fAppend := by
  intro S H h x u xs us Q E R rx rs p
  unfold fAppend at p
  split at p
  · split at p
    · rename_i n y _ xs hx
      split at p
      · rename_i hz
        obtain ⟨v, rfl, q1⟩ := repL_1 rs
        obtain ⟨a, vs, rfl, q2, q3, q4⟩ := storeL (ys := xs ++ [y]) R hx rx
        obtain ⟨R1, e1⟩ := q4 _ (repL_app q3 (repL_cons q1 repL_nil))
        exact ⟨a, vs, v, rfl, rfl, q2, by rw [← repL_len q3]; exact hz, p _ _ .non e1 R1 is_non⟩
      · exact p.elim
    · exact p.elim
  · exact p.elim
def fPop : MV → List MV → MH → Out MV
  | .ref n, [], h => match h[n]? with
    | some (.lst xs) => match xs[xs.length - 1]? with
      | some y => .ok y (h.set n (.lst xs.dropLast))
      | none => .stuck
    | _ => .stuck
  | _, _, _ => .stuck
theorem lift_pop : LiftM Γ K rPop fPop := by
  intro S H h x u xs us Q E R rx rs p
  unfold fPop at p
  split at p
  · split at p
    · rename_i n xs hx
      split at p
      · rename_i y hy
        unfold RepL at rs
        subst rs
        obtain ⟨a, vs, rfl, q2, q3, q4⟩ := storeL (ys := xs.dropLast) R hx rx
        obtain ⟨w, w1, w2⟩ := repL_get q3 hy
        obtain ⟨R1, e1⟩ := q4 _ (repL_dropLast q3)
        exact ⟨a, vs, w, rfl, rfl, q2, by rw [← repL_len q3]; exact w1, p _ _ w e1 R1 (w2.ext e1)⟩
      · exact p.elim
    · exact p.elim
  · exact p.elim
def fReverse : MV → List MV → MH → Out MV
  | .ref n, [], h => match h[n]? with
    | some (.lst xs) => .ok .non (h.set n (.lst xs.reverse))
    | _ => .stuck
  | _, _, _ => .stuck
theorem lift_reverse : LiftM Γ K rReverse fReverse := by
  intro S H h x u xs us Q E R rx rs p
  unfold fReverse at p
  split at p
  · split at p
    · rename_i n xs hx
      unfold RepL at rs
      subst rs
      obtain ⟨a, vs, rfl, q2, q3, q4⟩ := storeL (ys := xs.reverse) R hx rx
      obtain ⟨R1, e1⟩ := q4 _ (repL_rev q3)
      exact ⟨a, vs, rfl, rfl, q2, p _ _ .non e1 R1 is_non⟩
    · exact p.elim
  · exact p.elim
def scalV : MV → Option V
  | .non => some .non
  | .bl b => some (.bl b)
  | .int i => some (.int i)
  | .str x => some (.str x)
  | _ => none
def scalVs : List MV → Option (List V)
  | [] => some []
  | x :: xs => match scalV x, scalVs xs with
    | some v, some vs => some (v :: vs)
    | _, _ => none
theorem scalV_ok {S : Sh} {x : MV} {v w : V} (e : scalV x = some w) (r : Rep Γ K S x v) : v = w := by
  cases x with
  | non => cases e; exact rep_non r
  | bl _ => cases e; exact rep_bl r
  | int _ => cases e; exact rep_int r
  | str _ => cases e; exact rep_str r
  | _ => cases e
theorem scalVs_ok {S : Sh} : ∀ {xs : List MV} {vs ws : List V}, scalVs xs = some ws → RepL Γ K S xs vs → vs = ws
  | [], vs, ws, e, r => by cases e; unfold RepL at r; exact r
  | x :: xs, vs, ws, e, r => by
    unfold RepL at r
    obtain ⟨u, r', rfl, q1, q2⟩ := r
    unfold scalVs at e
    split at e
    · rename_i v vs' h1 h2
      cases e
      rw [scalV_ok h1 q1, scalVs_ok h2 q2]
    · cases e
theorem scalV_flat {x : MV} {w : V} (e : scalV x = some w) : flatV w = true := by
  cases x with
  | non => cases e; rfl
  | bl _ => cases e; rfl
  | int _ => cases e; rfl
  | str _ => cases e; rfl
  | _ => cases e
theorem scalVs_flat : ∀ {xs : List MV} {ws : List V}, scalVs xs = some ws → ws.all flatV = true
  | [], ws, e => by cases e; rfl
  | x :: xs, ws, e => by
    unfold scalVs at e
    split at e
    · rename_i v vs' h1 h2
      cases e
      rw [List.all_cons, scalV_flat h1, scalVs_flat h2]; rfl
    · cases e
def fIn (neg : Bool) (x y : MV) (h : MH) : Out MV := match scalV x, seqAt h y with
  | some v, some xs => match scalVs xs with
    | some vs => .ok (.bl (if neg = true then !inV v vs else inV v vs)) h
    | none => .stuck
  | _, _ => .stuck
theorem lift_in {neg : Bool} : Lift2 Γ K (rIn K neg) (fIn neg) := by
  intro S H h x y u v Q E R rx ry p
  unfold fIn at p
  split at p
  · rename_i w xs h1 h2
    split at p
    · rename_i vs h3
      obtain ⟨a, us, rfl, q2, q3⟩ := seqAt_ok R h2 ry
      have e1 := scalV_ok h1 rx
      have e2 := scalVs_ok h3 q3
      subst e1 e2
      exact ⟨a, us, rfl, q2, scalV_flat h1, scalVs_flat h3, p.val R is_bl⟩
    · exact p.elim
  · exact p.elim
end
end Mn
set_option Elab.async false
set_option linter.all false
set_option maxRecDepth 100000
namespace Mn
open PySem PySem.Spec PyProof.Rows L2

theorem kit_own {K : PySem.W.Frag} {R C : Addr} {b : Bool} (hd : PySem.W.hasDictIn K C = true) (ht : PySem.W.typeIn K (.ref C) = some (.type "type")) (hs : PySem.W.subIn K (.ref R) (.ref C) = some b) (hn : b = true ∨ R ≠ C) : PySem.W.kitOne K (.ref R) (.ref C) = some b := by
  obtain ⟨cd, hc, _⟩ := PySem.W.any_some hd
  unfold PySem.W.kitOne
  split
  · rename_i e
    have e' : R = C := Value.ref.inj (beq_iff_eq.mp e)
    rcases hn with rfl | hn
    · rfl
    · exact absurd e' hn
  · unfold PySem.W.kitCls
    simp only [hc, ht, Option.isSome_some, beq_self_eq_true, Bool.and_self, if_true]
    exact hs
structure CallOk (P : Program) (w : World) (K : PySem.W.Frag) (mg : Str → Option Value) (base : Heap) (Γ : Gm) (k : Nat) (x : Str) (n : Nat) (g : MF) : Prop where
  ex : ∃ (f : Addr) (fd : FuncData) (ps : List Str), FnOk P w K mg base (L2.CX P w) k f fd ps (spM Γ K n g) ∧ mg x = some (.ref f) ∧ PySem.W.keepIn K (.ref f) = true ∧ Binds K fd ps []
structure DefOk (K : PySem.W.Frag) (mg : Str → Option Value) (x : Str) (st : Stmt) (ps : List Str) : Prop where
  ex : ∃ (f : Addr) (fd : FuncData), Fun K x x st f fd ∧ (∀ us : List Value, us.length = ps.length → bindArgs fd ⟨us, []⟩ = pure (ps.zip us)) ∧ mg x = some (.ref f)
structure DefRun (P : Program) (w : World) (K : PySem.W.Frag) (mg : Str → Option Value) (base : Heap) (Γ : Gm) (k : Nat) (x : Str) (ps : List Str) (g : MF) : Prop where
  ex : ∃ (f : Addr) (fd : FuncData), FnOk P w K mg base (L2.CX P w) k f fd ps (spM Γ K ps.length g) ∧ mg x = some (.ref f) ∧ PySem.W.keepIn K (.ref f) = true ∧ (∀ us : List Value, us.length = ps.length → bindArgs fd ⟨us, []⟩ = pure (ps.zip us)) ∧ ∃ oc od sl, K.lookup f = some ⟨oc, od, .func fd, sl⟩
section
variable {P : Program} {w : World} {K : PySem.W.Frag} {mg : Str → Option Value} {base : Heap} {Γ : Gm} {k j n : Nat} {x : Str} {g : MF} {ps : List Str}
theorem CallOk.mono (c : CallOk P w K mg base Γ j x n g) (h : j ≤ k) : CallOk P w K mg base Γ k x n g := by
  obtain ⟨f, fd, ps, h1, h2, h3, h4⟩ := c.ex
  exact ⟨f, fd, ps, h1.mono h, h2, h3, h4⟩
theorem DefRun.call (c : DefRun P w K mg base Γ k x ps g) : CallOk P w K mg base Γ k x ps.length g := by
  obtain ⟨f, fd, h1, h2, h3, h4, _⟩ := c.ex
  exact ⟨f, fd, ps, h1, h2, h3, .all h4⟩
theorem def_mk {st : Stmt} {f : Addr} {oc : Value} {od an : Option Addr} {osl : Array (Option Value)} {kV doc pm cdv ct : Value} (l : K.lookup f = some ⟨oc, od, .func (PySem.W.fnOf x x (defArgs st) (defBody st) (defScope st) .none kV doc pm an cdv ct), osl⟩)
    (c : PySem.W.codeIn K cdv x = true) (kp : PySem.W.keepIn K (.ref f) = true) (g : mg x = some (.ref f))
    (h : ∀ us : List Value, us.length = ps.length → bindArgs (PySem.W.fnOf x x (defArgs st) (defBody st) (defScope st) .none kV doc pm an cdv ct) ⟨us, []⟩ = pure (ps.zip us)) : DefOk K mg x st ps := ⟨f, _, fun_mk l c kp, h, g⟩
theorem def_ok {st : Stmt} {N : List Str} {m : MS} (D : DefOk K mg x st ps) (S : FnScope N ps (defScope st))
    (hb : ∀ (f : Addr) (cdv : Value) (A : Around) (outer : List Env) (s : Shared) (H : Hp) (E : XK), Room k (A.deeper (envOfC x (defScope st) s.heap.objs.size f cdv)) →
      SSs Γ (cxOf (L2.CX P w) P w K mg base N x (defScope st) f cdv A outer s H E) (fun c d _ H => E c d H) (defBody st) m) : DefRun P w K mg base Γ (k + 1) x ps (runF N.length m) := by
  obtain ⟨f, fd, F, b, hm⟩ := D.ex
  obtain ⟨oc, od, kV, doc, pm, an, cdv, ct, osl, e, lk, _⟩ := id F.ex
  exact ⟨f, fd, fn_ok F S (hb f), hm, F.kp, b, oc, od, osl, lk⟩
def spL (K : PySem.W.Frag) (g : MF) : Sp := fun vs H Q E => ∀ Γ, spM Γ K 1 g vs H Q E
theorem law_run {l : PySem.W.OpenLaw} {y : Str} {fa : Addr} (h : Heap) (hfa : mg "law" = some (.ref fa)) (R : ∀ base, DefRun l.prog w K mg base Γ k "law" [y] g) :
    ∃ fd : FuncData, (∀ (s : Shared) (v : Value), BindsTo s fd ⟨[v], []⟩ [(y, v)]) ∧ ∀ base : Heap, K.In base → base.Ns mainGlobals mg → FnOk l.prog w K mg base (L2.CX l.prog w) k fa fd [y] (spL K g) := by
  obtain ⟨f, fd, h1, h2, h3, h4, oc, od, sl, lk⟩ := (R h).ex
  rw [hfa] at h2
  cases h2
  refine ⟨fd, fun s v => .of_eq (h4 [v] rfl), fun base _ _ => ?_⟩
  obtain ⟨f', fd', g1, g2, g3, g4, oc', od', sl', lk'⟩ := (R base).ex
  rw [hfa] at g2
  cases g2
  rw [lk] at lk'
  cases lk'
  exact g1.imp fun _ _ _ _ h => h Γ
theorem law_sp {ns : List Int} {a : Addr} {H : Hp} (hs : SqL K H a (ns.map V.int)) (hr : ∃ h', g [.sl (ns.map MV.int)] [] = .ok (.bl true) h') : spL K g [.ref a] H (fun v _ => v = .bl true) fun _ _ _ => False := by
  obtain ⟨h', e⟩ := hr
  intro Γ
  refine ⟨rfl, ⟨H, []⟩, [], [.sl (ns.map MV.int)], ⟨fun _ _ h => h, rfl, List.nodup_nil, fun _ h => (nomatch h), fun n c a h => (by cases h)⟩, repL_cons (by unfold Rep; exact ⟨a, _, rfl, hs, ints_repL ns⟩) repL_nil, ?_⟩
  rw [e]
  exact fun S' H' b _ _ r => rep_bl r
variable {X : Cx} {W : WX} {e : Expr} {es : List Expr} {ms : MA} {pos p : Pos}
theorem sc_call (c : CallOk X.prog X.w X.K X.mg X.base Γ k x n g) (hr : Room k X.A) (tk : Takes X W) (ha : SA Γ X W (e :: es) ms) (hg : Gl X x := by rfl) (hdb : (x == ("__debug__" : Str)) = false := by decide) (he : starEach (e :: es) X.env = (false, eval e X.env) :: starEach es X.env := by rfl) (hpl : (backTo pos (starEach es X.env)).any (·.1) = false := by rfl) :
    SE Γ X W (.Call (.Name x p) (e :: es) [] pos) (mCall n g ms) := by
  obtain ⟨f, fd, ps, h1, h2, h3, h4⟩ := c.ex
  exact se_call h1 hr h2 h3 h4 tk ha hg hdb he hpl
theorem bt_len : bootBuiltins "len" = some (.builtin "len") := by decide +kernel
theorem bt_int : bootBuiltins "int" = some (.type "int") := by decide +kernel
theorem bt_list : bootBuiltins "list" = some (.type "list") := by decide +kernel
theorem bt_tuple : bootBuiltins "tuple" = some (.type "tuple") := by decide +kernel
theorem bt_max : bootBuiltins "max" = some (.builtin "max") := by decide +kernel
theorem bt_str : bootBuiltins "str" = some (.type "str") := by decide +kernel
theorem sb_len (hm : X.mg "len" = none) (ha : SA Γ X W (e :: es) ms) (hg : Gl X "len" := by rfl) (he : starEach (e :: es) X.env = (false, eval e X.env) :: starEach es X.env := by rfl) (hpl : (backTo pos (starEach es X.env)).any (·.1) = false := by rfl) : SE Γ X W (.Call (.Name "len" p) (e :: es) [] pos) (mF fLen ms) :=
  se_callB call_lenAll lift_len hg hm bt_len ha (by decide) (by decide) he hpl
theorem sb_int (hm : X.mg "int" = none) (ha : SA Γ X W (e :: es) ms) (hg : Gl X "int" := by rfl) (he : starEach (e :: es) X.env = (false, eval e X.env) :: starEach es X.env := by rfl) (hpl : (backTo pos (starEach es X.env)).any (·.1) = false := by rfl) : SE Γ X W (.Call (.Name "int" p) (e :: es) [] pos) (mF fInt ms) :=
  se_callTy call_int1 lift_int hg hm bt_int ha (by decide) (by decide) he hpl
theorem sb_list (b : Bool) (hm : X.mg "list" = none) (ha : SA Γ X W (e :: es) ms) (hg : Gl X "list" := by rfl) (he : starEach (e :: es) X.env = (false, eval e X.env) :: starEach es X.env := by rfl) (hpl : (backTo pos (starEach es X.env)).any (·.1) = false := by rfl) : SE Γ X W (.Call (.Name "list" p) (e :: es) [] pos) (mF (fList b) ms) :=
  se_callTy call_list_of lift_list hg hm bt_list ha (by decide) (by decide) he hpl
theorem sb_tuple (hm : X.mg "tuple" = none) (ha : SA Γ X W (e :: es) ms) (hg : Gl X "tuple" := by rfl) (he : starEach (e :: es) X.env = (false, eval e X.env) :: starEach es X.env := by rfl) (hpl : (backTo pos (starEach es X.env)).any (·.1) = false := by rfl) : SE Γ X W (.Call (.Name "tuple" p) (e :: es) [] pos) (mF fTuple ms) :=
  se_callTy call_tuple_of lift_tuple hg hm bt_tuple ha (by decide) (by decide) he hpl
theorem sb_max2 (hc : X.calm = true) (hm : X.mg "max" = none) (ha : SA Γ X W (e :: es) ms) (hg : Gl X "max" := by rfl) (he : starEach (e :: es) X.env = (false, eval e X.env) :: starEach es X.env := by rfl) (hpl : (backTo pos (starEach es X.env)).any (·.1) = false := by rfl) : SE Γ X W (.Call (.Name "max" p) (e :: es) [] pos) (mF fMax2 ms) :=
  se_callB (call_max2 hc) lift_max2 hg hm bt_max ha (by decide) (by decide) he hpl
variable {o : Expr} {mo : ME} {apos cpos : Pos}
theorem sm_append (ho : SE Γ X W o mo) (ha : SA Γ X W (e :: es) ms) (hbase : attributeBase o "append" X.env (eval o X.env) = eval o X.env := by rfl)
    (hfew : ((backTo cpos (starEach (e :: es) X.env)).all (fun x => !x.1) && (backToKw cpos (keywordEach [] X.env)).all (fun x => x.1.isSome)
      && decide ((e :: es).length + ([] : List Keyword).length + (if ([] : List Keyword).isEmpty then 0 else 1) < 30)) = true := by rfl)
    (hline : (apos.endLine == cpos.line) = true := by rfl) (hs : starEach (e :: es) X.env = (false, eval e X.env) :: starEach es X.env := by rfl) (hplain : (backTo cpos (starEach es X.env)).any (·.1) = false := by rfl) : SE Γ X W (.Call (.Attribute o "append" apos) (e :: es) [] cpos) (mM "list" fAppend mo ms) :=
  se_m PySem.F.plainAttrs_list PySem.F.slot_list_append PySem.F.type_list_append mt_append lift_append ho ha hbase hfew hline hs hplain
theorem sm_pop (ho : SE Γ X W o mo) (hbase : attributeBase o "pop" X.env (eval o X.env) = eval o X.env := by rfl) (hline : (apos.endLine == cpos.line) = true := by rfl) : SE Γ X W (.Call (.Attribute o "pop" apos) [] [] cpos) (mM0 "list" fPop mo) :=
  se_m0 PySem.F.plainAttrs_list PySem.F.slot_list_pop PySem.F.type_list_pop mt_pop lift_pop ho hbase hline
theorem sm_reverse (ho : SE Γ X W o mo) (hbase : attributeBase o "reverse" X.env (eval o X.env) = eval o X.env := by rfl) (hline : (apos.endLine == cpos.line) = true := by rfl) : SE Γ X W (.Call (.Attribute o "reverse" apos) [] [] cpos) (mM0 "list" fReverse mo) :=
  se_m0 PySem.F.plainAttrs_list PySem.F.slot_list_reverse PySem.F.type_list_reverse mt_reverse lift_reverse ho hbase hline
structure ExcOk (X' : Type) (K : PySem.W.Frag) (mg : Str → Option Value) (Γ : Gm) (x : Str) : Prop where
  q : PySem.W.excIn K (Γ.cls x) [.type "ValueError", .type "Exception", .type "BaseException", .type "object"] "ValueError.__new__" = true
  g : mg x = some (.ref (Γ.cls x))
  k : PySem.W.keepIn K (.ref (Γ.cls x)) = true
  sb : PySem.W.subIn K (.ref (Γ.cls x)) (.type "BaseException") = some true
  ty : PySem.W.typeIn K (.ref (Γ.cls x)) = some (.type "type")
end
end Mn
set_option Elab.async false
set_option linter.all false
set_option maxRecDepth 100000
namespace Mn
open PySem PySem.Spec PyProof.Rows L2
section
variable {Γ : Gm} {K : PySem.W.Frag}
end
section
variable {Γ : Gm} {X : Cx} {W : WX} {e : Expr} {es : List Expr} {ms : MA} {pos p : Pos}
end
end Mn
set_option Elab.async false
set_option linter.all false
set_option maxRecDepth 100000
namespace Mn
open PySem PySem.Spec PyProof.Rows L2
section
variable {X : Cx} {CX : CXT} {k : Nat} {f C : Addr} {fd : FuncData} {ps : List Str} {sp : Sp} {E : L2.St → XK} {x : Str} {p pos : Pos} {e : Expr} {es : List Expr} {t : TA}
def tMkS (C : Addr) (sp : Sp) (E : L2.St → XK) (t : TA) : TE := fun σ H Q => t σ H fun vs H1 => ∀ x dx, H1 x = none → H1 dx = none → dx ≠ x → sp (.ref x :: vs) (upd (upd H1 dx (.own x)) x (.ins C dx [])) (fun v H2 => v = .non ∧ Q (.ref x) H2) (E σ)
theorem run_mkS {pins : List (Addr × Obj)} {σ : L2.St} {H : Hp} {s : Shared} {Q : VK} {us : List Value} {vs : List V} (M : Mk X.K C f) (F : FnOk X.prog X.w X.K X.mg X.base CX k f fd ps sp) (hr : Room (k + 1) X.A) (hb : Binds X.K fd ps []) (hx : PassesAt CX X σ (E σ)) (I : Inv X pins σ H s) (r : Vals vs us)
    (h : ∀ x dx, H x = none → H dx = none → dx ≠ x → sp (.ref x :: vs) (upd (upd H dx (.own x)) x (.ins C dx [])) (fun v H2 => v = .non ∧ Q (.ref x) H2) (E σ)) : wpAny (model X.prog X.w) X.A (call (.ref C) us) (EP X pins σ Q) X.xe s := by
  have q0 := h (s.heap.objs.size + 1) s.heap.objs.size (I.hok.fresh (Nat.le_succ _)) (I.hok.fresh (Nat.le_refl _)) (Nat.ne_of_lt (Nat.lt_succ_self _))
  have J := Inv.made (C := C) I
  have rr : Vals (V.ref (s.heap.objs.size + 1) :: vs) (Value.ref (s.heap.objs.size + 1) :: us) := .cons rfl r
  have hl : (Value.ref (s.heap.objs.size + 1) :: us ++ []).length = ps.length := by
    have e := rr.length
    rw [F.len _ _ _ _ q0] at e
    rw [List.append_nil]
    exact e.symm
  have bb := hb _ (Value.ref (s.heap.objs.size + 1) :: us) J.kIn hl
  rw [List.append_nil] at bb
  refine wpAny_call (make_map (f := f) I.kIn M.makes M.init (beq_iff_eq.mp M.fn) (codeAny_mono (F.run _ X.stack _ _ ⟨Value.ref (s.heap.objs.size + 1) :: us, []⟩ (Value.ref (s.heap.objs.size + 1) :: us) _ _ (E σ) (hr.make C us []) (J.env0.make C us []) bb rr q0) fun r s' z => ?_))
  cases r with
  | error e => exact hx pins _ _ e s' J z
  | ok fl =>
    cases fl with
    | ret u =>
      obtain ⟨v, H', J3, rv, ev, q3⟩ := J.after z
      subst ev
      exact ⟨rv, ⟨V.ref (s.heap.objs.size + 1), H', J3, rfl, q3⟩⟩
    | next => exact z.elim
    | brk => exact z.elim
    | cont => exact z.elim
theorem pe_mkS (M : Mk X.K C f) (F : FnOk X.prog X.w X.K X.mg X.base CX k f fd ps sp) (hr : Room (k + 1) X.A) (hg : Gl X x) (hm : X.mg x = some (.ref C)) (hb : Binds X.K fd ps []) (hx : ∀ σ, PassesAt CX X σ (E σ)) (ha : PA X (e :: es) t) (hdb : (x == ("__debug__" : Str)) = false := by decide)
    (he : starEach (e :: es) X.env = (false, eval e X.env) :: starEach es X.env := by rfl) (hpl : (backTo pos (starEach es X.env)).any (·.1) = false := by rfl) : PE X (.Call (.Name x p) (e :: es) [] pos) (tMkS C sp E t) := by
  refine ⟨fun pins s σ H Q I h => ?_⟩
  refine wpAny_Call_Name_kw (ld_glob I hg hm ?_ hdb)
  exact PySem.W.callWith_K (h₀ := X.base) I.ok.mod.kin M.kp (thn (ha.run pos pins s σ H _ I h) fun us s1 ⟨vs, H1, I1, r, q⟩ => ⟨I1.kIn, run_mkS M F hr hb (hx σ) I1 r q⟩) he hpl
end

structure ClsOk (Γ : Gm) (K : PySem.W.Frag) (C : Str) (fs : List Str) : Prop where
  cl : Cls K (Γ.cls C)
  na : ∀ f ∈ fs, NoAttr K (Γ.cls C) f
abbrev CTab := List (Str × List Str)
def TabOk (Γ : Gm) (K : PySem.W.Frag) (tab : CTab) : Prop := ∀ q ∈ tab, ClsOk Γ K q.1 q.2
def okF (tab : CTab) (C f : Str) : Bool := match tab.lookup C with
  | some fs => decide (f ∈ fs)
  | none => false
theorem TabOk.at {Γ : Gm} {K : PySem.W.Frag} {tab : CTab} {C f : Str} (T : TabOk Γ K tab) (h : okF tab C f = true) : Cls K (Γ.cls C) ∧ NoAttr K (Γ.cls C) f := by
  unfold okF at h
  split at h
  · rename_i fs e
    have q := T _ (PySem.mem_of_lookup e)
    exact ⟨q.cl, q.na f (of_decide_eq_true h)⟩
  · cases h
def fldOf : List Str → List MV → Str → Option MV
  | k :: ks, x :: xs, f => if f == k then some x else fldOf ks xs f
  | _, _, _ => none
def putKs (f : Str) : List Str → List Str
  | [] => [f]
  | k :: ks => if k = f then k :: ks else k :: putKs f ks
def putXs (f : Str) (y : MV) : List Str → List MV → List MV
  | k :: ks, x :: xs => if k = f then y :: xs else x :: putXs f y ks xs
  | _, xs => xs ++ [y]
def insAt (h : MH) : MV → Option (Str × List Str × List MV)
  | .ob C ks xs => some (C, ks, xs)
  | .ref n => match h[n]? with
    | some (.ins C ks xs) => some (C, ks, xs)
    | _ => none
  | _ => none
def fFld (tab : CTab) (f : Str) (x : MV) (h : MH) : Out MV := match insAt h x with
  | some (C, ks, xs) => if okF tab C f = true then (match fldOf ks xs f with
    | some d => .ok d h
    | none => .stuck) else .stuck
  | none => .stuck
def sFldM (tab : CTab) (f : Str) (mo mv : ME) : MS := fun env h => (mv env h).andS env fun y h => (mo env h).andS env fun x h => match x with
  | .ref n => match h[n]? with
    | some (.ins C ks xs) => if okF tab C f = true ∧ ks.length < 1000 then .ok .nx env (h.set n (.ins C (putKs f ks) (putXs f y ks xs))) else .stuck
    | _ => .stuck
  | _ => .stuck
def mMake (C : Str) (frz : Bool) (n : Nat) (g : MF) (a : MA) : ME := fun env h => (a env h).bind fun ds h => if ds.length + 1 = n then (match g (.ref h.length :: ds) (h ++ [.ins C [] []]) with
  | .ok .non h' => if frz = true then (match h'[h.length]? with
      | some (.ins C' ks xs) => .ok (.ob C' ks xs) (h'.set h.length .dead)
      | _ => .stuck) else .ok (.ref h.length) h'
  | .exc D xs h' => .exc D xs h'
  | _ => .stuck) else .stuck
section
variable {Γ : Gm} {K : PySem.W.Frag} {S : Sh} {H : Hp} {h : MH}
theorem fld_zip : ∀ {ks : List Str} {xs : List MV} {us : List V} {f : Str} {d : MV}, RepL Γ K S xs us → us.length = ks.length → fldOf ks xs f = some d → ∃ v, (ks.zip us).lookup f = some v ∧ Rep Γ K S d v
  | [], _, _, _, _, _, _, e => by unfold fldOf at e; cases e
  | _ :: _, [], _, _, _, _, _, e => by unfold fldOf at e; cases e
  | k :: ks, x :: xs, us, f, d, r, hl, e => by
    unfold RepL at r
    obtain ⟨u, us, rfl, r1, r2⟩ := r
    unfold fldOf at e
    show ∃ v, List.lookup f ((k, u) :: ks.zip us) = some v ∧ _
    unfold List.lookup
    split at e
    · rename_i c
      cases e
      rw [c]
      exact ⟨u, rfl, r1⟩
    · rename_i c
      have c : (f == k) = false := by simpa using c
      rw [c]
      exact fld_zip r2 (by simpa using hl) e
theorem put_zip : ∀ {ks : List Str} {xs : List MV} {us : List V} {f : Str} {y : MV} {v : V}, RepL Γ K S xs us → us.length = ks.length → Rep Γ K S y v → ∃ us', putF f v (ks.zip us) = (putKs f ks).zip us' ∧ us'.length = (putKs f ks).length ∧ RepL Γ K S (putXs f y ks xs) us'
  | [], xs, us, f, y, v, r, hl, ry => by
    have : us = [] := List.length_eq_zero_iff.mp hl
    subst this
    have hx : xs = [] := by
      cases xs with
      | nil => rfl
      | cons x xs => unfold RepL at r; obtain ⟨_, _, e, _⟩ := r; cases e
    subst hx
    exact ⟨[v], rfl, rfl, repL_cons ry repL_nil⟩
  | k :: ks, xs, us, f, y, v, r, hl, ry => by
    cases xs with
    | nil => unfold RepL at r; subst r; cases hl
    | cons x xs =>
      unfold RepL at r
      obtain ⟨u, us, rfl, r1, r2⟩ := r
      show ∃ us', putF f v ((k, u) :: ks.zip us) = _ ∧ _
      unfold putF putKs putXs
      by_cases c : k = f
      · rw [if_pos c, if_pos c, if_pos c]
        exact ⟨v :: us, rfl, by simpa using hl, repL_cons ry r2⟩
      · rw [if_neg c, if_neg c, if_neg c]
        obtain ⟨us', e1, e2, e3⟩ := put_zip (f := f) r2 (by simpa using hl) ry
        exact ⟨u :: us', by rw [e1]; rfl, by simpa using e2, repL_cons r1 e3⟩
theorem ins_rep {x : MV} {v : V} {C : Str} {ks : List Str} {xs : List MV} (R : Rel Γ K S h H) (r : Rep Γ K S x v) (e : insAt h x = some (C, ks, xs)) : ∃ a dx us, v = .ref a ∧ H a = some (.ins (Γ.cls C) dx (ks.zip us)) ∧ us.length = ks.length ∧ RepL Γ K S xs us := by
  unfold insAt at e
  split at e
  · cases e
    unfold Rep at r
    obtain ⟨a, dx, us, q1, q2, q3, q4⟩ := r
    exact ⟨a, dx, us, q1, R.sub _ _ q2, q3, q4⟩
  · split at e
    · rename_i hn
      cases e
      unfold Rep at r
      obtain ⟨a, q1, q2⟩ := r
      obtain ⟨_, dx, us, q3, q4, q5⟩ := R.cell _ _ a hn q1
      exact ⟨a, dx, us, q2, q3, q4, q5⟩
    · cases e
  · cases e
variable {X : Cx} {W : WX} {e o value : Expr} {es : List Expr} {ms : MA} {me mo mv : ME} {pos p pos' : Pos} {tab : CTab} {f : Str}
theorem se_fld (T : TabOk Γ X.K tab) (he : SE Γ X W e me) (hb : attributeBase e f X.env (eval e X.env) = eval e X.env := by rfl) : SE Γ X W (.Attribute e f pos) (m1 (fFld tab f) me) := by
  obtain ⟨t, pt, et⟩ := he.ex
  refine ⟨_, pe_fld pt hb, fun S H h σ env Q R G q => exE_bind (t := t) et R G q fun x h1 S1 H1 v e1 R1 G1 r1 p1 => ?_⟩
  unfold fFld at p1
  split at p1
  · rename_i C ks xs ei
    split at p1
    · rename_i ok
      obtain ⟨hc, hn⟩ := T.at ok
      obtain ⟨a, dx, us, rfl, q2, q3, q4⟩ := ins_rep R1 r1 ei
      split at p1
      · rename_i d ed
        obtain ⟨w, l, rw_⟩ := fld_zip q4 q3 ed
        exact ⟨a, _, dx, _, w, rfl, q2, hc, hn, l, p1 _ _ _ (Ext.refl _ _) R1 rw_⟩
      · exact p1.elim
    · exact p1.elim
  · exact p1.elim
theorem ss_fld (T : TabOk Γ X.K tab) (ho : SE Γ X W o mo) (hv : SE Γ X W value mv) (hs : swapsWith value (some (.Attribute o f pos')) pos.line X.env = pure false := by rfl) : SS Γ X W (.Assign [.Attribute o f pos'] value pos) (sFldM tab f mo mv) := by
  obtain ⟨to, po, eo⟩ := ho.ex
  obtain ⟨tv, pv, ev⟩ := hv.ex
  refine ⟨_, ps_fld po pv hs, fun S H h σ env D R G q => exES (t := tv) ev R G q fun y h1 S1 H1 w e1 R1 G1 r1 p1 => exES (t := to) eo R1 G1 p1 fun x h2 S2 H2 v e2 R2 G2 r2 p2 => ?_⟩
  split at p2
  · rename_i n
    split at p2
    · rename_i C ks xs hn
      split at p2
      · rename_i ok
        obtain ⟨hc, hna⟩ := T.at ok.1
        unfold Rep at r2
        obtain ⟨a, q1, rfl⟩ := r2
        obtain ⟨z, dx, us, q3, q4, q5⟩ := R2.cell _ _ a hn q1
        obtain ⟨us', f1, f2, f3⟩ := put_zip (f := f) q5 q4 (r1.ext e2)
        refine ⟨a, _, dx, _, rfl, q3, hc, hna, by rw [List.length_zip, q4, Nat.min_self]; exact ok.2, ?_⟩
        rw [f1]
        obtain ⟨R3, e3⟩ := R2.store (o := .ins (Γ.cls C) dx ((putKs f ks).zip us')) (c := .ins C (putKs f ks) (putXs f y ks xs)) q1 z ⟨z, dx, us', upd_same, f2, f3⟩
        exact p2 _ _ _ e3 R3 (G2.mono e3)
      · exact p2.elim
    · exact p2.elim
  · exact p2.elim
structure MakeOk (P : Program) (w : World) (K : PySem.W.Frag) (mg : Str → Option Value) (base : Heap) (Γ : Gm) (k : Nat) (C : Str) (n : Nat) (g : MF) : Prop where
  ex : ∃ (f : Addr) (fd : FuncData) (ps : List Str), Mk K (Γ.cls C) f ∧ FnOk P w K mg base (L2.CX P w) k f fd ps (spM Γ K n g) ∧ mg C = some (.ref (Γ.cls C)) ∧ Binds K fd ps []
theorem MakeOk.mono {P : Program} {w : World} {mg : Str → Option Value} {base : Heap} {j k n : Nat} {C : Str} {g : MF} (c : MakeOk P w K mg base Γ j C n g) (h : j ≤ k) : MakeOk P w K mg base Γ k C n g := by
  obtain ⟨f, fd, ps, h1, h2, h3, h4⟩ := c.ex
  exact ⟨f, fd, ps, h1, h2.mono h, h3, h4⟩
end

def mChain (f g : MV → MV → MH → Out MV) (a b c : ME) : ME := fun env h => (a env h).bind fun x h => (b env h).bind fun y h => (f x y h).bind fun z h => match z with
  | .bl true => (c env h).bind fun w h => g y w h
  | .bl false => .ok (.bl false) h
  | _ => .stuck
section
variable {Γ : Gm} {X : Cx} {W : WX} {a b c : Expr} {ma mb mc : ME} {pos : Pos} {op op' : CmpOp} {r r' : R2} {f g : MV → MV → MH → Out MV}
theorem ex_chain {ta tb tc : TE} (hl : Lift2 Γ X.K r f) (hl' : Lift2 Γ X.K r' g) (ea : ExE Γ X.K W ta ma) (eb : ExE Γ X.K W tb mb) (ec : ExE Γ X.K W tc mc) : ExE Γ X.K W (tChain r r' ta tb tc) (mChain f g ma mb mc) :=
  fun S H h σ env Q R G p => exE_bind (t := ta) ea R G p fun x h1 S1 H1 u e1 R1 G1 r1 p1 => exE_bind (t := tb) eb R1 G1 p1 fun y h2 S2 H2 v e2 R2 G2 r2 p2 => hl S2 H2 h2 x y u v _ _ R2 (r1.ext e2) r2 (Post.bind p2 fun z h3 S3 H3 zz _ e3 R3 r3 p3 => by
    split at p3
    · exact ⟨true, rep_bl r3, by rw [if_pos rfl]; exact exE_bind (t := tc) ec R3 (G2.mono e3) p3 fun w h4 S4 H4 ww e4 R4 G4 r4 p4 => hl' S4 H4 h4 y w v ww Q _ R4 ((r2.ext e3).ext e4) r4 p4⟩
    · exact ⟨false, rep_bl r3, by rw [if_neg Bool.false_ne_true]; exact p3 _ _ _ (Ext.refl _ _) R3 is_bl⟩
    · exact p3.elim)
theorem se_chain (ho : OpR X (compareOp op) r) (hl : Lift2 Γ X.K r f) (ho' : OpR X (compareOp op') r') (hl' : Lift2 Γ X.K r' g) (ha : SE Γ X W a ma) (hb : SE Γ X W b mb) (hc : SE Γ X W c mc) (hm : lastMarks [op, op'] [b, c] = false := by with_unfolding_all rfl) : SE Γ X W (.Compare a [op, op'] [b, c] pos) (mChain f g ma mb mc) := by
  obtain ⟨ta, pa, ea⟩ := ha.ex
  obtain ⟨tb, pb, eb⟩ := hb.ex
  obtain ⟨tc, pc, ec⟩ := hc.ex
  exact ⟨_, pe_chain ho ho' pa pb pc hm, ex_chain hl hl' ea eb ec⟩
abbrev envS (sc : Scope) : Env := ⟨sc, 0, 0, [], Str.empty, none, .none, none, 0⟩
theorem blkOk_in {so sc scope : Scope} {own : List (Str × Nat)} {s : Shared} {H : Hp} {C : Addr} {cl : List (Str × Addr)} {fp : List Addr} (hs : X.env.scope = sc) (b : BlkOk X.N (relabel so (envS sc)) scope own) : BlkOk (X.blk s H so (compEnvC so cl C X.env) fp).N (X.blk s H so (compEnvC so cl C X.env) fp).env.scope scope own := by
  subst hs
  exact b
end
structure MkDef (K : PySem.W.Frag) (mg : Str → Option Value) (Γ : Gm) (C qual : Str) (st : Stmt) (ps : List Str) : Prop where
  ex : ∃ (f : Addr) (fd : FuncData), Fun K "__init__" qual st f fd ∧ (∀ us : List Value, us.length = ps.length → bindArgs fd ⟨us, []⟩ = pure (ps.zip us)) ∧ Mk K (Γ.cls C) f ∧ mg C = some (.ref (Γ.cls C))
section
variable {P : Program} {w : World} {K : PySem.W.Frag} {mg : Str → Option Value} {base : Heap} {Γ : Gm} {k : Nat} {C qual : Str} {ps : List Str}
theorem mkd_mk {st : Stmt} {f : Addr} {oc : Value} {od an : Option Addr} {osl : Array (Option Value)} {kV doc pm cdv ct : Value} (l : K.lookup f = some ⟨oc, od, .func (PySem.W.fnOf "__init__" qual (defArgs st) (defBody st) (defScope st) .none kV doc pm an cdv ct), osl⟩)
    (c : PySem.W.codeIn K cdv qual = true) (kp : PySem.W.keepIn K (.ref f) = true) (M : Mk K (Γ.cls C) f) (g : mg C = some (.ref (Γ.cls C)))
    (h : ∀ us : List Value, us.length = ps.length → bindArgs (PySem.W.fnOf "__init__" qual (defArgs st) (defBody st) (defScope st) .none kV doc pm an cdv ct) ⟨us, []⟩ = pure (ps.zip us)) : MkDef K mg Γ C qual st ps := ⟨f, _, fun_mk l c kp, h, M, g⟩
theorem al_nil {p : Str → Prop} : ∀ f ∈ ([] : List Str), p f := fun f h => nomatch h
theorem al_cons {p : Str → Prop} {a : Str} {l : List Str} (h : p a) (r : ∀ f ∈ l, p f) : ∀ f ∈ a :: l, p f := fun f hf => by
  rcases List.mem_cons.mp hf with rfl | hf
  · exact h
  · exact r f hf
theorem tab_nil : TabOk Γ K [] := fun f h => nomatch h
theorem tab_cons {C : Str} {fs : List Str} {l : CTab} (h : ClsOk Γ K C fs) (r : TabOk Γ K l) : TabOk Γ K ((C, fs) :: l) := fun f hf => by
  rcases List.mem_cons.mp hf with rfl | hf
  · exact h
  · exact r f hf
end
end Mn
set_option Elab.async false
set_option linter.all false
set_option maxRecDepth 100000
namespace Mn
open PySem PySem.Spec PyProof.Rows L2
section
variable {Γ : Gm} {K : PySem.W.Frag} {S : Sh} {H : Hp} {h : MH}
variable {X : Cx} {W : WX} {o i value : Expr} {mo mi mv : ME} {pos pos' : Pos}
end
end Mn
set_option Elab.async false
set_option linter.all false
set_option maxRecDepth 100000
namespace Mn
open PySem PySem.Spec PyProof.Rows L2
section
variable {X : Cx} {CX : CXT} {k : Nat} {f C g : Addr} {fd : FuncData} {ps : List Str} {sp : Sp} {E : L2.St → XK} {p pos : Pos} {fe e : Expr} {es : List Expr} {t : TA} {tf : TE}
end
structure CoOk (P : Program) (w : World) (K : PySem.W.Frag) (mg : Str → Option Value) (base : Heap) (Γ : Gm) (k : Nat) (C : Str) (n : Nat) (g : MF) : Prop where
  ex : ∃ (f : Addr) (fd : FuncData) (ps : List Str), StX.CallO K (Γ.cls C) f ∧ FnOk P w K mg base (L2.CX P w) k f fd ps (spM Γ K n g) ∧ Binds K fd ps []
section
variable {P : Program} {w : World} {K : PySem.W.Frag} {mg : Str → Option Value} {base : Heap} {Γ : Gm} {j k n : Nat} {C qual : Str} {ps : List Str} {g : MF}
theorem CoOk.mono (c : CoOk P w K mg base Γ j C n g) (h : j ≤ k) : CoOk P w K mg base Γ k C n g := by
  obtain ⟨f, fd, ps, h1, h2, h3⟩ := c.ex
  exact ⟨f, fd, ps, h1, h2.mono h, h3⟩
variable {X : Cx} {W : WX} {fe e : Expr} {es : List Expr} {mo : ME} {ms : MA} {pos : Pos}
end
end Mn
set_option Elab.async false
set_option linter.all false
set_option maxRecDepth 100000
namespace Mn
open PySem PySem.Spec PyProof.Rows L2
end Mn
set_option Elab.async false
set_option linter.all false
set_option maxRecDepth 100000
namespace Mn
open PySem PySem.Spec PyProof.Rows L2
section
variable {Γ : Gm} {X : Cx} {W : WX} {o i e : Expr} {mo mi me : ME} {pos tpos : Pos} {op : Operator} {tip : TIp} {f : MV → MV → MH → Out MV}
end
end Mn
set_option Elab.async false
set_option linter.all false
set_option maxRecDepth 100000
namespace Mn
open PySem PySem.Spec PyProof.Rows L2
section
variable {X : Cx} {CX : CXT} {k : Nat} {f C : Addr} {fd : FuncData} {ps : List Str} {sp : Sp} {E : L2.St → XK} {x m : Str} {p pos apos : Pos} {o e : Expr} {es : List Expr} {t : TA} {ta : TE}
end
structure MeOk (P : Program) (w : World) (K : PySem.W.Frag) (mg : Str → Option Value) (base : Heap) (Γ : Gm) (k : Nat) (C nm : Str) (n : Nat) (g : MF) : Prop where
  ex : ∃ (f : Addr) (fd : FuncData) (ps : List Str), Meth K (Γ.cls C) nm f ∧ Cls K (Γ.cls C) ∧ FnOk P w K mg base (L2.CX P w) k f fd ps (spM Γ K n g) ∧ Binds K fd ps []
section
variable {P : Program} {w : World} {K : PySem.W.Frag} {mg : Str → Option Value} {base : Heap} {Γ : Gm} {j k n : Nat} {C nm qual : Str} {ps : List Str} {g : MF}
theorem MeOk.mono (c : MeOk P w K mg base Γ j C nm n g) (h : j ≤ k) : MeOk P w K mg base Γ k C nm n g := by
  obtain ⟨f, fd, ps, h1, h2, h3, h4⟩ := c.ex
  exact ⟨f, fd, ps, h1, h2, h3.mono h, h4⟩
variable {X : Cx} {W : WX} {o e : Expr} {es : List Expr} {mo : ME} {ms : MA} {pos apos p : Pos}
end
end Mn
set_option Elab.async false
set_option linter.all false
set_option maxRecDepth 100000
namespace Mn
open PySem PySem.Spec PyProof.Rows L2
def frzL (f : MV → MH → Option (MV × MH)) : List MV → MH → Option (List MV × MH)
  | [], h => some ([], h)
  | x :: xs, h => match f x h with
    | some (y, h1) => match frzL f xs h1 with
      | some (ys, h2) => some (y :: ys, h2)
      | none => none
    | none => none
def frzV : Nat → MV → MH → Option (MV × MH)
  | 0, _, _ => none
  | k + 1, .ref n, h => match h[n]? with
    | some (.lst xs) => match frzL (frzV k) xs h with
      | some (ys, h1) => match h1[n]? with
        | some (.lst _) => some (.fl ys, h1.set n .dead)
        | _ => none
      | none => none
    | _ => none
  | k + 1, .tup xs, h => match frzL (frzV k) xs h with
    | some (ys, h1) => some (.tup ys, h1)
    | none => none
  | _ + 1, v, h => some (v, h)
section
variable {Γ : Gm} {K : PySem.W.Frag}
def FrzOk (Γ : Gm) (K : PySem.W.Frag) (f : MV → MH → Option (MV × MH)) : Prop := ∀ v h v' h' S H u, Rel Γ K S h H → Rep Γ K S v u → f v h = some (v', h') → ∃ S', Rel Γ K S' h' H ∧ Ext S H S' H ∧ S'.ι = S.ι ∧ Rep Γ K S' v' u
theorem frzL_ok {f : MV → MH → Option (MV × MH)} (k : FrzOk Γ K f) : ∀ xs h ys h' S H us, Rel Γ K S h H → RepL Γ K S xs us → frzL f xs h = some (ys, h') → ∃ S', Rel Γ K S' h' H ∧ Ext S H S' H ∧ S'.ι = S.ι ∧ RepL Γ K S' ys us
  | [], h, ys, h', S, H, us, R, r, e => by
    unfold frzL at e
    cases e
    exact ⟨S, R, Ext.refl _ _, rfl, r⟩
  | x :: xs, h, ys, h', S, H, us, R, r, e => by
    unfold frzL at e
    unfold RepL at r
    obtain ⟨u, us', rfl, r1, r2⟩ := r
    cases e1 : f x h with
    | none => rw [e1] at e; cases e
    | some q =>
      obtain ⟨y, h1⟩ := q
      rw [e1] at e
      simp only at e
      obtain ⟨S1, R1, x1, i1, q1⟩ := k x h y h1 S H u R r1 e1
      cases e2 : frzL f xs h1 with
      | none => rw [e2] at e; cases e
      | some q =>
        obtain ⟨zs, h2⟩ := q
        rw [e2] at e
        cases e
        obtain ⟨S2, R2, x2, i2, q2⟩ := frzL_ok k xs h1 zs _ S1 H us' R1 (r2.ext x1) e2
        exact ⟨S2, R2, x1.trans x2, by rw [i2, i1], by unfold RepL; exact ⟨u, us', rfl, q1.ext x2, q2⟩⟩
theorem frzV_ok : ∀ k, FrzOk Γ K (frzV k)
  | 0 => fun v h v' h' S H u R r e => by unfold frzV at e; cases e
  | k + 1 => fun v h v' h' S H u R r e => by
    have ih := frzL_ok (frzV_ok k)
    cases v with
    | ref n =>
      unfold frzV at e
      cases e1 : h[n]? with
      | none => rw [e1] at e; cases e
      | some c =>
        rw [e1] at e
        cases c with
        | lst xs =>
          simp only at e
          cases e2 : frzL (frzV k) xs h with
          | none => rw [e2] at e; cases e
          | some q =>
            obtain ⟨ys, h1⟩ := q
            rw [e2] at e
            simp only at e
            have r' := r
            unfold Rep at r'
            obtain ⟨a, ha, rfl⟩ := r'
            obtain ⟨_, us, hH, rl⟩ := R.cell n _ a e1 ha
            obtain ⟨S1, R1, x1, i1, q1⟩ := ih xs h ys h1 S H us R rl e2
            cases e3 : h1[n]? with
            | none => rw [e3] at e; cases e
            | some c =>
              rw [e3] at e
              cases c with
              | lst zs =>
                simp only at e
                cases e
                have ha1 : S1.ι[n]? = some a := by rw [i1]; exact ha
                obtain ⟨hs1, _⟩ := R1.cell n _ a e3 ha1
                obtain ⟨R2, x2⟩ := R1.freeze ha1 hs1 hH
                refine ⟨_, R2, x1.trans x2, i1, ?_⟩
                unfold Rep
                exact ⟨a, us, rfl, upd_same, q1.ext x2⟩
              | dct _ => cases e
              | dcn _ => cases e
              | ins _ _ _ => cases e
              | dead => cases e
        | dct _ => cases e
        | dcn _ => cases e
        | ins _ _ _ => cases e
        | dead => cases e
    | tup xs =>
      unfold frzV at e
      cases e2 : frzL (frzV k) xs h with
      | none => rw [e2] at e; cases e
      | some q =>
        obtain ⟨ys, h1⟩ := q
        rw [e2] at e
        cases e
        unfold Rep at r
        obtain ⟨a, us, rfl, sq, rl⟩ := r
        obtain ⟨S1, R1, x1, i1, q1⟩ := ih xs h ys _ S H us R rl e2
        refine ⟨S1, R1, x1, i1, ?_⟩
        unfold Rep
        exact ⟨a, us, rfl, sqT_mono x1.hs sq, q1⟩
    | non => cases e; exact ⟨S, R, Ext.refl _ _, rfl, r⟩
    | bl _ => cases e; exact ⟨S, R, Ext.refl _ _, rfl, r⟩
    | int _ => cases e; exact ⟨S, R, Ext.refl _ _, rfl, r⟩
    | str _ => cases e; exact ⟨S, R, Ext.refl _ _, rfl, r⟩
    | fl _ => cases e; exact ⟨S, R, Ext.refl _ _, rfl, r⟩
    | sl _ => cases e; exact ⟨S, R, Ext.refl _ _, rfl, r⟩
    | ob _ _ _ => cases e; exact ⟨S, R, Ext.refl _ _, rfl, r⟩
    | exo _ _ _ _ => cases e; exact ⟨S, R, Ext.refl _ _, rfl, r⟩
end
def sFrz (i : Nat) (m : MS) : MS := fun env h => match env[i]? with
  | some (some v) => match frzV 8 v h with
    | some (v', h') => m (env.set i (some v')) h'
    | none => .stuck
  | _ => .stuck
section
variable {Γ : Gm} {X : Cx} {W : WX} {st : Stmt} {m : MS} {e : Expr} {me : ME}
theorem REnv.frz {K : PySem.W.Frag} {S : Sh} {env : MEnv} {σ : L2.St} {i : Nat} {v : MV} {u : V} (G : REnv Γ K S env σ) (hi : σ[i]? = some (some u)) (r : Rep Γ K S v u) : REnv Γ K S (env.set i (some v)) σ :=
  ⟨by rw [List.length_set]; exact G.1, fun j d hj => by
    by_cases hij : i = j
    · subst hij
      have hl := (List.getElem?_eq_some_iff.mp hj).1
      rw [List.length_set] at hl
      rw [List.getElem?_set_self hl] at hj
      cases hj
      exact ⟨u, hi, r⟩
    · rw [List.getElem?_set_ne hij] at hj
      exact G.2 j d hj⟩
theorem ss_frz (i : Nat) (k : SS Γ X W st m) : SS Γ X W st (sFrz i m) := by
  obtain ⟨t, p, ex⟩ := k.ex
  refine ⟨t, p, fun S H h σ env D R G q => ?_⟩
  unfold sFrz at q
  split at q
  · rename_i v hv
    split at q
    · rename_i v' h' hf
      obtain ⟨u, hu, r⟩ := G.2 i v hv
      obtain ⟨S1, R1, x1, _, r1⟩ := frzV_ok 8 v h v' h' S H u R r hf
      exact ex S1 H h' σ _ D R1 (REnv.frz (G.mono x1) hu r1) (PostS.ext q x1)
    · exact q.elim
  · exact q.elim
end
end Mn
set_option Elab.async false
set_option linter.all false
set_option maxRecDepth 100000
namespace Mn
open PySem PySem.Spec PyProof.Rows L2
section
variable {Γ : Gm} {X : Cx} {W : WX} {o e : Expr} {es : List Expr} {mo me : ME} {ms : MA} {pos apos cpos p2 : Pos}
end
end Mn
set_option Elab.async false
set_option linter.all false
set_option maxRecDepth 100000
namespace Mn
open PySem PySem.Spec PyProof.Rows L2
section
variable {Γ : Gm} {X : Cx} {W : WX} {e : Expr} {ms : MA} {pos p p2 pos2 : Pos}
end
end Mn
set_option Elab.async false
set_option linter.all false
set_option maxRecDepth 100000
namespace Mn
open PySem PySem.Spec PyProof.Rows L2
section
variable {P : Program} {w : World} {A : Around} {E : Value → Shared → Prop}
end
def rSetL (K : PySem.W.Frag) (w : World) : List V → Hp → VK → Prop := fun xs H Q => ∃ (a : Addr) (ns : List Int), xs = [V.ref a] ∧ SqL K H a (ns.map V.int) ∧ ns.length ≤ 1000 ∧
  ∀ (q : Addr) (c : Nat), c ≤ ns.length → H q = none → Q (.ref q) (upd H q (SetO w q (fun j => decide (j ∈ ns)) c))
section
variable {Γ : Gm} {X : Cx} {W : WX} {e : Expr} {ms : MA} {pos p p2 pos2 : Pos}
end
end Mn
set_option Elab.async false
set_option linter.all false
set_option maxRecDepth 100000
namespace Mn
open PySem PySem.Spec PyProof.Rows L2
section
variable {Γ : Gm} {X : Cx} {W : WX} {e : Expr} {es : List Expr} {ms : MA} {pos p : Pos}
end
end Mn
set_option Elab.async false
set_option linter.all false
set_option maxRecDepth 100000
namespace Mn
open PySem PySem.Spec PyProof.Rows L2
section
variable {Γ : Gm} {X : Cx} {W : WX} {o e : Expr} {es : List Expr} {mo : ME} {ms : MA} {apos cpos : Pos}
end
end Mn
set_option Elab.async false
set_option linter.all false
set_option maxRecDepth 100000
namespace Mn
open PySem PySem.Spec PyProof.Rows L2
section
variable (K : PySem.W.Frag) (H : Hp)
end
section
variable {X : Cx} {pins : List (Addr × Obj)} {σ : L2.St} {H : Hp} {s : Shared}
end
def valN (xs : List NE) (k : NestedKey) : Option V := (xs.find? fun x => decide (x.1 = k)).map (·.2.2)
def putN (xs : List NE) (k : NestedKey) (b : Addr) (v : V) : List NE := if (valN xs k).isSome = true then xs.map (fun x => if x.1 = k then (x.1, x.2.1, v) else x) else xs ++ [(k, b, v)]
theorem valN_pos {x : NE} {r : List NE} {k : NestedKey} (e : x.1 = k) : valN (x :: r) k = some x.2.2 := by simp [valN, List.find?_cons, e]
theorem valN_neg {x : NE} {r : List NE} {k : NestedKey} (e : ¬ x.1 = k) : valN (x :: r) k = valN r k := by simp [valN, List.find?_cons, e]
abbrev PN : List NE → List (NestedKey × Addr × Value) → Prop := Paired (fun (p : NE) (q : NestedKey × Addr × Value) => p.1 = q.1 ∧ p.2.1 = q.2.1 ∧ RelV p.2.2 q.2.2)
theorem PN.val {xs : List NE} {ys : List (NestedKey × Addr × Value)} (r : PN xs ys) (k : NestedKey) : RelO (valN xs k) ((atKey ys k).map (·.2)) := by
  induction r with
  | nil => exact True.intro
  | @cons p q ps qs h t ih =>
    obtain ⟨h1, _, h2⟩ := h
    by_cases e : p.1 = k
    · have e' : q.1 = k := h1.symm.trans e
      have b : atKey (q :: qs) k = some q.2 := by simp [atKey, List.find?_cons, e']
      rw [valN_pos e, b]; exact h2
    · have e' : ¬ q.1 = k := fun z => e (h1.trans z)
      have b : atKey (q :: qs) k = atKey qs k := by simp [atKey, List.find?_cons, e']
      rw [valN_neg e, b]; exact ih
theorem PN.repl {xs : List NE} {ys : List (NestedKey × Addr × Value)} (r : PN xs ys) (k : NestedKey) {y : V} {u : Value} (ry : RelV y u) : PN (xs.map fun x => if x.1 = k then (x.1, x.2.1, y) else x) (ys.map (putAt k u)) := by
  induction r with
  | nil => exact .nil
  | @cons p q ps qs h t ih =>
    rw [List.map_cons, List.map_cons]
    refine .cons ?_ ih
    obtain ⟨h1, h2, h3⟩ := h
    unfold putAt
    by_cases e : p.1 = k
    · rw [if_pos e, if_pos (h1.symm.trans e)]; exact ⟨h1, h2, ry⟩
    · rw [if_neg e, if_neg (fun z => e (h1.trans z))]; exact ⟨h1, h2, h3⟩
theorem PN.put {xs : List NE} {ys : List (NestedKey × Addr × Value)} (r : PN xs ys) (k : NestedKey) {b : Addr} {y : V} {u : Value} (ry : RelV y u) : PN (putN xs k b y) (storedH ys k b u) := by
  have e : (valN xs k).isSome = (atKey ys k).isSome := by rw [(r.val k).isSome_eq, Option.isSome_map]
  unfold putN storedH
  rw [e]
  by_cases q : (atKey ys k).isSome = true
  · rw [if_pos q, if_pos q]; exact r.repl k ry
  · rw [if_neg q, if_neg q]; exact Paired.snoc r ⟨rfl, rfl, ry⟩
theorem PN.len {xs : List NE} {ys : List (NestedKey × Addr × Value)} (r : PN xs ys) : xs.length = ys.length := Paired.length r
theorem PN.keys {xs : List NE} {ys : List (NestedKey × Addr × Value)} (r : PN xs ys) : xs.map (·.1) = ys.map (·.1) := by
  induction r with
  | nil => rfl
  | cons h t ih => rw [List.map_cons, List.map_cons, h.1, ih]
section
variable {X : Cx} {pins : List (Addr × Obj)} {σ : L2.St} {H : Hp} {s : Shared} {a : Addr} {y v : V} {u r : Value} {o : Option V} {A : Around} {E : Value → Shared → Prop}
end
section
variable {X : Cx} {o i e value : Expr} {pos pos' tpos : Pos} {td ty tv : TE}
end
def isTupM : MV → Bool
  | .tup _ => true
  | _ => false
def keyT (y : MV) : Option NestedKey := if isTupM y = true then (match keyN y with
  | some k => if k.depth ≤ 8 then some k else none
  | none => none) else none
section
variable {Γ : Gm} {K : PySem.W.Frag} {S : Sh} {H : Hp} {h : MH}
variable {X : Cx} {W : WX} {o i value : Expr} {mo mi mv : ME} {pos pos' : Pos}
end
end Mn
set_option Elab.async false
set_option linter.all false
set_option maxRecDepth 100000
namespace Mn
open PySem PySem.Spec PyProof.Rows L2
section
variable {Γ : Gm} {X : Cx} {W : WX} {e : Expr} {es : List Expr} {ms : MA} {pos p : Pos}
end
end Mn
set_option Elab.async false
set_option linter.all false
set_option maxRecDepth 100000
namespace Mn
open PySem PySem.Spec PyProof.Rows L2
section
variable {Γ : Gm} {X : Cx} {W : WX} {e ke ve : Expr} {es : List Expr} {ms : MA} {pos p p2 : Pos} {mk mv ma mb : ME} {a b : Expr}
end
def idxB (k : Bool) : List Bool → Nat
  | [] => 0
  | x :: xs => if x = k then 0 else idxB k xs + 1
theorem idxB_get {k : Bool} : ∀ {xs : List Bool}, k ∈ xs → xs[idxB k xs]? = some k
  | x :: xs, h => by
    unfold idxB
    by_cases c : x = k
    · rw [if_pos c, c]; rfl
    · rw [if_neg c]
      have : k ∈ xs := (List.mem_cons.mp h).resolve_left fun z => c z.symm
      exact idxB_get this
section
variable {Γ : Gm} {K : PySem.W.Frag}
variable {X : Cx} {W : WX} {o e : Expr} {es : List Expr} {mo : ME} {ms : MA} {apos cpos : Pos}
end
end Mn
set_option Elab.async false
set_option linter.all false
set_option maxRecDepth 100000
namespace Mn
open PySem PySem.Spec PyProof.Rows L2
def strsOf : List MV → Option (List Str)
  | [] => some []
  | .str b :: xs => match strsOf xs with
    | some bs => some (b :: bs)
    | none => none
  | _ :: _ => none
theorem strsOf_map : ∀ bs : List Str, strsOf (bs.map MV.str) = some bs
  | [] => rfl
  | b :: bs => by show (match strsOf (bs.map MV.str) with | some ms => some (b :: ms) | none => none) = _; rw [strsOf_map bs]
theorem strsOf_eq : ∀ {xs : List MV} {bs : List Str}, strsOf xs = some bs → xs = bs.map MV.str
  | [], bs, e => by cases e; rfl
  | .str b :: xs, bs, e => by
    unfold strsOf at e
    split at e
    · rename_i ms hm
      cases e
      rw [strsOf_eq hm]; rfl
    · cases e
  | .int _ :: _, _, e => by cases e
  | .non :: _, _, e => by cases e
  | .bl _ :: _, _, e => by cases e
  | .tup _ :: _, _, e => by cases e
  | .fl _ :: _, _, e => by cases e
  | .sl _ :: _, _, e => by cases e
  | .ob _ _ _ :: _, _, e => by cases e
  | .ref _ :: _, _, e => by cases e
  | .exo _ _ _ _ :: _, _, e => by cases e
section
variable {Γ : Gm} {K : PySem.W.Frag} {S : Sh}
theorem repL_strs : ∀ {ns : List Str} {us : List V}, RepL Γ K S (ns.map MV.str) us → us = ns.map V.str
  | [], us, a => by unfold RepL at a; exact a
  | n :: ns, us, a => by
    have a' : RepL Γ K S (.str n :: ns.map MV.str) us := a
    unfold RepL at a'
    obtain ⟨u', r', rfl, q', a''⟩ := a'
    rw [rep_str q', repL_strs a'']; rfl
theorem strs_ok {H : Hp} {h : MH} {d : MV} {v : V} {xs : List MV} {ns : List Str} (R : Rel Γ K S h H) (e : lstAt h d = some xs) (e2 : strsOf xs = some ns) (r : Rep Γ K S d v) : ∃ a, v = .ref a ∧ SqL K H a (ns.map V.str) := by
  obtain ⟨a, us, rfl, q2, q3⟩ := lstAt_ok R e r
  rw [strsOf_eq e2] at q3
  rw [repL_strs q3] at q2
  exact ⟨a, rfl, q2⟩
end
def joinSz (a : Str) (ys : List Str) : Bool := decide ((ys.map (·.length)).sum + ys.length * a.length ≤ 16777216)
def fJoin : MV → List MV → MH → Out MV
  | .str a, [x], h => match lstAt h x with
    | some xs => match strsOf xs with
      | some ys => if joinSz a ys = true then .ok (.str (Txt.join a ys)) h else .stuck
      | none => .stuck
    | none => .stuck
  | _, _, _ => .stuck
def rJoin (K : PySem.W.Frag) : V → List V → Hp → VK → Prop := fun x xs H Q => ∃ a p, ∃ ys : List Str, x = .str a ∧ xs = [.ref p] ∧ (SqL K H p (ys.map V.str) ∨ SqT K H p (ys.map V.str)) ∧ (ys.map (·.length)).sum + ys.length * a.length ≤ 16777216 ∧ Q (.str (Txt.join a ys)) H
theorem lift_join {Γ : Gm} {K : PySem.W.Frag} : LiftM Γ K (rJoin K) fJoin := by
  intro S H h x u xs us Q E R rx rs p
  unfold fJoin at p
  split at p
  · rename_i a x
    obtain ⟨v, rfl, q1⟩ := repL_1 rs
    split at p
    · rename_i ys hy
      split at p
      · rename_i ns hn
        split at p
        · rename_i hk
          obtain ⟨b, rfl, q2⟩ := strs_ok R hy hn q1
          rw [rep_str rx]
          exact ⟨a, b, ns, rfl, rfl, .inl q2, of_decide_eq_true hk, p.val R is_str⟩
        · exact p.elim
      · exact p.elim
    · exact p.elim
  · exact p.elim
section
variable {Γ : Gm} {X : Cx} {W : WX} {o e : Expr} {es : List Expr} {mo : ME} {ms : MA} {apos cpos : Pos}
theorem sm_join (ho : SE Γ X W o mo) (ha : SA Γ X W (e :: es) ms) (hbase : attributeBase o "join" X.env (eval o X.env) = eval o X.env := by rfl)
    (hfew : ((backTo cpos (starEach (e :: es) X.env)).all (fun x => !x.1) && (backToKw cpos (keywordEach [] X.env)).all (fun x => x.1.isSome)
      && decide ((e :: es).length + ([] : List Keyword).length + (if ([] : List Keyword).isEmpty then 0 else 1) < 30)) = true := by rfl)
    (hline : (apos.endLine == cpos.line) = true := by rfl) (hs : starEach (e :: es) X.env = (false, eval e X.env) :: starEach es X.env := by rfl) (hplain : (backTo cpos (starEach es X.env)).any (·.1) = false := by rfl) : SE Γ X W (.Call (.Attribute o "join" apos) (e :: es) [] cpos) (mM "str" fJoin mo ms) :=
  se_m PySem.F.plainAttrs_str PySem.F.slot_str_join PySem.F.type_str_join mt_join lift_join ho ha hbase hfew hline hs hplain
end
def fJoinC (a : Str) : MV → MH → Out MV := fun x h => fJoin (.str a) [x] h
theorem mM_join {a : Str} {e : ME} : mM "str" fJoin (mC (.str a)) (maC e maN) = m1 (fJoinC a) e := by
  funext env h
  unfold mM mC maC maN m1
  simp only [Out.bind]
  rw [if_pos (show tyChk "str" h (.str a) = true by unfold tyChk; simp)]
  cases e env h <;> rfl
end Mn
set_option Elab.async false
set_option linter.all false
set_option maxRecDepth 100000
namespace Mn
open PySem PySem.Spec PyProof.Rows L2
section
variable {X : Cx} {CX : CXT} {k : Nat} {f C : Addr} {fd : FuncData} {ps : List Str} {sp : Sp} {E : L2.St → XK} {x m : Str} {p pos apos : Pos} {o e : Expr} {es : List Expr} {t : TA} {ta : TE} {dvs : List V} {ws : List Value}
end
structure MeOkD (P : Program) (w : World) (K : PySem.W.Frag) (mg : Str → Option Value) (base : Heap) (Γ : Gm) (k : Nat) (C nm : Str) (n : Nat) (dv : List Int) (g : MF) : Prop where
  ex : ∃ (f : Addr) (fd : FuncData) (ps : List Str), Meth K (Γ.cls C) nm f ∧ Cls K (Γ.cls C) ∧ FnOk P w K mg base (L2.CX P w) k f fd ps (spM Γ K n g) ∧ ∀ j, j ≤ dv.length → ∃ ws : List Value, Vals ((dv.drop j).map V.int) ws ∧ Binds K fd ps ws
section
variable {P : Program} {w : World} {K : PySem.W.Frag} {mg : Str → Option Value} {base : Heap} {Γ : Gm} {j k n : Nat} {C nm qual : Str} {ps : List Str} {g : MF} {dv : List Int}
theorem MeOkD.mono (c : MeOkD P w K mg base Γ j C nm n dv g) (h : j ≤ k) : MeOkD P w K mg base Γ k C nm n dv g := by
  obtain ⟨f, fd, ps, h1, h2, h3, h4⟩ := c.ex
  exact ⟨f, fd, ps, h1, h2, h3.mono h, h4⟩
theorem MeOkD.me (c : MeOkD P w K mg base Γ k C nm n dv g) : MeOk P w K mg base Γ k C nm n g := by
  obtain ⟨f, fd, ps, h1, h2, h3, h4⟩ := c.ex
  obtain ⟨ws, a, b⟩ := h4 dv.length (Nat.le_refl _)
  rw [List.drop_length] at a
  cases a
  exact ⟨f, fd, ps, h1, h2, h3, b⟩
variable {X : Cx} {W : WX} {o e : Expr} {es : List Expr} {mo : ME} {ms ms' : MA} {pos apos p : Pos}
end
section
variable {Γ : Gm} {X : Cx} {W : WX} {o e : Expr} {es : List Expr} {mo : ME} {ms : MA} {apos cpos : Pos}
end
end Mn
set_option Elab.async false
set_option linter.all false
set_option maxRecDepth 100000
namespace Mn
open PySem PySem.Spec PyProof.Rows L2
section
variable {X : Cx} {CX : CXT} {k n : Nat} {f : Addr} {fd : FuncData} {ps ks : List Str} {sp : Sp} {E : L2.St → XK} {x : Str} {p pos : Pos} {e : Expr} {es : List Expr} {kws : List Keyword} {t tk : TA} {g : List Value → List Value → List Value} {gV : List V → List V → List V}
end
def catV {α : Type} (xs ys : List α) : List α := xs ++ ys
structure CallOkK (P : Program) (w : World) (K : PySem.W.Frag) (mg : Str → Option Value) (base : Heap) (Γ : Gm) (k : Nat) (x : Str) (n : Nat) (kn : Str) (kd : Int) (g : MF) : Prop where
  ex : ∃ (f : Addr) (fd : FuncData) (ps : List Str), FnOk P w K mg base (L2.CX P w) k f fd ps (spM Γ K n g) ∧ mg x = some (.ref f) ∧ PySem.W.keepIn K (.ref f) = true ∧ (∃ ws : List Value, Vals [V.int kd] ws ∧ Binds K fd ps ws) ∧ KBn K fd ps (n - 1) [kn] catV catV
section
variable {P : Program} {w : World} {K : PySem.W.Frag} {mg : Str → Option Value} {base : Heap} {Γ : Gm} {j k n : Nat} {x kn : Str} {kd : Int} {g : MF} {ps : List Str}
theorem CallOkK.mono (c : CallOkK P w K mg base Γ j x n kn kd g) (h : j ≤ k) : CallOkK P w K mg base Γ k x n kn kd g := by
  obtain ⟨f, fd, ps, h1, h2⟩ := c.ex
  exact ⟨f, fd, ps, h1.mono h, h2⟩
variable {X : Cx} {W : WX} {e ke : Expr} {es : List Expr} {ms ms' : MA} {mk : ME} {pos p kpos : Pos}
end
end Mn
set_option Elab.async false
set_option linter.all false
set_option maxRecDepth 100000
namespace Mn
open PySem PySem.Spec PyProof.Rows L2
section
variable {Γ : Gm} {K : PySem.W.Frag} {S : Sh}
end
section
variable {Γ : Gm} {X : Cx} {W : WX} {e : Expr} {es : List Expr} {ms : MA} {pos p : Pos}
end
end Mn
set_option Elab.async false
set_option linter.all false
set_option maxRecDepth 100000
namespace Mn
open PySem PySem.Spec PyProof.Rows L2
section
variable {Γ : Gm} {X : Cx} {W : WX} {pos : Pos} {S : Sh}
end
end Mn
set_option Elab.async false
set_option linter.all false
set_option maxRecDepth 100000
namespace Mn
open PySem PySem.Spec PyProof.Rows L2
section
variable {Γ : Gm} {X : Cx} {W : WX} {pos p : Pos}
end
end Mn
set_option Elab.async false
set_option linter.all false
set_option maxRecDepth 100000
namespace Mn
open PySem PySem.Spec PyProof.Rows L2
structure GcV (mg : Str → Option Value) (x : Str) (v : V) : Prop where
  ex : ∃ u, mg x = some u ∧ RelV v u
section
variable {Γ : Gm} {X : Cx} {W : WX} {pos : Pos}
theorem se_gcs {x s : Str} (g : GcV X.mg x (.str s)) (hg : Gl X x := by rfl) (hd : (x == Str.ofString "__debug__") = false := by rfl) : SE Γ X W (.Name x pos) (mC (.str s)) := by
  obtain ⟨u, h1, h2⟩ := g.ex
  exact ⟨_, pe_glob hg h1 h2 hd, fun S H h σ env Q R G p => p.val R is_str⟩
theorem gcs_mk {mg : Str → Option Value} {x s : Str} {t : Tok} (hm : mg x = some (.str s t)) : GcV mg x (.str s) := ⟨_, hm, t, rfl⟩
end
end Mn
set_option Elab.async false
set_option linter.all false
set_option maxRecDepth 100000
namespace Mn
open PySem PySem.Spec PyProof.Rows L2
section
variable {Γ : Gm} {X : Cx} {W : WX} {o : Expr} {mo : ME} {f : Str} {tab : CTab} {pos : Pos}
end
section
variable {Γ : Gm} {K : PySem.W.Frag}
end
section
variable {Γ : Gm} {X : Cx} {W : WX} {e : Expr} {me : ME}
end
end Mn
set_option Elab.async false
set_option linter.all false
set_option maxRecDepth 100000
namespace Mn
open PySem PySem.Spec PyProof.Rows L2
section
variable {X : Cx} {CX : CXT} {k n : Nat} {f C : Addr} {fd : FuncData} {ps ks : List Str} {sp : Sp} {E : L2.St → XK} {x : Str} {p pos : Pos} {e : Expr} {es : List Expr} {kws : List Keyword} {t tk : TA} {g : List Value → List Value → List Value} {gV : List V → List V → List V}
end
structure MakeOkK (P : Program) (w : World) (K : PySem.W.Frag) (mg : Str → Option Value) (base : Heap) (Γ : Gm) (k : Nat) (C : Str) (n : Nat) (kn : Str) (kd : Int) (g : MF) : Prop where
  ex : ∃ (f : Addr) (fd : FuncData) (ps : List Str), Mk K (Γ.cls C) f ∧ FnOk P w K mg base (L2.CX P w) k f fd ps (spM Γ K n g) ∧ mg C = some (.ref (Γ.cls C)) ∧ (∃ ws : List Value, Vals [V.int kd] ws ∧ Binds K fd ps ws) ∧ KBn K fd ps (n - 1) [kn] catV catV
section
variable {P : Program} {w : World} {K : PySem.W.Frag} {mg : Str → Option Value} {base : Heap} {Γ : Gm} {j k n : Nat} {C qual kn : Str} {kd : Int} {g : MF} {ps : List Str}
theorem MakeOkK.mono (c : MakeOkK P w K mg base Γ j C n kn kd g) (h : j ≤ k) : MakeOkK P w K mg base Γ k C n kn kd g := by
  obtain ⟨f, fd, ps, h1, h2, h3⟩ := c.ex
  exact ⟨f, fd, ps, h1, h2.mono h, h3⟩
end
section
variable {P : Program} {w : World} {K : PySem.W.Frag} {mg : Str → Option Value} {base : Heap} {Γ : Gm}
theorem make_tail {X : Cx} {C : Str} {frz : Bool} {g : MF} {n : Nat} {ds : List MV} {vs : List V} {h1 : MH} {S1 : Sh} {H1 : Hp} {R : Rel Γ X.K S1 h1 H1} {Q : VK} {E : XK} (x dx : Addr) (hx : H1 x = none) (hdx : H1 dx = none) (hne : dx ≠ x) (r1 : RepL Γ X.K S1 ds vs) (hn : ds.length + 1 = n)
    (p1 : Post Γ X.K (Rep Γ X.K) S1 H1 Q E (match g (.ref h1.length :: ds) (h1 ++ [.ins C [] []]) with
  | .ok .non h' => if frz = true then (match h'[h1.length]? with
      | some (.ins C' ks xs) => .ok (.ob C' ks xs) (h'.set h1.length .dead)
      | _ => .stuck) else .ok (.ref h1.length) h'
  | .exc D xs h' => .exc D xs h'
  | _ => .stuck)) : spM Γ X.K n g (.ref x :: vs) (upd (upd H1 dx (.own x)) x (.ins (Γ.cls C) dx [])) (fun v H2 => v = .non ∧ Q (.ref x) H2) E := by
  have hx2 : upd H1 dx (.own x) x = none := by rw [upd_ne (Ne.symm hne)]; exact hx
  obtain ⟨R2, e2⟩ := R.froz (o := .own x) hdx
  have hz : upd S1.Hs dx (.own x) x = none := by
    cases z : upd S1.Hs dx (.own x) x with
    | none => rfl
    | some o =>
      rw [R2.sub x o z] at hx2
      cases hx2
  obtain ⟨R3, e3⟩ := R2.alloc (o := .ins (Γ.cls C) dx []) (c := .ins C [] []) hx2 (fun S' s1 s2 => ⟨by rw [s1]; exact hz, dx, [], upd_same, rfl, repL_nil⟩)
  have e23 := e2.trans e3
  have rx : Rep Γ X.K ⟨upd S1.Hs dx (.own x), S1.ι ++ [x]⟩ (.ref h1.length) (.ref x) := by
    unfold Rep
    refine ⟨x, ?_, rfl⟩
    show (S1.ι ++ [x])[h1.length]? = some x
    rw [← R.len]
    simp
  refine sp_of R3 (repL_cons rx (r1.ext e23)) (by simpa using hn) ?_
  cases z : g (.ref h1.length :: ds) (h1 ++ [.ins C [] []]) with
  | stuck => rw [z] at p1; exact p1.elim
  | exc D xs h2 =>
    rw [z] at p1
    exact fun S' H' dd e' R' r' => p1 S' H' dd (e23.trans e') R' r'
  | ok d h2 =>
    rw [z] at p1
    intro S' H' b e' R' rb
    cases d with
    | non =>
      refine ⟨rep_non rb, ?_⟩
      simp only at p1
      have ix : S'.ι[h1.length]? = some x := by
        have := e'.ix h1.length x (by show (S1.ι ++ [x])[h1.length]? = some x; rw [← R.len]; simp)
        exact this
      split at p1
      · split at p1
        · rename_i C' ks xs ec
          obtain ⟨zz, dx', us, q3, q4, q5⟩ := R'.cell _ _ x ec ix
          obtain ⟨R4, e4⟩ := R'.freeze ix zz q3
          refine p1 _ _ _ ((e23.trans e').trans e4) R4 ?_
          unfold Rep
          exact ⟨x, dx', us, rfl, upd_same, q4, q5.ext e4⟩
        · exact p1.elim
      · refine p1 _ _ _ (e23.trans e') R' ?_
        unfold Rep
        exact ⟨x, ix, rfl⟩
    | _ => exact p1.elim
variable {X : Cx} {W : WX} {e ke : Expr} {es : List Expr} {ms ms' : MA} {mk : ME} {pos p kpos : Pos} {k n : Nat} {C kn : Str} {kd : Int} {g : MF}
end
section
variable {Γ : Gm} {X : Cx} {W : WX} {e : Expr} {me : ME} {pos : Pos} {C nm fl : Str} {k : Nat}
end
section
variable {Γ : Gm} {X : Cx} {W : WX} {value : Expr} {mv : ME} {pos p0 tpos : Pos} {op : Operator} {tip : TIp} {f : MV → MV → MH → Out MV} {tab : CTab} {fl x : Str}
end
end Mn
set_option Elab.async false
set_option linter.all false
set_option maxRecDepth 100000
set_option maxHeartbeats 2000000
namespace Mn
open PySem PySem.Spec PyProof.Rows L2 PySem.SeqAt
theorem int_eq_ins (b : Int) (u : Tok) (l : Addr) (c : Value) (dd : Option Addr) (sl : Array (Option Value)) :
    Meets (Builtin.«int.__eq__» ⟨[.int b u, .ref l], []⟩) (fun _ R s => s.heap.get? l = some { cls := c, dict := dd, data := .plain, slots := sl } ∧ R (.ok (.ret .notImplemented)) s) :=
  .of_wp fun prog w A R s h => by
    obtain ⟨hp, g, d', tk, os⟩ := s; obtain ⟨hl, h⟩ := h
    wp_walk using wpAny_loadPart' hl, wpAny_load hl
    exact ⟨_, rfl, h⟩
section
variable {M : Model} {prog : Program} {w : World} {A : Around} {E : Value → Shared → Prop} {s : Shared} {K : PySem.W.Frag} {x C : Addr} {ox : Obj} {od : Option Obj} {i : Int} {t : Tok}
theorem isSame_int {R : Bool → Shared → Prop} (h : R false s) : wpAny M A (isSame (.ref x) (.int i t)) R E s := wpAny_of_eq (rfl : isSame (.ref x) (.int i t) = pure false) h
theorem entry_int {Q : Fin → Shared → Prop} (hq : Q (.done (.ret .notImplemented)) s) : wpAny M A (Builtin.«object.__eq__» ⟨[.ref x, .int i t], []⟩) Q E s := by
  unfold Builtin.«object.__eq__»
  repeat (first | with_reducible refine isSame_int ?_ | wp_step)
  exact hq
theorem call_objEqI {Q : Value → Shared → Prop} (X : K.In s.heap) (I : PySem.W.InstAt s.heap x ox C od) (hm : PySem.W.mroIn K C (.type "object") = some true) (hq : Q .notImplemented s) :
    wpAny (model prog w) A (call (.builtin "object.__eq__") [.ref x, .int i t]) Q E s :=
  wpAny_call (codeAny_call_builtin F.cmp_object.eq.plain F.cmpEntry_eq (PySem.W.check_slot F.cmpKind_eq F.cmpSplit_eq (I.type.andThen (PySem.W.looks_mroIn X hm)) (F.cmpArgs_eq _ _) (entry_int hq)))
theorem sub_int : PySem.W.subIn K (.type "int") (.ref C) = some false := by
  have e : fastBuiltinMro "int" = some [.type "int", .type "object"] := by decide +kernel
  show (fastBuiltinMro "int").map (·.contains (.ref C)) = some false
  rw [e]
  first
    | rfl
    | simp
theorem rc_insI (hu : A.units < cLine) (X : K.In s.heap) (I : PySem.W.InstAt s.heap x ox C od) (hd : ox.data = .plain) (hm : PySem.W.mroIn K C (.type "object") = some true) (hs : PySem.W.findIn K (.ref C) "__eq__" = some (some (.builtin "object.__eq__"))) :
    RcAt A s (.ref x) (.int i t) false := fun prog w E Q h => by
  have one : wpAny (model prog w) A (tryCompare (.ref x) "__eq__" (.int i t)) (fun r s' => r = none ∧ s' = s) E s := by
    unfold tryCompare
    exact wpAny_bind (HN.ifBound_objEq X I hs (call_objEqI X I hm (wpAny_pure ⟨rfl, rfl⟩)))
  have two : wpAny (model prog w) A (tryCompare (.int i t) "__eq__" (.ref x)) (fun r s' => r = none ∧ s' = s) E s := by
    have hl : s.heap.get? x = some { cls := ox.cls, dict := ox.dict, data := .plain, slots := ox.slots } := by
      rw [I.at_, ← hd]
    exact wpAny_tryCompare_declines (typeIs_int s i t) F.slot_int_eq_refl (call_meets F.slot_int_eq_refl (typeIs_int s i t) F.entry_int_eq (F.args_int_eq_2 _ _) (int_eq_ins i t x ox.cls ox.dict ox.slots) ⟨hl, rfl, rfl, rfl⟩)
  simp only [richCompare, cmpInfo_Eq, oneThing_ref]
  refine wpAny_holding (wpAny_bind (wpAny_cRoomFor hu ?_))
  refine wpAny_bind (I.type.here ?_)
  refine wpAny_bind (wpAny_typeOf (typeIs_int s i t) ?_)
  split
  · refine wpAny_bind ((PySem.W.looks_subIn X sub_int).here ?_)
    simp only [Bool.false_eq_true, if_false, Bool.not_false, if_true]
    refine wpAny_bind (m := tryCompare (.ref x) _ (.int i t)) (wpAny_mono one (fun r s1 z => ?_) fun _ _ e => e)
    obtain ⟨z1, z2⟩ := z
    subst z1
    subst z2
    refine wpAny_bind (m := tryCompare (.int i t) _ (.ref x)) (wpAny_mono two (fun r s2 z => ?_) fun _ _ e => e)
    obtain ⟨z1, z2⟩ := z
    subst z1
    subst z2
    exact wpAny_bind (wpAny_rule (wpAny_bind (wpAny_of_eq (rfl : isSame (.ref x) (.int i t) = pure false) (wpAny_pure h))))
  · rename_i q
    exact absurd (by simp) q
end
structure EqOwn (K : PySem.W.Frag) (C : Addr) : Prop where
  mro : PySem.W.mroIn K C (.type "object") = some true
  eq : PySem.W.findIn K (.ref C) "__eq__" = some (some (.builtin "object.__eq__"))
def rEqI (K : PySem.W.Frag) (C : Addr) : R2 := fun x y H Q => ∃ a dx fs i, x = .ref a ∧ y = .int i ∧ H a = some (.ins C dx fs) ∧ Q (.bl false) H
theorem op_eqI {X : Cx} {C : Addr} (hu : X.A.units + 64 < cLine) (D : EqOwn X.K C) : OpR X (compareOp .Eq) (rEqI X.K C) := by
  intro pins s σ H x y v u Q I rx ry h
  obtain ⟨a, dx, fs, i, rfl, rfl, ha, q⟩ := h
  obtain rfl : v = Value.ref a := rx
  obtain ⟨t, rfl⟩ := ry
  obtain ⟨mA, O, _⟩ := ins_get I.hok ha
  obtain ⟨od, J, _⟩ := O.look
  exact rc_insI (by omega) I.kIn J rfl D.mro D.eq _ _ _ _ ⟨.bl false, H, I, rfl, q⟩
def fEqI (C : Str) (x y : MV) (h : MH) : Out MV := match x, y with
  | .ob C' _ _, .int _ => if C' = C then .ok (.bl false) h else .stuck
  | _, _ => .stuck
theorem lift_eqI {Γ : Gm} {K : PySem.W.Frag} {C : Str} : Lift2 Γ K (rEqI K (Γ.cls C)) (fEqI C) := by
  intro S H h x y u v Q E R rx ry p
  unfold fEqI at p
  split at p
  · rename_i C' ks xs i
    split at p
    · rename_i hc
      subst hc
      unfold Rep at rx
      obtain ⟨a, dx, us, rfl, h2, _, _⟩ := rx
      exact ⟨a, dx, _, i, rfl, rep_int ry, R.sub _ _ h2, p _ _ _ (Ext.refl _ _) R is_bl⟩
    · exact p.elim
  · exact p.elim
end Mn
set_option Elab.async false
set_option linter.all false
set_option maxRecDepth 100000
namespace Mn
open PySem PySem.Spec PyProof.Rows L2
section
variable {X : Cx} {C : Addr} {bmB : List Value} {B newId initId : String}
theorem pmk5_own {x m : Str} {j : Nat} {p p2 pos : Pos} (F : ExcBaseFacts B newId initId bmB) (q : PySem.W.excIn X.K C bmB newId = true) (gC : X.mg x = some (.ref C)) (kC : PySem.W.keepIn X.K (.ref C) = true) (r : Raises X (.ref C)) (hg : Gl X x := by rfl)
    (hdb : (x == ("__debug__" : Str)) = false := by decide) : L2H.PMk5 X (.Call (.Name x p) [.Constant (.str m) j p2] [] pos) (fun _ H Q => Q (.ref C) none H) := by
  intro pins s σ H Q I h
  refine wpAny_Call_Name_kw (ld_glob I hg gC ?_ hdb)
  have ha : PA X [.Constant (.str m) j p2] (tCons (tC (.str m)) tNil) := pa_cons pe_str pa_nil
  refine PySem.W.callWith_K (h₀ := X.base) I.ok.mod.kin kC (thn (ha.run pos pins s σ H (fun vs H1 => vs = [V.str m] ∧ H = H1) I ⟨rfl, rfl⟩) fun us s1 hh => ?_)
  obtain ⟨vs, H1, I1, r1, ev, eH⟩ := hh
  subst ev
  rw [← eH] at I1
  refine ⟨I1.kIn, ?_⟩
  cases r1 with
  | cons ru rn =>
    rename_i u us'
    cases rn
    show wpAny _ _ (call (.ref C) [u]) _ _ _
    obtain ⟨bm, N, nm, qn, bs, hdct, sn, sub, ab, col, dd, k0, k1, k2, k3, k5, mN, hC, hN, hni, T⟩ := exc_obj I1.kIn q
    refine wpAny_call_exc_subT F T hC hN hni (fun h' e hm => ?_) (by show 1 ≤ sizeLine; rw [sizeLine_eq]; omega)
    exact L2H.mk_of5 I1 hm r h (I1.hok.gone hm.new)
end
noncomputable def sTryN (b : MS) (tab : List (Str × Bool)) (y : Str) : MS := fun env h => match b env h with
  | .exc C _ env' h' => match tab.lookup C with
    | some true => .exc y [] env' h'
    | _ => .stuck
  | o => o
section
variable {Γ : Gm} {X : Cx} {W : WX} {b : MS} {tab : List (Str × Bool)} {y : Str}
theorem ss_tryN {body : List Stmt} {x m : Str} {c : Value} {j j2 : Nat} {np pos pos' p1 p2 p3 p4 p5 : Pos} {bmB : List Value} {B newId initId : String}
    (hs : X.stack = X.env :: X.outer) (hf : X.env.frame = some X.env.locals) (hpa : ∀ hd : Option Value, PassesOwnAt (model X.prog X.w) (X.A.mark hd) X.A X.env X.xe) (tk : Takes X W) (hc : Names X x c) (ht : ∀ p ∈ tab, PySem.W.exmOne X.K (.ref (Γ.cls p.1)) c = some p.2)
    (hb : ∀ (W' : WX) (pn : List (Addr × Obj)) (xe : Value → Shared → Prop), L2N.Takes (X.tr pn xe) W' → PassesOwn (model X.prog X.w) X.A X.env xe → SSs Γ (X.tr pn xe) W' body b)
    (F : ExcBaseFacts B newId initId bmB) (q : PySem.W.excIn X.K (Γ.cls y) bmB newId = true) (gC : X.mg y = some (.ref (Γ.cls y))) (kC : PySem.W.keepIn X.K (.ref (Γ.cls y)) = true) (r : Raises X (.ref (Γ.cls y))) (hg : Gl X y := by rfl) (hdb : (y == ("__debug__" : Str)) = false := by decide) :
    SS Γ X W (.Try body [.ExceptHandler (some (.Name x np)) none [.Raise (some (.Call (.Name y p1) [.Constant (.str m) j p2] [] p3)) (some (.Constant .none j2 p4)) p5] pos'] [] [] pos) (sTryN b tab y) := by
  refine ⟨_, L2H.ps_try_onlyX (tb := fun W' => tOfS Γ X.K W' b) (ts := fun _ _ _ D σ H => W (.ref (Γ.cls y)) none σ H) (Wout := W) hs hf hc hpa tk (fun W' pn xe n1 _ po => (hb W' pn xe n1 po).of) (fun a oe cls d pn hz hvs tk2 hot => pss_one (L2H.ps_raiseHN hot tk2 (pmk5_own F q gC kC r hg hdb))), fun S H h σ env D R G p => ⟨S, h, env, R, G, ?_⟩⟩
  unfold sTryN at p
  cases z : b env h with
  | ok f env1 h1 => rw [z] at p; cases f <;> exact p
  | exc C xs env1 h1 =>
    rw [z] at p
    simp only at p
    split at p
    · rename_i ht1
      exact fun S' H' σ' dd e R' G' x => ⟨true, ht (C, true) (PySem.mem_of_lookup ht1), fun _ a ha => p S' H' σ' none e R' G' rfl, fun z => by cases z⟩
    · exact p.elim
  | stuck => rw [z] at p; exact p.elim
end
structure MakeOkN (P : Program) (w : World) (K : PySem.W.Frag) (mg : Str → Option Value) (base : Heap) (Γ : Gm) (k : Nat) (C : Str) (n : Nat) (g : MF) : Prop where
  ex : ∃ (f : Addr) (fd : FuncData) (ps : List Str), Mk K (Γ.cls C) f ∧ FnOk P w K mg base (L2N.CX P w) k f fd ps (spM Γ K n g) ∧ mg C = some (.ref (Γ.cls C)) ∧ Binds K fd ps []
def mfNox (g : MF) : MF := fun ds h => match g ds h with
  | .exc _ _ _ => .stuck
  | o => o
section
variable {P : Program} {w : World} {K : PySem.W.Frag} {mg : Str → Option Value} {base : Heap} {Γ : Gm} {j k n : Nat} {C qual : Str} {ps : List Str} {g : MF}
theorem MakeOkN.mono (c : MakeOkN P w K mg base Γ j C n g) (h : j ≤ k) : MakeOkN P w K mg base Γ k C n g := by
  obtain ⟨f, fd, ps, h1, h2, h3, h4⟩ := c.ex
  exact ⟨f, fd, ps, h1, h2.mono h, h3, h4⟩
theorem fn_okN {x : Str} {st : Stmt} {f : Addr} {fd : FuncData} {N : List Str} {m : MS} (F : Fun K x qual st f fd) (S : FnScope N ps (defScope st))
    (hb : ∀ (cdv : Value) (A : Around) (outer : List Env) (s : Shared) (H : Hp) (E : XK), Room k (A.deeper (envOfC qual (defScope st) s.heap.objs.size f cdv)) →
      SSs Γ (cxOf (L2N.CX P w) P w K mg base N qual (defScope st) f cdv A outer s H E) (fun c d _ H => E c d H) (defBody st) m) :
    FnOk P w K mg base (L2N.CX P w) (k + 1) f fd ps (spM Γ K ps.length (runF N.length m)) := by
  obtain ⟨oc, od, kV, doc, pm, an, cdv, ct, osl, rfl, lk, hcd⟩ := F.ex
  refine fn_of lk hcd S (fun vs H Q E h => h.1) fun A outer s H vs Q E hr hsp => ?_
  obtain ⟨hl, Sh, h, ds, R, r, p⟩ := hsp
  obtain ⟨t, pt, et⟩ := (hb cdv A outer s H E hr).ex
  refine ⟨t, pt, et Sh H h (L2.start N vs) (ds.map some ++ List.replicate (N.length - ds.length) none) _ R ?_ ?_⟩
  · have := start_env (N := N) r (N.length - ds.length)
    unfold L2.start
    rw [repL_len r] at this ⊢
    exact this
  · unfold runF at p
    cases z : m (ds.map some ++ List.replicate (N.length - ds.length) none) h with
    | ok fl env h1 =>
      rw [z] at p
      cases fl with
      | nx => exact fun S' H' σ' e R' G' => p S' H' .non e R' is_non
      | rt d => exact fun S' H' v e R' rv => p S' H' v e R' rv
      | bk => exact p.elim
      | ct => exact p.elim
    | exc C xs env h1 =>
      rw [z] at p
      exact fun S' H' σ' dd e R' G' x => p S' H' dd e R' x
    | stuck => rw [z] at p; exact p.elim
theorem mk_okN {st : Stmt} {N : List Str} {m : MS} (D : MkDef K mg Γ C qual st ps) (S : FnScope N ps (defScope st))
    (hb : ∀ (f : Addr) (cdv : Value) (A : Around) (outer : List Env) (s : Shared) (H : Hp) (E : XK), Room k (A.deeper (envOfC qual (defScope st) s.heap.objs.size f cdv)) →
      SSs Γ (cxOf (L2N.CX P w) P w K mg base N qual (defScope st) f cdv A outer s H E) (fun c d _ H => E c d H) (defBody st) m) : MakeOkN P w K mg base Γ (k + 1) C ps.length (runF N.length m) := by
  obtain ⟨f, fd, F, b, M, hm⟩ := D.ex
  exact ⟨f, fd, ps, M, fn_okN F S (hb f), hm, .all b⟩
variable {X : Cx} {W : WX} {e : Expr} {es : List Expr} {ms : MA} {pos p : Pos} {x : Str}
theorem sc_makeN (frz : Bool) (c : MakeOkN X.prog X.w X.K X.mg X.base Γ k C n g) (hr : Room (k + 1) X.A) (tk : L2N.Takes X W) (ha : SA Γ X W (e :: es) ms) (hg : Gl X C := by rfl) (hdb : (C == ("__debug__" : Str)) = false := by decide) (he : starEach (e :: es) X.env = (false, eval e X.env) :: starEach es X.env := by rfl) (hpl : (backTo pos (starEach es X.env)).any (·.1) = false := by rfl) :
    SE Γ X W (.Call (.Name C p) (e :: es) [] pos) (mMake C frz n g ms) := by
  obtain ⟨f, fd, ps, M, F, hm, hb⟩ := c.ex
  obtain ⟨t, pt, et⟩ := ha.ex
  refine ⟨_, pe_mkS (E := WE W) M F hr hg hm hb (fun σ => L2N.passAt tk σ) pt hdb he hpl, fun S H h σ env Q R G q => exA_bind (t := t) et R G q fun ds h1 S1 H1 vs e1 R1 G1 r1 p1 => ?_⟩
  intro x dx hx hdx hne
  split at p1
  · rename_i hn
    exact make_tail (R := R1) x dx hx hdx hne r1 hn p1
  · exact p1.elim
theorem passAt_none {σ : L2.St} : PassesAt (L2.CX X.prog X.w) X σ (fun _ _ _ => False) := fun pins H s e s' I c => by
  obtain ⟨_, _, _, _, _, _, _, _, _, _, _, _, z⟩ := c
  exact z.elim
theorem sc_callQ (c : CallOk X.prog X.w X.K X.mg X.base Γ k x n g) (hr : Room k X.A) (ha : SA Γ X W (e :: es) ms) (hg : Gl X x := by rfl) (hdb : (x == ("__debug__" : Str)) = false := by decide) (he : starEach (e :: es) X.env = (false, eval e X.env) :: starEach es X.env := by rfl) (hpl : (backTo pos (starEach es X.env)).any (·.1) = false := by rfl) :
    SE Γ X W (.Call (.Name x p) (e :: es) [] pos) (mCall n (mfNox g) ms) := by
  obtain ⟨f, fd, ps, F, hm, hk, hb⟩ := c.ex
  obtain ⟨t, pt, et⟩ := ha.ex
  refine ⟨_, pe_callSD (E := fun _ _ _ _ => False) F hr hg hm hk hb .nil (fun σ => passAt_none) pt hdb he hpl, fun S H h σ env Q R G p => exA_bind (t := t) et R G p fun ds h1 S1 H1 vs e1 R1 G1 r1 p1 => ?_⟩
  split at p1
  · rename_i hn
    rw [List.append_nil]
    refine sp_of R1 r1 hn ?_
    unfold mfNox at p1
    cases z : g ds h1 with
    | ok d h2 => rw [z] at p1; exact p1
    | exc C xs h2 => rw [z] at p1; exact p1.elim
    | stuck => rw [z] at p1; exact p1.elim
  · exact p1.elim
theorem ss_raiseN {x m : Str} {j : Nat} {p p2 pos pos' : Pos} {bmB : List Value} {B newId initId : String} (hc : X.calm = true) (tk : L2N.Takes X W) (F : ExcBaseFacts B newId initId bmB) (q : PySem.W.excIn X.K (Γ.cls x) bmB newId = true) (gC : X.mg x = some (.ref (Γ.cls x))) (kC : PySem.W.keepIn X.K (.ref (Γ.cls x)) = true) (r : Raises X (.ref (Γ.cls x)))
    (hg : Gl X x := by rfl) (hdb : (x == ("__debug__" : Str)) = false := by decide) : SS Γ X W (.Raise (some (.Call (.Name x p) [.Constant (.str m) j p2] [] pos)) none pos') (sRaise x) :=
  ⟨_, L2N.ps_raise hc tk (L2N.pmk_own F q gC kC r hg hdb), fun S H h σ env D R G p => p S H σ none (Ext.refl _ _) R G rfl⟩
end
end Mn
set_option Elab.async false
set_option linter.all false
set_option maxRecDepth 100000
namespace L2
open PySem PySem.Spec PyProof.Rows
section
variable {M : Model} {A : Around} {E : Value → Shared → Prop} {s : Shared} {Z : Obj → Prop} {base B : Heap} {env cenv : Env} {outer l : List Env} {L a C : Addr}
theorem looks_anyZ {fl : Value} {Q : Unit → Shared → Prop} (hZ : HandSPX.Steady Z) (hfr : A.frames = some (env :: outer)) (hf : env.frame = some L) (hkb : base.StaysIn s.heap) (hen : base.get? a = none) (hl : s.heap.FunFrames base (env :: outer)) (ht : HandSPX.TracedZ s.heap base a Z fl)
    (hn : (fl == rawInt L) = false) (hQ : ∀ h', HandSPX.HeldZ base (env :: outer) a Z L h' → s.heap.UpToSlots h' → Q () { s with heap := h' }) : wpAny M A (noteFrame (.ref a) env) Q E s := by
  obtain ⟨oe, vs, T, oT, ts, he, hz, hd, h1, hnT, hTe, hT, hdT, h3⟩ := ht
  unfold noteFrame
  simp only [hf]
  refine wpAny_bind (wpAny_field he hd h1 ?_)
  rw [if_pos (show (Value.ref T != Value.none) = true from by simp)]
  refine wpAny_bind (wpAny_field hT hdT h3 ?_)
  rw [if_neg (by rw [hn]; simp)]
  refine wpAny_bind (wpAny_setField hT hdT (Array.getElem?_eq_some_iff.mp h3).1 ?_)
  have other : ∀ b, b ≠ T → (s.heap.update T (Obj.mapFields (·.setIfInBounds 3 Value.none))).get? b = s.heap.get? b := fun b hb => Heap.get?_update_other _ _ (Ne.symm hb)
  have noRecord : ∀ b o, s.heap.get? b = some o → (∀ vs, o.data ≠ .fields vs) → b ≠ T := fun b o hb hnf q => by
    rw [q, hT] at hb; injection hb with hb; subst hb; exact hnf ts hdT
  refine HandSPX.wpAny_entryZ hZ hfr (hl.of_keeps fun b o hb hnf => ⟨o, (other b (noRecord b o hb hnf)).trans hb, rfl⟩) hf ((other a (Ne.symm hTe)).trans he)
    (fun b o hbo => (other b fun q => by rw [q, hnT] at hbo; cases hbo).trans (hkb b o hbo)) hen hd (Array.getElem?_eq_some_iff.mp h1).1 hz fun h' hN => ?_
  obtain ⟨x1, x2, x3, x4⟩ := hN
  exact hQ h' ⟨x1, hen, x2, x3⟩ fun b o hb hnf => x4 b o ((other b (noRecord b o hb hnf)).trans hb) hnf
theorem note_sky {Q : Unit → Shared → Prop} (hZ : HandSPX.Steady Z) (hfr : A.frames = some (env :: outer)) (hf : env.frame = some L) (hC : C ≠ L) (x : Sky B (env :: outer) a Z C s.heap)
    (hQ : ∀ h', HandSPX.HeldZ B (env :: outer) a Z L h' → s.heap.UpToSlots h' → Q () { s with heap := h' }) : wpAny M A (noteFrame (.ref a) env) Q E s := by
  rcases x with ⟨hB, hn, hl, oe, vs, he, hz, hd, h1⟩ | fl | hh
  · exact HandSPX.look_newZ hZ hfr hl hf he hB hn hd h1 hz hQ
  · exact HandSPX.looks_onZ hZ hfr hf fl hQ
  · obtain ⟨f1, f2, f3, f4⟩ := hh
    refine looks_anyZ hZ hfr hf f1 f2 f3 f4 ?_ hQ
    have : (C : Int) ≠ (L : Int) := fun e => hC (by exact_mod_cast e)
    simp [rawInt, this]
theorem held_without {h h' : Heap} {m m' : Str → Option Value} (hh : HandSPX.HeldZ B l a Z L h) (hn : h.Ns C m) (hn' : h'.Ns C m') (hs : Heap.SameBut C h h') {B' : Heap} (b1 : ∀ b, b ≠ C → B'.get? b = B.get? b) (b2 : B'.get? C = none) : HandSPX.HeldZ B' l a Z L h' := by
  obtain ⟨f1, f2, f3, f4⟩ := hh
  obtain ⟨oe, vs, T, oT, ts, he, hz, hd, h1, hnT, hTe, hT, hdT, h3⟩ := f4
  obtain ⟨oC, es, ep, hoC, hdC, _⟩ := id hn
  have aC : a ≠ C := fun z => by rw [z, hoC] at he; cases he; rw [hdC] at hd; cases hd
  have tC : T ≠ C := fun z => by rw [z, hoC] at hT; cases hT; rw [hdC] at hdT; cases hdT
  refine ⟨fun b o e => ?_, by rw [b1 a aC]; exact f2, funFrames_none (Heap.FunFrames.sameBut hs hn' f3) fun b hb => ?_, oe, vs, T, oT, ts, (hs.2 a aC).trans he, hz, hd, h1, by rw [b1 T tC]; exact hnT, hTe, (hs.2 T tC).trans hT, hdT, h3⟩
  · by_cases hb : b = C
    · rw [hb, b2] at e; cases e
    · exact (hs.2 b hb).trans (f1 b o (by rw [← b1 b hb]; exact e))
  · by_cases hc : b = C
    · rw [hc]; exact b2
    · rw [b1 b hc]; exact (f3.mem hb).1
end
end L2
namespace L2
open PySem PySem.Spec PyProof.Rows
abbrev WC (W : WX) (σ : St) : WX := fun c d _ H => W c d σ H
section
variable {X : Cx} {W : WX} {pins : List (Addr × Obj)} {σ : St} {H3 : Hp} {s3 : Shared} {scope : Scope} {ce : Env} {fp : List Addr}
abbrev Cx.bxe (X : Cx) (ce : Env) : Value → Shared → Prop := notedBy (model X.prog X.w) X.A ce (CompFails (model X.prog X.w) X.A X.xe ce)
theorem takes_blk (hs : X.stack = X.env :: X.outer) (hf : X.env.frame = some X.env.locals) (tk : Takes X W) (I3 : Inv X pins σ H3 s3) (cL : ce.locals = s3.heap.objs.size) (cF : ce.frame = X.env.frame) (f3 : ∀ b ∈ fp, FpOk X pins H3 b) :
    Takes ((X.blk s3 H3 scope ce fp).wish (X.bxe ce)) (WC W σ) := by
  rintro u s' ⟨a, B, sI, pins', σ', H', cls, d, rfl, I, nb, up, sky, na, os, ag, w⟩
  have I : Inv ((X.blk s3 H3 scope ce fp).wish (X.bxe ce)) pins' σ' H' sI := I
  show wpAny (model X.prog X.w) X.A (noteFrame (.ref a) ce) (fun _ s'' => CompFails (model X.prog X.w) X.A X.xe ce (.ref a) s'') _ s'
  rw [noteFrame_env _ cF]
  have hfr : X.A.frames = some (X.env :: X.outer) := by rw [I3.ok.frames, hs]
  have hCL : ce.locals ≠ X.env.locals := by rw [cL]; exact Nat.ne_of_gt I3.lt
  have sky : Sky B (X.env :: X.outer) a (Zc cls d) ce.locals s'.heap := by rw [← hs]; exact sky
  refine note_sky Zc.steady hfr hf hCL sky fun h1 hh up1 => ?_
  obtain ⟨m, hn, _⟩ := I.loc
  have hn : sI.heap.Ns ce.locals m := hn
  have hn1 : h1.Ns ce.locals m := (hn.upToSlots up).upToSlots up1
  refine ⟨m, hn1, fun h2 m2 hn2 hs2 => ?_⟩
  obtain ⟨B', b1, b2⟩ := restrict B fun b => decide (b ≠ ce.locals)
  have b1 : ∀ b, b ≠ ce.locals → B'.get? b = B.get? b := fun b hb => b1 b (by simpa using hb)
  have b2 : B'.get? ce.locals = none := b2 _ (by simp)
  have hh2 := held_without hh hn1 hn2 hs2 b1 b2
  obtain ⟨oe, vs, T, oT, ts, he, hz, hd, q1, hnT, hTe, hT, hdT, q3⟩ := hh2.2.2.2
  unfold PySem.passOn
  refine wpAny_bind (wpAny_field he hd q1 ?_)
  rw [if_neg (show ¬ ((Value.ref T == Value.none) = true) from by simp)]
  rw [cF, hf]
  refine wpAny_bind (HandSPX.setFlight_onZ hh2 fun h4 hh4 up4 => wpAny_throw ?_)
  obtain ⟨G, g1, g2⟩ := restrict sI.heap fun b => decide (b ≠ ce.locals)
  have g1 : ∀ b, b ≠ ce.locals → G.get? b = sI.heap.get? b := fun b hb => g1 b (by simpa using hb)
  have g2 : G.get? ce.locals = none := g2 _ (by simp)
  have ofG : ∀ b o, G.get? b = some o → b ≠ ce.locals ∧ sI.heap.get? b = some o := fun b o e => by
    have hb : b ≠ ce.locals := fun z => by rw [z, g2] at e; cases e
    exact ⟨hb, by rw [← g1 b hb]; exact e⟩
  have old : ∀ b o, s3.heap.get? b = some o → b ≠ ce.locals := fun b o e => by rw [cL]; exact Nat.ne_of_lt (Heap.lt_size e)
  have base := I.base
  have free : H' ce.locals = none := I.free
  have hokG : HOk X.prog X.w H' G := fun b o q => (I.hok b o q).stay (fun c u hc r => by
    rw [g1 c ?_]
    · exact r
    · intro z
      rcases hc with hc | hc
      · rw [← hc, z, free] at q; cases q
      · rw [z, free] at hc; cases hc) (fun _ r => r) fun _ _ r => r
  have J : Inv X pins σ H' { sI with heap := G } := by
    refine I3.call' (s' := { sI with heap := G }) (ch := fp) (show sI.os = s3.os from I.os) ⟨fun b o e n hb hx => ?_, fun b o e n hb hx => ?_, fun b o e n hx => base.free b o e n hx, fun b o e hx => ?_, base.tups, base.frzs, base.tbls⟩ hokG I.bare fun b hb => ⟨(f3 b hb).2.2.2.1, (f3 b hb).2.1, (f3 b hb).2.2.2.2.1, (f3 b hb).2.2.2.2.2⟩
    · show G.get? b = some o
      rw [g1 b (old b o e)]
      exact base.keep b o e n hb hx
    · obtain ⟨sl, q⟩ := base.slot b o e n hb hx
      exact ⟨sl, by show G.get? b = _; rw [g1 b (old b o e)]; exact q⟩
    · obtain ⟨o', q⟩ := base.there b o e hx
      exact ⟨o', by show G.get? b = _; rw [g1 b (old b o e)]; exact q⟩
  refine tk _ _ ⟨a, B', { sI with heap := G }, pins, σ, H', cls, d, rfl, J, fun b o e hb => ?_, fun b o e hnf => ?_, .inr (.inr (by rw [hs]; exact hh4)), na, os, ag, w⟩
  · obtain ⟨c1, c2⟩ := ofG b o e
    rw [b1 b c1]
    exact nb b o c2 hb
  · obtain ⟨c1, c2⟩ := ofG b o e
    obtain ⟨sl1, e1⟩ := up b o c2 hnf
    obtain ⟨sl2, e2⟩ := up1 b _ e1 hnf
    have e3 : h2.get? b = some _ := (hs2.2 b c1).trans e2
    obtain ⟨sl4, e4⟩ := up4 b _ e3 hnf
    exact ⟨sl4, e4⟩
end
end L2
namespace L2
open PySem PySem.Spec PyProof.Rows
section
variable {X : Cx}
def tLcX (wi : TI) (g : TG) (tt : TT) (te : St → TE) (vs : List Nat) : TE := fun σ H Q => tLc wi g tt (te σ) vs σ H Q
theorem ends_post {M : Model} {A : Around} {E : Value → Shared → Prop} {use : Option (Value → Sem Unit)} {Q : Value → Shared → Prop} {acc : Value} {C : Addr} {ce : Env} {f : Flow} {s' : Shared} (h : ce.locals = C) (p : compPost M A E use Q acc C (.ok f) s') : compEnds M A E use Q acc ce (.ok f) s' := by
  subst h
  cases use <;> exact p
theorem lc_coreX {pins : List (Addr × Obj)} {s : Shared} {σ : St} {H : Hp} {Q : VK} {elt tg iter : Expr} {ifs : List Expr} {scope : Scope} {own : List (Str × Nat)} {pos pos' : Pos} {wi : TI} {g : TG} {tt : TT} {te : St → TE} {W : WX} {use : Option (Value → Sem Unit)} {Qf : Value → Shared → Prop}
    (hst : X.stack = X.env :: X.outer) (hfl : X.env.frame = some X.env.locals) (tk : Takes X W) (hc : X.calm = true) (hN : X.N.Nodup) (I : Inv X pins σ H s) (hi : PI X tg iter wi) (ok : BlkOk X.N X.env.scope scope own)
    (hg : ∀ (s : Shared) (H : Hp) (C : Addr) (cl : List (Str × Addr)) (fp : List Addr), PG (X.blk s H scope (compEnvC scope cl C X.env) fp) tg g) (ht : ∀ (s : Shared) (H : Hp) (C : Addr) (cl : List (Str × Addr)) (fp : List Addr), PTs (X.blk s H scope (compEnvC scope cl C X.env) fp) ifs tt)
    (he : ∀ (σ0 : St) (s : Shared) (H : Hp) (C : Addr) (cl : List (Str × Addr)) (fp : List Addr) (xe : Value → Shared → Prop), Takes ((X.blk s H scope (compEnvC scope cl C X.env) fp).wish xe) (WC W σ0) → PE ((X.blk s H scope (compEnvC scope cl C X.env) fp).wish xe) elt (te σ0)) (hs : ∀ x, foldedSetIterable iter X.env x = pure x)
    (h : tLc wi g tt (te σ) (own.map (·.2)) σ H Q)
    (hRR : ∀ D C s' m H', Inv X pins σ H' s' → Q (.ref D) H' → s'.heap.Ns C m → FpOk X pins H' C → compPost (model X.prog X.w) X.A X.xe use Qf (.ref D) C (.ok .next) s') :
    wpAny (model X.prog X.w) X.A (comprehension (.ListComp elt [⟨tg, iter, ifs, 0⟩] scope pos) scope X.env pos' (newList []) false (eval iter X.env) use) Qf X.xe s := by
  have hfree : ∀ y ∈ scope.names, y.2 = .free → ∃ c, X.env.cells.lookup y.1 = some c := fun y hy e => by
    rcases ok.free y hy e with k | k
    · exact I.ok.has _ (.inl k)
    · exact I.ok.has _ (.inr k)
  refine comprehension_at (use := use) rfl hs (closure_ok hfree) ok.kind (fun y hy e => by rw [ok.uniq y hy, e])
    (thn (hi.run pins s σ H _ I h) fun xv s1 hx => thn hx fun itv s2 h2 => ?_)
  obtain ⟨it, fp, tn, J, H2, e, I2, T, st2, f2, q⟩ := h2
  subst e
  refine wpAny_newObj_type (newEnv_comp ?_) (by show 0 ≤ sizeLine; decide)
  generalize hD : s2.heap.objs.size = D
  have hDn : H2 D = none := I2.hok.fresh (Nat.le_of_eq hD)
  obtain ⟨W, ⟨m0, w0⟩, turn⟩ := q D hDn
  -- the new list
  generalize hs3 : ({ s2 with heap := s2.heap.push { cls := .type "list", data := .seq ([] : List Value).toArray } } : Shared) = s3
  have I3 : Inv X pins σ (upd H2 D (.lst [])) s3 := by
    rw [← hs3]
    refine I2.laid (t' := s2.toks) (fun b o e => Heap.get?_push_of_some _ e) (Nat.le_of_eq hD) ⟨Nat.zero_le _, [], 0, .nil, ?_⟩
    rw [← hD]
    exact Heap.get?_push_size _ rfl
  have h3 : s3.heap = s2.heap.push { cls := .type "list", data := .seq ([] : List Value).toArray } := by rw [← hs3]
  have sz : ∀ b ∈ fp, b < s2.heap.objs.size := fun b hb => by
    obtain ⟨o, e, _⟩ := T.obj _ _ st2 b hb
    exact Heap.lt_size e
  have f3 : ∀ b ∈ fp, FpOk X pins (upd H2 D (.lst [])) b ∧ b < s3.heap.objs.size := fun b hb => by
    have hlt := sz b hb
    refine ⟨⟨?_, (f2 b hb).2⟩, by rw [h3, Heap.size_push]; exact Nat.lt_succ_of_lt hlt⟩
    rw [upd_ne (by rw [← hD]; exact Nat.ne_of_lt hlt)]
    exact (f2 b hb).1
  have st3 : tn 0 s3.heap := T.keep _ _ _ st2 fun b _ o e => by rw [h3]; exact Heap.get?_push_of_some _ e
  have I4 := block_start I3 ok hN f3
  have pg := hg s3 (upd H2 D (.lst [])) s3.heap.objs.size (cellsFrom (s3.heap.objs.size + 1) scope.names (cloFrom X.env.cells scope.names [])) fp
  have pt := ht s3 (upd H2 D (.lst [])) s3.heap.objs.size (cellsFrom (s3.heap.objs.size + 1) scope.names (cloFrom X.env.cells scope.names [])) fp
  have pe := he σ s3 (upd H2 D (.lst [])) s3.heap.objs.size (cellsFrom (s3.heap.objs.size + 1) scope.names (cloFrom X.env.cells scope.names [])) fp (X.bxe (compEnvC scope (cellsFrom (s3.heap.objs.size + 1) scope.names (cloFrom X.env.cells scope.names [])) s3.heap.objs.size X.env)) (takes_blk hst hfl tk I3 rfl rfl fun b hb => (f3 b hb).1)
  show codeAny _ _ (.compStart (.ListComp elt [⟨tg, iter, ifs, 0⟩] scope pos) 0 (.ref it) (.ref D) (compEnvC scope (cellsFrom (s3.heap.objs.size + 1) scope.names (cloFrom X.env.cells scope.names [])) s3.heap.objs.size X.env)) (compEnds (model X.prog X.w) X.A X.xe use Qf (.ref D) (compEnvC scope (cellsFrom (s3.heap.objs.size + 1) scope.names (cloFrom X.env.cells scope.names [])) s3.heap.objs.size X.env)) { s3 with heap := pushCells (s3.heap.push { cls := .type "dict", data := .dict #[] }) scope.names }
  have nfp : ∀ b ∈ fp, (upd H2 D (.lst [])) b = none := fun b hb => (f3 b hb).1.1
  generalize hce : compEnvC scope (cellsFrom (s3.heap.objs.size + 1) scope.names (cloFrom X.env.cells scope.names [])) s3.heap.objs.size X.env = ce at I4 pg pt pe ⊢
  have cL : ce.locals = s3.heap.objs.size := by subst hce; rfl
  generalize hH3 : upd H2 D (.lst []) = H3 at I3 I4 pg pt pe w0 nfp f3
  generalize hs4 : ({ s3 with heap := pushCells (s3.heap.push { cls := .type "dict", data := .dict #[] }) scope.names } : Shared) = s4 at I4 ⊢
  have st4 : tn 0 s4.heap := T.keep _ _ _ st3 fun b _ o e => by rw [← hs4]; exact pushCells_keeps _ _ _ _ (Heap.get?_push_of_some _ e)
  have stat : ∀ {σ' : St} {H' : Hp} {s' : Shared}, Inv (X.blk s3 H3 scope ce fp) [] σ' H' s' → (∀ b ∈ fp, H' b = none) → ∀ b ∈ fp, FpOk (X.blk s3 H3 scope ce fp) [] H' b := fun {σ' H' s'} I' hn b hb =>
    ⟨hn b hb, (I'.ok.exf b hb).1, I'.ok.exfs b hb, .inl hb, fun x c e => (I'.ok.exf b hb).2 x c e, fun p hp => absurd (show p ∈ ([] : List (Addr × Obj)) ++ [] from hp) (by simp)⟩
  have loop : codeAny (model X.prog X.w) X.A (.compLoop (.ListComp elt [⟨tg, iter, ifs, 0⟩] scope pos) 0 (.ref it) (.ref D) ce) (compEnds (model X.prog X.w) X.A X.xe use Qf (.ref D) ce) s4 := by
    have eR : (fun e s' => compEnds (model X.prog X.w) X.A X.xe use Qf (.ref D) ce (.error e) s') = CompFails (model X.prog X.w) X.A X.xe ce := by funext e s'; cases use <;> rfl
    refine compLoop_any (fun n s' => ∃ i H', Inv (X.blk s3 H3 scope ce fp) [] (wipe σ (own.map (·.2))) H' s' ∧ tn i s'.heap ∧ (∀ b ∈ fp, H' b = none) ∧ W i n H') ?_ m0 ⟨0, H3, I4, st4, nfp, w0⟩
    rintro n s5 ⟨i, H5, I5, st5, n5, w5⟩
    rcases turn i n H5 w5 with ⟨stop, qq⟩ | ⟨go, Nx, hNx, step⟩
    · have td := T.done (X.blk s3 H3 scope ce fp) rfl rfl rfl hc i [] s5 _ H5 (fun _ _ => False) I5 (stat I5 n5) st5 stop
      refine thnF td fun r s6 ⟨hr, I6⟩ => ?_
      subst hr
      -- back in the def's context
      have I7 : Inv X pins σ H5 s6 := I3.call' (ch := fp) I6.os I6.base I6.hok I6.bare fun b hb => ⟨(f3 b hb).1.2.2.2.1, (f3 b hb).1.2.1, (f3 b hb).1.2.2.2.2.1, (f3 b hb).1.2.2.2.2.2⟩
      have nC : H5 s3.heap.objs.size = none := by
        have z : H5 ce.locals = none := I6.free
        rw [cL] at z
        exact z
      obtain ⟨m, hn, _⟩ := I6.loc
      have hn : s6.heap.Ns ce.locals m := hn
      rw [cL] at hn
      exact ends_post cL (hRR D s3.heap.objs.size s6 m H5 I7 qq hn (I3.fpOk (Nat.le_refl _) nC))
    · have ti := T.item (X.blk s3 H3 scope ce fp) rfl rfl rfl hc i [] s5 _ H5 (fun _ _ => False) I5 (stat I5 n5) st5 go
      refine thnF ti fun r s6 ⟨u, hr, h6⟩ => ?_
      subst hr
      refine thnF h6 fun _ s7 ⟨x, H7, I7, r7, y7, st7, n7⟩ => ?_
      have I7' := I7.pinned (stat I7 n7) (T.obj _ _ st7)
      refine thnF (pg.run _ s7 _ H7 x u _ I7' r7 (step x H7 y7)) fun _ s8 ⟨σ8, H8, I8, hw8, q8⟩ => ?_
      refine thnF (pt.run _ s8 σ8 H8 _ I8 q8) fun b s9 ⟨H9, I9, q9⟩ => ?_
      -- the turn's end
      have fin : ∀ {s' : Shared} {H' : Hp}, Inv (X.blk s3 H3 scope ce fp) ([] ++ pinsAt fp s7.heap) σ8 H' s' → Nx H' → ∃ m, m < n ∧ ∃ i H', Inv (X.blk s3 H3 scope ce fp) [] (wipe σ (own.map (·.2))) H' s' ∧ tn i s'.heap ∧ (∀ b ∈ fp, H' b = none) ∧ W i m H' := fun {s' H'} I' nx => by
        obtain ⟨m', hm, w'⟩ := hNx H' nx
        have pin' : ∀ b ∈ fp, ∀ o, s7.heap.get? b = some o → s'.heap.get? b = some o ∧ H' b = none := fun b hb o e =>
          let z := I'.pin (b, o) (List.mem_append_right _ (List.mem_append_right _ (mem_pinsAt hb e)))
          ⟨z.1, z.2.1⟩
        have hl : (wipe σ (own.map (·.2))).length = σ8.length := by rw [← hw8, wipe_length]
        refine ⟨m', hm, i + 1, H', (I'.unpinned (pins := [])).weak hl (fun j v e => ?_), T.keep _ _ _ st7 fun b hb o e => (pin' b hb o e).1, fun b hb => ?_, w'⟩
        · rw [← hw8] at e
          exact (wipe_some e).1
        · obtain ⟨o, e, _⟩ := T.obj _ _ st7 b hb
          exact (pin' b hb o e).2
      cases b with
      | false =>
        simp only [Bool.false_eq_true, if_false] at q9 ⊢
        exact fin I9 q9
      | true =>
        simp only [if_true] at q9 ⊢
        refine wpAny_mono (pe.run _ s9 σ8 H9 _ (I9.wish _) q9) (fun z s10 ⟨yv, H10, I10, r10, acc, hD10, hz10, nx⟩ => ?_) fun e s' q => by rw [eR]; exact q
        exact app_ok (X := X.blk s3 H3 scope ce fp) I10.unwish hD10 hz10 r10 fun s11 I11 => fin I11 nx
  exact codeAny_compStart_list loop (T.self X.A 0 _ _ _ st4 loop)
theorem pe_lcX {elt tg iter : Expr} {ifs : List Expr} {scope : Scope} {own : List (Str × Nat)} {pos : Pos} {wi : TI} {g : TG} {tt : TT} {te : St → TE} {W : WX} (hst : X.stack = X.env :: X.outer) (hfl : X.env.frame = some X.env.locals) (tk : Takes X W) (hc : X.calm = true) (hN : X.N.Nodup) (hi : PI X tg iter wi) (ok : BlkOk X.N X.env.scope scope own)
    (hg : ∀ (s : Shared) (H : Hp) (C : Addr) (cl : List (Str × Addr)) (fp : List Addr), PG (X.blk s H scope (compEnvC scope cl C X.env) fp) tg g) (ht : ∀ (s : Shared) (H : Hp) (C : Addr) (cl : List (Str × Addr)) (fp : List Addr), PTs (X.blk s H scope (compEnvC scope cl C X.env) fp) ifs tt)
    (he : ∀ (σ0 : St) (s : Shared) (H : Hp) (C : Addr) (cl : List (Str × Addr)) (fp : List Addr) (xe : Value → Shared → Prop), Takes ((X.blk s H scope (compEnvC scope cl C X.env) fp).wish xe) (WC W σ0) → PE ((X.blk s H scope (compEnvC scope cl C X.env) fp).wish xe) elt (te σ0)) (hs : ∀ x, foldedSetIterable iter X.env x = pure x := by intro _; rfl) :
    PE X (.ListComp elt [⟨tg, iter, ifs, 0⟩] scope pos) (tLcX wi g tt te (own.map (·.2))) := by
  refine ⟨fun pins s σ H Q I h => ?_⟩
  rw [eval_ListComp]
  refine lc_coreX hst hfl tk hc hN I hi ok hg ht he hs h fun D C s' m H' I' q hn f => ⟨m, hn, fun h'' sb => ?_⟩
  obtain ⟨f0, f1, f2, f3, f4, f5⟩ := f
  exact ⟨.ref D, H', I'.turned (t' := s'.toks) (fun b o hb e => (sb.2 b hb).trans e) f0 f1 f3 f4 f5, rfl, q⟩
theorem ps_setLcX {i : Nat} {y : Str} {py : Pos} {elt tg iter : Expr} {ifs : List Expr} {scope : Scope} {own : List (Str × Nat)} {pos spos : Pos} {wi : TI} {g : TG} {tt : TT} {te : St → TE} {W : WX} (hst : X.stack = X.env :: X.outer) (hfl : X.env.frame = some X.env.locals) (tk : Takes X W) (hc : X.calm = true) (hN : X.N.Nodup) (hy : X.N[i]? = some y) (hyl : X.env.scope.names.lookup y = some .local)
    (hsw : swapsWith (.ListComp elt [⟨tg, iter, ifs, 0⟩] scope pos) (some (.Name y py)) spos.line X.env = pure true) (hi : PI X tg iter wi) (ok : BlkOk X.N X.env.scope scope own)
    (hg : ∀ (s : Shared) (H : Hp) (C : Addr) (cl : List (Str × Addr)) (fp : List Addr), PG (X.blk s H scope (compEnvC scope cl C X.env) fp) tg g) (ht : ∀ (s : Shared) (H : Hp) (C : Addr) (cl : List (Str × Addr)) (fp : List Addr), PTs (X.blk s H scope (compEnvC scope cl C X.env) fp) ifs tt)
    (he : ∀ (σ0 : St) (s : Shared) (H : Hp) (C : Addr) (cl : List (Str × Addr)) (fp : List Addr) (xe : Value → Shared → Prop), Takes ((X.blk s H scope (compEnvC scope cl C X.env) fp).wish xe) (WC W σ0) → PE ((X.blk s H scope (compEnvC scope cl C X.env) fp).wish xe) elt (te σ0)) (hs : ∀ x, foldedSetIterable iter X.env x = pure x := by intro _; rfl) :
    PS X (.Assign [.Name y py] (.ListComp elt [⟨tg, iter, ifs, 0⟩] scope pos) spos) (tAsg (tLcX wi g tt te (own.map (·.2))) (gName i)) := by
  refine ⟨fun pins s σ H D I h => ?_⟩
  rw [exec_Assign_Name_used _ _ _ _ hsw]
  refine wpAny_bind (wpAny_standAt (wpAny_bind ?_))
  show wpAny _ X.A (do let _ ← comprehension (.ListComp elt [⟨tg, iter, ifs, 0⟩] scope pos) scope X.env (firstIterPos [⟨tg, iter, ifs, 0⟩] pos) (newList []) false (eval iter X.env) (some (assign (.Name y py) X.env))) _ _ s
  have h : tLcX wi g tt te (own.map (·.2)) σ H (fun x H1 => gName i x σ H1 D.nx) := h
  refine wpAny_bind (thn (lc_coreX (Qf := fun _ s' => SP X pins D .next s') hst hfl tk hc hN I hi ok hg ht he hs h fun L C s' m H' I' q hn f => ?_) fun _ s' hq => wpAny_pure (wpAny_pure hq))
  show wpAny _ _ (assign (.Name y py) X.env (.ref L)) _ _ _
  refine wpAny_assign_Name (store_ok2 (v := V.ref L) I' hN hy (.inl hyl) rfl (fun s2 I2 ⟨a, sb, ha⟩ => ?_) (.inr hyl))
  obtain ⟨f0, f1, f2, f3, f4, f5⟩ := f
  have haC : C ≠ a := by
    rcases ha with z | z
    · rw [z]; exact f1
    · exact fun e => f4 y a z e.symm
  refine ⟨m, hn.sameBut sb haC, fun h3 sb3 => ?_⟩
  exact ⟨_, H', I2.turned (t' := s2.toks) (fun b o hb e => (sb3.2 b hb).trans e) f0 f1 f3 f4 f5, q⟩
end
end L2
namespace Mn
open PySem PySem.Spec PyProof.Rows L2
def compTX (g : MG) (t : MT) (e : ME) (x : MV) (acc : List MV) (env : MEnv) (h : MH) : Out (List MV) :=
  (g x env h).nox.bind fun env h => (t env h).nox.bind fun c h => if c = true then (e env h).bind fun y h => if acc.length < sizeLine then .ok (acc ++ [y]) h else .stuck else .ok acc h
def compLX (g : MG) (t : MT) (e : ME) (env : MEnv) : List MV → List MV → MH → Out (List MV)
  | [], acc, h => .ok acc h
  | x :: xs, acc, h => (compTX g t e x acc env h).bind fun acc h => compLX g t e env xs acc h
def compRX (g : MG) (t : MT) (e : ME) (env : MEnv) (n : Nat) : Nat → Nat → List MV → MH → Out (List MV)
  | 0, _, _, _ => .stuck
  | f + 1, i, acc, h => match h[n]? with
    | some (.lst xs) => match xs[i]? with
      | none => .ok acc h
      | some x => (compTX g t e x acc env h).bind fun acc h => compRX g t e env n f (i + 1) acc h
    | _ => .stuck
def mCompX (b : Bool) (it : MIt) (g : MG) (t : MT) (e : ME) (vs : List Nat) : ME := fun env h => (it env h).bind fun iv h => match iv with
  | .st xs => (compLX g t e (wipeM env vs) xs [] h).bind fun ys h => retL b ys h
  | .lv n => (compRX g t e (wipeM env vs) n big 0 [] h).bind fun ys h => retL b ys h
section
variable {Γ : Gm} {K : PySem.W.Frag} {X : Cx} {W : WX} {S : Sh} {H : Hp} {h : MH}
theorem comp_turnX {tgt : TG} {g : MG} {mtt : MT} {mee : ME} {vs : List Nat} (eg : ExG Γ K W0 tgt g) (hw : TgW tgt vs) {D : Addr} {S1 : Sh} {H1 : Hp} {acc : List MV} {x : MV} {v : V} {σ : L2.St} {env : MEnv} {Q : VK} {f : List MV → MH → Out MV}
    (hn : H1 D = none) (a : AtD Γ K D S1 H1 acc S h H) (G : REnv Γ K S env σ) (rv : Rep Γ K S x v) {Nx : Hp → Prop}
    (p : Post Γ K (Rep Γ K) S1 H1 Q (WE' W σ) ((compTX g mtt mee x acc (wipeM env vs) h).bind f))
    (hk : ∀ acc1 h1 S' H', compTX g mtt mee x acc (wipeM env vs) h = .ok acc1 h1 → AtD Γ K D S1 H1 acc1 S' h1 H' → (∀ env' σ', REnv Γ K S env' σ' → REnv Γ K S' env' σ') → Nx H') :
    tgt v (L2.wipe σ vs) H fun σ2 H2 => L2.wipe σ2 vs = L2.wipe σ vs ∧ tOfT Γ K W0 mtt σ2 H2 fun b H3 => if b = true then tOf Γ K (L2.WC W σ) mee σ2 H3 fun y H4 => ∃ acc, H4 D = some (.lst acc) ∧ acc.length < sizeLine ∧ Nx (upd H4 D (.lst (acc ++ [y]))) else Nx H3 := by
  unfold compTX at p hk
  refine hw v σ (L2.wipe σ vs) H _ (wipe_wipe fun _ hv => hv) ?_
  cases z1 : g x (wipeM env vs) h with
  | exc C xs h2 => rw [z1] at p; exact p.elim
  | stuck => rw [z1] at p; exact p.elim
  | ok env2 h2 =>
    rw [z1] at p hk
    refine eg S H h _ _ x v _ a.rel (G.wipe vs) rv ?_
    rw [z1]
    intro S2 H2 σ2 e2 R2 G2
    have a2 := a.step e2 R2
    cases z2 : mtt env2 h2 with
    | exc C xs h2 => simp only [z2, Out.nox, Out.bind] at p; exact p.elim
    | stuck => simp only [z2, Out.nox, Out.bind] at p; exact p.elim
    | ok bb h3 =>
      simp only [z2, Out.nox, Out.bind] at p hk
      refine ⟨S2, h2, env2, R2, G2, ?_⟩
      rw [z2]
      intro S3 H3 b' e3 R3 eb'
      have eb'' : b' = bb := eb'
      subst eb''
      have a3 := a2.step e3 R3
      cases b' with
      | false =>
        rw [if_neg Bool.false_ne_true] at hk ⊢
        exact hk _ _ S3 H3 rfl a3 fun env' σ' g => (g.mono e2).mono e3
      | true =>
        rw [if_pos rfl] at p hk ⊢
        refine ⟨S3, h3, env2, R3, G2.mono e3, ?_⟩
        cases z3 : mee env2 h3 with
        | exc C xs h4 =>
          simp only [z3] at p
          exact fun S' H' dd e r q => p S' H' dd (a3.ext.trans e) r q
        | stuck => simp only [z3] at p; exact p.elim
        | ok y h4 =>
          simp only [z3] at p hk
          intro S4 H4 w e4 R4 r4
          by_cases hlen : acc.length < sizeLine
          · obtain ⟨us, q1, q2, q3⟩ := (a3.step e4 R4).push hn r4
            exact ⟨us, q1, by rw [q2]; exact hlen, hk _ _ S4 _ (by rw [if_pos hlen]) q3 fun env' σ' g => ((g.mono e2).mono e3).mono e4⟩
          · rw [if_neg hlen] at p; exact p.elim
theorem bind_assoc_ok {α β γ : Type} {o : Out α} {f : α → MH → Out β} {k : β → MH → Out γ} : (o.bind f).bind k = o.bind fun a h => (f a h).bind k := by cases o <;> rfl
theorem ex_compX {bb : Bool} {wi : TI} {mi : MIt} {tgt : TG} {g : MG} {mtt : MT} {mee : ME} {vs : List Nat} (ei : ExI Γ K W wi mi) (eg : ExG Γ K W0 tgt g) (hw : TgW tgt vs) : ExE Γ K W (L2.tLcX wi tgt (tOfT Γ K W0 mtt) (fun σ => tOf Γ K (L2.WC W σ) mee) vs) (mCompX bb mi g mtt mee vs) := by
  intro S H h σ env Q R G p
  show L2.tLc wi tgt (tOfT Γ K W0 mtt) (tOf Γ K (L2.WC W σ) mee) vs σ H Q
  refine ei S H h σ env _ R G ?_
  unfold mCompX at p
  cases z : mi env h with
  | exc C xs h1 => rw [z] at p; exact p
  | stuck => rw [z] at p; exact p
  | ok iv h1 =>
    rw [z] at p
    cases iv with
    | st xs =>
      intro S1 H1 J e1 R1 it D hn
      have G1 := G.mono e1
      have p1 : Post Γ K (Rep Γ K) S1 H1 Q (WE' W σ) ((compLX g mtt mee (wipeM env vs) xs [] h1).bind fun ys h => retL bb ys h) := Post.ext p e1
      clear p
      refine ⟨fun i m H' => m = xs.length - i ∧ i ≤ xs.length ∧ ∃ S' h' acc, AtD Γ K D S1 H1 acc S' h' H' ∧ REnv Γ K S' env σ ∧ Post Γ K (Rep Γ K) S1 H1 Q (WE' W σ) ((compLX g mtt mee (wipeM env vs) (xs.drop i) acc h').bind fun ys h => retL bb ys h), ⟨xs.length, by simp, Nat.zero_le _, S1, h1, [], AtD.begin R1 hn, G1, p1⟩, ?_⟩
      rintro i m H2 ⟨rfl, hi, S2, h2, acc, a2, G2, p2⟩
      obtain ⟨it1, it2⟩ := it S2 h2 H2 i a2.ext.hs a2.ext.ix a2.rel
      by_cases hlt : i < xs.length
      · have hx : xs[i]? = some xs[i] := List.getElem?_eq_getElem hlt
        obtain ⟨go, yl⟩ := it2 _ hx
        rw [List.drop_eq_getElem_cons hlt] at p2
        unfold compLX at p2
        rw [bind_assoc_ok] at p2
        refine .inr ⟨go, fun H' => ∃ S' h' acc, AtD Γ K D S1 H1 acc S' h' H' ∧ REnv Γ K S' env σ ∧ Post Γ K (Rep Γ K) S1 H1 Q (WE' W σ) ((compLX g mtt mee (wipeM env vs) (xs.drop (i + 1)) acc h').bind fun ys h => retL bb ys h), fun H' w => ⟨xs.length - (i + 1), by omega, rfl, hlt, w⟩, fun v H' y => ?_⟩
        obtain ⟨rfl, rv⟩ := yl v H' y
        exact comp_turnX eg hw hn a2 G2 rv p2 fun acc3 h3 S' H' zc a' mono => ⟨S', h3, acc3, a', mono _ _ G2, by rw [zc] at p2; exact p2⟩
      · have hz : xs[i]? = none := List.getElem?_eq_none_iff.mpr (by omega)
        have hd : xs.drop i = [] := List.drop_eq_nil_iff.mpr (by omega)
        rw [hd] at p2
        exact .inl ⟨it1 hz, a2.end_ hn p2⟩
    | lv n =>
      intro S1 H1 J e1 R1 it D hn
      have G1 := G.mono e1
      have p1 : Post Γ K (Rep Γ K) S1 H1 Q (WE' W σ) ((compRX g mtt mee (wipeM env vs) n big 0 [] h1).bind fun ys h => retL bb ys h) := Post.ext p e1
      clear p
      refine ⟨fun i m H' => ∃ S' h' acc, AtD Γ K D S1 H1 acc S' h' H' ∧ REnv Γ K S' env σ ∧ Post Γ K (Rep Γ K) S1 H1 Q (WE' W σ) ((compRX g mtt mee (wipeM env vs) n m i acc h').bind fun ys h => retL bb ys h), ⟨big, S1, h1, [], AtD.begin R1 hn, G1, p1⟩, ?_⟩
      rintro i m H2 ⟨S2, h2, acc, a2, G2, p2⟩
      cases m with
      | zero => exact p2.elim
      | succ m =>
        unfold compRX at p2
        split at p2
        · rename_i xs hxs
          obtain ⟨it1, it2⟩ := it S2 h2 H2 i xs a2.ext.hs a2.ext.ix a2.rel hxs
          split at p2
          · rename_i hz
            exact .inl ⟨it1 hz, a2.end_ hn p2⟩
          · rename_i x hx
            obtain ⟨go, yl⟩ := it2 _ hx
            rw [bind_assoc_ok] at p2
            refine .inr ⟨go, fun H' => ∃ S' h' acc, AtD Γ K D S1 H1 acc S' h' H' ∧ REnv Γ K S' env σ ∧ Post Γ K (Rep Γ K) S1 H1 Q (WE' W σ) ((compRX g mtt mee (wipeM env vs) n m (i + 1) acc h').bind fun ys h => retL bb ys h), fun H' w => ⟨m, Nat.lt_succ_self m, w⟩, fun v H' y => ?_⟩
            obtain ⟨rfl, rv⟩ := yl v H' y
            exact comp_turnX eg hw hn a2 G2 rv p2 fun acc3 h3 S' H' zc a' mono => ⟨S', h3, acc3, a', mono _ _ G2, by rw [zc] at p2; exact p2⟩
        · exact p2.elim
variable {elt iter tg : Expr} {ifs : List Expr} {scope : Scope} {own : List (Str × Nat)} {mi : MIt} {mee : ME} {mtt : MT} {g : MG} {tgt : TG} {pos : Pos}
theorem se_compX (bb : Bool) (hst : X.stack = X.env :: X.outer) (hfl : X.env.frame = some X.env.locals) (tk : Takes X W) (hc : X.calm = true) (hN : X.N.Nodup) (hi : SI Γ X W tg iter mi) (ok : BlkOk X.N X.env.scope scope own) (hg : TgOk X.K X scope (own.map (·.2)) tg tgt g)
    (ht : ∀ (s : Shared) (H : Hp) (C : Addr) (cl : List (Str × Addr)) (fp : List Addr), STs Γ (X.blk s H scope (compEnvC scope cl C X.env) fp) W0 ifs mtt)
    (he : ∀ (σ0 : L2.St) (s : Shared) (H : Hp) (C : Addr) (cl : List (Str × Addr)) (fp : List Addr) (xe : Value → Shared → Prop), Takes ((X.blk s H scope (compEnvC scope cl C X.env) fp).wish xe) (L2.WC W σ0) → SE Γ ((X.blk s H scope (compEnvC scope cl C X.env) fp).wish xe) (L2.WC W σ0) elt mee)
    (hs : ∀ x, foldedSetIterable iter X.env x = pure x := by intro _; rfl) : SE Γ X W (.ListComp elt [⟨tg, iter, ifs, 0⟩] scope pos) (mCompX bb mi g mtt mee (own.map (·.2))) := by
  obtain ⟨wi, pi, ei⟩ := hi.ex
  cases hg with
  | nm h1 h2 => exact ⟨_, L2.pe_lcX hst hfl tk hc hN pi ok h2 (fun s H C cl fp => (ht s H C cl fp).run) (fun σ0 s H C cl fp xe tk => (he σ0 s H C cl fp xe tk).of) hs, ex_compX ei exg_name (tgw_name h1)⟩
  | tp h1 hn h2 => exact ⟨_, L2.pe_lcX hst hfl tk hc hN pi ok h2 (fun s H C cl fp => (ht s H C cl fp).run) (fun σ0 s H C cl fp xe tk => (he σ0 s H C cl fp xe tk).of) hs, ex_compX ei (exg_tup hn) (tgw_tup h1)⟩
theorem ss_setLcX (bb : Bool) (i : Nat) {y : Str} {py spos : Pos} (hst : X.stack = X.env :: X.outer) (hfl : X.env.frame = some X.env.locals) (tk : Takes X W) (hc : X.calm = true) (hN : X.N.Nodup) (hsw : swapsWith (.ListComp elt [⟨tg, iter, ifs, 0⟩] scope pos) (some (.Name y py)) spos.line X.env = pure true) (hi : SI Γ X W tg iter mi) (ok : BlkOk X.N X.env.scope scope own) (hg : TgOk X.K X scope (own.map (·.2)) tg tgt g)
    (ht : ∀ (s : Shared) (H : Hp) (C : Addr) (cl : List (Str × Addr)) (fp : List Addr), STs Γ (X.blk s H scope (compEnvC scope cl C X.env) fp) W0 ifs mtt)
    (he : ∀ (σ0 : L2.St) (s : Shared) (H : Hp) (C : Addr) (cl : List (Str × Addr)) (fp : List Addr) (xe : Value → Shared → Prop), Takes ((X.blk s H scope (compEnvC scope cl C X.env) fp).wish xe) (L2.WC W σ0) → SE Γ ((X.blk s H scope (compEnvC scope cl C X.env) fp).wish xe) (L2.WC W σ0) elt mee)
    (hy : X.N[i]? = some y := by rfl) (hl : X.env.scope.names.lookup y = some .local := by rfl)
    (hs : ∀ x, foldedSetIterable iter X.env x = pure x := by intro _; rfl) : SS Γ X W (.Assign [.Name y py] (.ListComp elt [⟨tg, iter, ifs, 0⟩] scope pos) spos) (sSet i (mCompX bb mi g mtt mee (own.map (·.2)))) := by
  obtain ⟨wi, pi, ei⟩ := hi.ex
  have fin : ∀ {t : TE}, ExE Γ X.K W t (mCompX bb mi g mtt mee (own.map (·.2))) → ExS Γ X.K W (tAsg t (gName i)) (sSet i (mCompX bb mi g mtt mee (own.map (·.2)))) := fun {t} et S H h σ env D R G p => exES (t := t) et R G p fun d h1 S1 H1 v e1 R1 G1 r1 p1 => p1 S1 H1 _ (Ext.refl _ _) R1 (G1.set r1 i)
  cases hg with
  | nm h1 h2 => exact ⟨_, L2.ps_setLcX hst hfl tk hc hN hy hl hsw pi ok h2 (fun s H C cl fp => (ht s H C cl fp).run) (fun σ0 s H C cl fp xe tk => (he σ0 s H C cl fp xe tk).of) hs, fin (ex_compX ei exg_name (tgw_name h1))⟩
  | tp h1 hn h2 => exact ⟨_, L2.ps_setLcX hst hfl tk hc hN hy hl hsw pi ok h2 (fun s H C cl fp => (ht s H C cl fp).run) (fun σ0 s H C cl fp xe tk => (he σ0 s H C cl fp xe tk).of) hs, fin (ex_compX ei (exg_tup hn) (tgw_tup h1))⟩
end
end Mn
set_option Elab.async false
set_option linter.all false
set_option maxRecDepth 100000
namespace Mn
open PySem PySem.Spec PyProof.Rows L2
end Mn
set_option Elab.async false
set_option linter.all false
set_option maxRecDepth 100000
namespace Mn
open PySem PySem.Spec PyProof.Rows L2
section
variable {Γ : Gm} {K : PySem.W.Frag} {S : Sh} {H : Hp} {Q : VK} {E : XK}
theorem repL_strs' : ∀ {ns : List Str}, RepL Γ K S (ns.map MV.str) (ns.map V.str)
  | [] => by unfold RepL; rfl
  | n :: ns => by
    show RepL Γ K S (.str n :: ns.map MV.str) (.str n :: ns.map V.str)
    unfold RepL
    exact ⟨_, _, rfl, is_str, repL_strs'⟩
def fStr : MF
  | [.int i], h => if i.natAbs.log2 < 1920 then .ok (.str (toString i)) h else .stuck
  | _, _ => .stuck
theorem lift_str : LiftF Γ K (fun xs H Q => ∃ i, xs = [V.int i] ∧ i.natAbs.log2 < 1920 ∧ Q (.str (toString i)) H) fStr := by
  intro S H h xs us Q E R r p
  unfold fStr at p
  split at p
  · obtain ⟨v, rfl, q1⟩ := repL_1 r
    split at p
    · rename_i k
      exact ⟨_, by rw [rep_int q1], k, p.val R is_str⟩
    · exact p.elim
  · exact p.elim
def fIntT : MF
  | [.str a], h => match PySem.intText? a with
    | some n => if a.length ≤ 640 then .ok (.int n) h else .stuck
    | none => .stuck
  | _, _ => .stuck
theorem lift_intT : LiftF Γ K (fun xs H Q => ∃ a n, xs = [V.str a] ∧ PySem.intText? a = some n ∧ a.length ≤ 640 ∧ Q (.int n) H) fIntT := by
  intro S H h xs us Q E R r p
  unfold fIntT at p
  split at p
  · obtain ⟨v, rfl, q1⟩ := repL_1 r
    split at p
    · rename_i n hn
      split at p
      · rename_i k
        exact ⟨_, n, by rw [rep_str q1], hn, k, p.val R is_int⟩
      · exact p.elim
    · exact p.elim
  · exact p.elim
def fSplit (b : Bool) : MV → List MV → MH → Out MV
  | .str a, [.str c], h => if (c.length == 0) = false ∧ a.length + 2 ≤ sizeLine then retL b ((Txt.split a c).map MV.str) h else .stuck
  | _, _, _ => .stuck
theorem lift_split {b : Bool} : LiftM Γ K (fun x xs H Q => ∃ a c, x = .str a ∧ xs = [.str c] ∧ (c.length == 0) = false ∧ a.length + 2 ≤ sizeLine ∧ rNewStrs (Txt.split a c) H Q) (fSplit b) := by
  intro S H h x u xs us Q E R rx rs p
  unfold fSplit at p
  split at p
  · rename_i a c
    obtain ⟨v, rfl, q1⟩ := repL_1 rs
    split at p
    · rename_i k
      exact ⟨a, c, rep_str rx, by rw [rep_str q1], k.1, k.2, newL R repL_strs' p⟩
    · exact p.elim
  · exact p.elim
def fInS (neg : Bool) : MV → MV → MH → Out MV
  | .str ⟨⟨[c]⟩⟩, .str z, h => .ok (.bl (if neg = true then !decide (c ∈ z.cps.toList) else decide (c ∈ z.cps.toList))) h
  | _, _, _ => .stuck
theorem lift_notInS : Lift2 Γ K (fun x y H Q => ∃ (c : Nat) (z : Str), x = .str ⟨#[c]⟩ ∧ y = .str z ∧ Q (.bl (!decide (c ∈ z.cps.toList))) H) (fInS true) := by
  intro S H h x y u v Q E R rx ry p
  unfold fInS at p
  split at p
  · exact ⟨_, _, rep_str rx, rep_str ry, p.val R is_bl⟩
  · exact p.elim
end
section
variable {Γ : Gm} {X : Cx} {W : WX} {o e : Expr} {es : List Expr} {mo : ME} {ms : MA} {p apos cpos pos : Pos}
theorem sb_str (hm : X.mg "str" = none) (ha : SA Γ X W (e :: es) ms) (hg : Gl X "str" := by rfl) (he : starEach (e :: es) X.env = (false, eval e X.env) :: starEach es X.env := by rfl) (hpl : (backTo pos (starEach es X.env)).any (·.1) = false := by rfl) : SE Γ X W (.Call (.Name "str" p) (e :: es) [] pos) (mF fStr ms) :=
  se_callTy call_str_int lift_str hg hm bt_str ha (by decide) (by decide) he hpl
theorem sb_intT (hm : X.mg "int" = none) (ha : SA Γ X W (e :: es) ms) (hg : Gl X "int" := by rfl) (he : starEach (e :: es) X.env = (false, eval e X.env) :: starEach es X.env := by rfl) (hpl : (backTo pos (starEach es X.env)).any (·.1) = false := by rfl) : SE Γ X W (.Call (.Name "int" p) (e :: es) [] pos) (mF fIntT ms) :=
  se_callTy call_int_str lift_intT hg hm bt_int ha (by decide) (by decide) he hpl
theorem sm_split (b : Bool) (ho : SE Γ X W o mo) (ha : SA Γ X W (e :: es) ms) (hbase : attributeBase o "split" X.env (eval o X.env) = eval o X.env := by rfl)
    (hfew : ((backTo cpos (starEach (e :: es) X.env)).all (fun x => !x.1) && (backToKw cpos (keywordEach [] X.env)).all (fun x => x.1.isSome)
      && decide ((e :: es).length + ([] : List Keyword).length + (if ([] : List Keyword).isEmpty then 0 else 1) < 30)) = true := by rfl)
    (hline : (apos.endLine == cpos.line) = true := by rfl) (hs : starEach (e :: es) X.env = (false, eval e X.env) :: starEach es X.env := by rfl) (hplain : (backTo cpos (starEach es X.env)).any (·.1) = false := by rfl) : SE Γ X W (.Call (.Attribute o "split" apos) (e :: es) [] cpos) (mM "str" (fSplit b) mo ms) :=
  se_m PySem.F.plainAttrs_str PySem.F.slot_str_split PySem.F.type_str_split mt_split lift_split ho ha hbase hfew hline hs hplain
end
def fSplitC (b : Bool) (a : Str) : MV → MH → Out MV := fun x h => fSplit b x [.str a] h
theorem mM_split {b : Bool} {a : Str} {e : ME} : mM "str" (fSplit b) e (maC (mC (.str a)) maN) = m1 (fSplitC b a) e := by
  funext env h
  unfold mM mC maC maN m1
  simp only [Out.bind]
  cases e env h with
  | ok x h1 =>
    simp only
    cases x <;> first | rfl | (unfold tyChk fSplitC fSplit; simp)
  | exc C us h1 => rfl
  | stuck => rfl
end Mn
set_option Elab.async false
set_option linter.all false
set_option maxRecDepth 100000
namespace Mn
open PySem PySem.Spec PyProof.Rows L2
section
variable {Γ : Gm} {K : PySem.W.Frag}
variable {X : Cx} {W : WX} {o e : Expr} {es : List Expr} {mo : ME} {ms : MA} {apos cpos : Pos}
end
end Mn
set_option Elab.async false
set_option linter.all false
set_option maxRecDepth 100000
namespace Mn
open PySem PySem.Spec PyProof.Rows L2
theorem MkDef.mg {K : PySem.W.Frag} {mg : Str → Option Value} {Γ : Gm} {C qual : Str} {st : Stmt} {ps : List Str} (D : MkDef K mg Γ C qual st ps) : mg C = some (.ref (Γ.cls C)) := by
  obtain ⟨_, _, _, _, _, h⟩ := D.ex
  exact h
section
variable {Γ : Gm} {X : Cx} {W : WX}
end
end Mn
set_option Elab.async false
set_option linter.all false
set_option maxRecDepth 100000
set_option maxHeartbeats 4000000
namespace K44
open PySem PySem.Spec PyProof.Rows L2 Mn
def tabC : CTab := [("Machine", ["inputs", "outputs", "lead", "opening", "rows"])]
def topS (i : Nat) : Stmt := PySem.Challenge.pw_reactivesynth_k44_machine_text_refused.main.body.getD i (.Pass ⟨0, 0, 0, 0⟩)
abbrev s_law_draws : Stmt := topS 18
theorem sc_law_draws : FnScope ["_law_script", "_law_count", "_law_cells", "_law_found", "_law_mixed", "_law_k", "_law_j", "_law_cell", "_law_again"] ["_law_script", "_law_count"] (defScope s_law_draws) := ⟨rfl, rfl, rfl, by decide +kernel, rfl, by decide +kernel, by decide +kernel⟩
abbrev s_law_take : Stmt := topS 19
theorem sc_law_take : FnScope ["_law_draws_here", "_law_limit"] ["_law_draws_here", "_law_limit"] (defScope s_law_take) := ⟨rfl, rfl, rfl, by decide +kernel, rfl, by decide +kernel, by decide +kernel⟩
abbrev s_law_machine : Stmt := topS 22
theorem sc_law_machine : FnScope ["_law_draws_here", "_law_inputs", "_law_outputs", "_law_lead_here", "_law_most", "_law_count", "_law_opening", "_law_k", "_law_rows", "_law_state", "_law_row", "_law_letter", "_law_target"] ["_law_draws_here", "_law_inputs", "_law_outputs", "_law_lead_here", "_law_most"] (defScope s_law_machine) := ⟨rfl, rfl, rfl, by decide +kernel, rfl, by decide +kernel, by decide +kernel⟩
abbrev s_law_machine_text : Stmt := topS 24
theorem sc_law_machine_text : FnScope ["_law_inputs", "_law_outputs", "_law_lead_here", "_law_opening", "_law_rows", "_law_text", "_law_letter", "_law_row", "_law_pair"] ["_law_inputs", "_law_outputs", "_law_lead_here", "_law_opening", "_law_rows"] (defScope s_law_machine_text) := ⟨rfl, rfl, rfl, by decide +kernel, rfl, by decide +kernel, by decide +kernel⟩
abbrev s_law_change : Stmt := topS 30
theorem sc_law_change : FnScope ["_law_draws_here", "_law_text", "_law_kind", "_law_at", "_law_chars", "_law_sign", "_law_lines", "_law_k"] ["_law_draws_here", "_law_text"] (defScope s_law_change) := ⟨rfl, rfl, rfl, by decide +kernel, rfl, by decide +kernel, by decide +kernel⟩
abbrev s_law_number : Stmt := topS 26
theorem sc_law_number : FnScope ["_law_word", "_law_char"] ["_law_word"] (defScope s_law_number) := ⟨rfl, rfl, rfl, by decide +kernel, rfl, by decide +kernel, by decide +kernel⟩
abbrev s_law_lead : Stmt := topS 27
theorem sc_law_lead : FnScope ["_law_word"] ["_law_word"] (defScope s_law_lead) := ⟨rfl, rfl, rfl, by decide +kernel, rfl, by decide +kernel, by decide +kernel⟩
abbrev s_law_pairs : Stmt := topS 28
theorem sc_law_pairs : FnScope ["_law_line", "_law_found", "_law_word", "_law_numbers"] ["_law_line"] (defScope s_law_pairs) := ⟨rfl, rfl, rfl, by decide +kernel, rfl, by decide +kernel, by decide +kernel⟩
abbrev s_law_read : Stmt := topS 29
theorem sc_law_read : FnScope ["_law_text", "_law_lines", "_law_first", "_law_second", "_law_inputs", "_law_outputs", "_law_lead_here", "_law_opening", "_law_word", "_law_letter", "_law_rows", "_law_line", "_law_row", "_law_pair"] ["_law_text"] (defScope s_law_read) := ⟨rfl, rfl, rfl, by decide +kernel, rfl, by decide +kernel, by decide +kernel⟩
abbrev s_read_words : Stmt := topS 14
theorem sc_read_words : FnScope ["line", "first", "words"] ["line", "first"] (defScope s_read_words) := ⟨rfl, rfl, rfl, by decide +kernel, rfl, by decide +kernel, by decide +kernel⟩
abbrev s_read_number : Stmt := topS 12
theorem sc_read_number : FnScope ["word", "char"] ["word"] (defScope s_read_number) := ⟨rfl, rfl, rfl, by decide +kernel, rfl, by decide +kernel, by decide +kernel⟩
abbrev s_read_lead : Stmt := topS 13
theorem sc_read_lead : FnScope ["word"] ["word"] (defScope s_read_lead) := ⟨rfl, rfl, rfl, by decide +kernel, rfl, by decide +kernel, by decide +kernel⟩
abbrev s_read_pair : Stmt := topS 15
theorem sc_read_pair : FnScope ["word", "numbers"] ["word"] (defScope s_read_pair) := ⟨rfl, rfl, rfl, by decide +kernel, rfl, by decide +kernel, by decide +kernel⟩
abbrev s_all_below : Stmt := topS 6
theorem sc_all_below : FnScope ["numbers", "limit", "number"] ["numbers", "limit"] (defScope s_all_below) := ⟨rfl, rfl, rfl, by decide +kernel, rfl, by decide +kernel, by decide +kernel⟩
abbrev s_Machine_init : Stmt := inClass (topS 8) 0
theorem sc_Machine_init : FnScope ["self", "inputs", "outputs", "lead", "opening", "rows", "valid", "row", "pair"] ["self", "inputs", "outputs", "lead", "opening", "rows"] (defScope s_Machine_init) := ⟨rfl, rfl, rfl, by decide +kernel, rfl, by decide +kernel, by decide +kernel⟩
abbrev s_parse_machine : Stmt := topS 16
theorem sc_parse_machine : FnScope ["text", "lines", "sizes", "inputs", "outputs", "lead", "opening", "word", "rows", "line"] ["text"] (defScope s_parse_machine) := ⟨rfl, rfl, rfl, by decide +kernel, rfl, by decide +kernel, by decide +kernel⟩
abbrev s_law_outcome : Stmt := topS 25
theorem sc_law_outcome : FnScope ["_law_text", "e"] ["_law_text"] (defScope s_law_outcome) := ⟨rfl, rfl, rfl, by decide +kernel, rfl, by decide +kernel, by decide +kernel⟩
abbrev s_law_is_integer : Stmt := topS 20
theorem sc_law_is_integer : FnScope ["_law_actual"] ["_law_actual"] (defScope s_law_is_integer) := ⟨rfl, rfl, rfl, by decide +kernel, rfl, by decide +kernel, by decide +kernel⟩
abbrev s_law_integers : Stmt := topS 21
theorem sc_law_integers : FnScope ["_law_actual", "_law_low", "_law_high", "_law_item"] ["_law_actual", "_law_low", "_law_high"] (defScope s_law_integers) := ⟨rfl, rfl, rfl, by decide +kernel, rfl, by decide +kernel, by decide +kernel⟩
abbrev s_law_is_machine : Stmt := topS 23
theorem sc_law_is_machine : FnScope ["_law_actual", "_law_inputs", "_law_outputs", "_law_lead_here", "_law_number_here", "_law_row", "_law_pair"] ["_law_actual", "_law_inputs", "_law_outputs", "_law_lead_here"] (defScope s_law_is_machine) := ⟨rfl, rfl, rfl, by decide +kernel, rfl, by decide +kernel, by decide +kernel⟩
abbrev s_law : Stmt := topS 31
theorem sc_law : FnScope ["_law_script", "_law_draws_here", "_law_inputs", "_law_outputs", "_law_lead_here", "_law_opening", "_law_rows", "_law_text", "_law_k", "_law_expected", "_law_found", "_law_row"] ["_law_script"] (defScope s_law) := ⟨rfl, rfl, rfl, by decide +kernel, rfl, by decide +kernel, by decide +kernel⟩
def m_law_draws : MF := runF 9 (sSeq (sSet 2 (mF (fList true) (maC (mV 0) (maN)))) (sSeq (sIf (mT (m2 (fEq false) (mF fLen (maC (mV 2) (maN))) (mC (.int 0)))) (sSet 2 (mLst true (maC (mC (.int 7)) (maN)))) (sNil)) (sSeq (sSet 3 (mLst true (maN))) (sSeq (sSet 4 (mC (.int 12345))) (sSeq (sFor (iRange1 (maC (mV 1) (maN))) (gNm 5) (sSeq (sSet 6 (m2 fMod (mV 5) (mF fLen (maC (mV 2) (maN))))) (sSeq (sSet 7 (m2 fIx (mV 2) (mV 6))) (sSeq (sSet 4 (m2 fMod (mF fInt (maC (m2 (fAdd false) (m2 (fAdd false) (m2 (fAdd false) (m2 (fMul false) (mV 4) (mC (.int 48271))) (m2 (fMul false) (m2 fMod (mF fInt (maC (mV 7) (maN))) (mC (.int 1000003))) (mC (.int 69621)))) (m2 (fMul false) (mV 5) (mC (.int 7919)))) (mC (.int 11))) (maN))) (mC (.int 2147483647)))) (sSeq (sSet 8 (m2 fMod (mF fInt (maC (m2 (fAdd false) (m2 (fAdd false) (m2 (fMul false) (mV 4) (mV 4)) (m2 (fMul false) (mC (.int 31)) (mV 4))) (mV 5)) (maN))) (mC (.int 1000003)))) (sIf (mT (m2 fGe (mV 7) (m2 fPow (mC (.int 10)) (mC (.int 18))))) (sSeq (sExpr (mM "list" fAppend (mV 3) (maC (m2 fMod (mF fInt (maC (mV 7) (maN))) (mC (.int 1000))) (maN)))) (sAsg (m2 fDiv (mV 7) (mC (.int 1000))) (gSb (mV 2) (mV 6) fSetL))) (sExpr (mM "list" fAppend (mV 3) (maC (m2 fMod (mF fInt (maC (mV 8) (maN))) (mC (.int 1000))) (maN)))))))))) (sSeq (sExpr (mM0 "list" fReverse (mV 3))) (sRet (mV 3))))))))
def m_law_take : MF := runF 2 (sSeq (sIf (mT (m2 (fEq false) (mF fLen (maC (mV 0) (maN))) (mC (.int 0)))) (sRet (mC (.int 0))) (sNil)) (sRet (m2 fMod (mF fInt (maC (mM0 "list" fPop (mV 0)) (maN))) (mV 1))))
def m_law_machine : MF := runF 13 (sSeq (sSet 5 (m2 (fAdd false) (mC (.int 1)) (mCall 2 m_law_take (maC (mV 0) (maC (mV 4) (maN)))))) (sSeq (sSet 6 (mComp false (iRange1 (maC (mF fMax2 (maC (mC (.int 0)) (maC (m1 fNeg (mV 3)) (maN)))) (maN))) (gNm 7) (tYesM) (mCall 2 m_law_take (maC (mV 0) (maC (mV 2) (maN)))) [7])) (sSeq (sSet 8 (mLst true (maN))) (sSeq (sFor (iRange1 (maC (mV 5) (maN))) (gNm 9) (sSeq (sSet 10 (mLst true (maN))) (sSeq (sFor (iRange1 (maC (mV 1) (maN))) (gNm 11) (sSeq (sSet 12 (mCall 2 m_law_take (maC (mV 0) (maC (mV 5) (maN))))) (sExpr (mM "list" fAppend (mV 10) (maC (mTup (maC (mV 12) (maC (mCall 2 m_law_take (maC (mV 0) (maC (mV 2) (maN)))) (maN)))) (maN)))))) (sFrz 10 (sExpr (mM "list" fAppend (mV 8) (maC (mV 10) (maN)))))))) (sFrz 8 (sRet (mTup (maC (mV 6) (maC (mV 8) (maN))))))))))
def m_law_machine_text : MF := runF 9 (sSeq (sSet 5 (m2 (fAdd false) (m2 (fAdd false) (m2 (fAdd false) (m2 (fAdd false) (m2 (fAdd false) (m2 (fAdd false) (mC (.str "machine ")) (mF fStr (maC (mV 0) (maN)))) (mC (.str " "))) (mF fStr (maC (mV 1) (maN)))) (mC (.str " "))) (mF fStr (maC (mV 2) (maN)))) (mC (.str "\n")))) (sSeq (sSet 5 (m2 (fAdd false) (m2 (fAdd false) (mV 5) (mM "str" fJoin (mC (.str " ")) (maC (m2 (fAdd false) (mLst false (maC (mC (.str "opening")) (maN))) (mComp false (iSeq (mV 3)) (gNm 6) (tYesM) (mF fStr (maC (mV 6) (maN))) [6])) (maN)))) (mC (.str "\n")))) (sSeq (sFor (iSeq (mV 4)) (gNm 7) (sSet 5 (m2 (fAdd false) (m2 (fAdd false) (mV 5) (mM "str" fJoin (mC (.str " ")) (maC (mComp false (iSeq (mV 7)) (gNm 8) (tYesM) (m2 (fAdd false) (m2 (fAdd false) (mF fStr (maC (m2 fIx (mV 8) (mC (.int 0))) (maN))) (mC (.str "/"))) (mF fStr (maC (m2 fIx (mV 8) (mC (.int 1))) (maN)))) [8]) (maN)))) (mC (.str "\n"))))) (sRet (mV 5)))))
def m_law_change : MF := runF 8 (sSeq (sSet 2 (mCall 2 m_law_take (maC (mV 0) (maC (mC (.int 9)) (maN))))) (sSeq (sSet 3 (mCall 2 m_law_take (maC (mV 0) (maC (m2 (fAdd false) (mF fLen (maC (mV 1) (maN))) (mC (.int 1))) (maN))))) (sSeq (sSet 4 (mC (.str "0123456789 /-\nmachineopg"))) (sSeq (sSet 5 (m2 fIx (mV 4) (mCall 2 m_law_take (maC (mV 0) (maC (mF fLen (maC (mV 4) (maN))) (maN)))))) (sSeq (sSet 6 (mM "str" (fSplit false) (mV 1) (maC (mC (.str "\n")) (maN)))) (sSeq (sSet 7 (mCall 2 m_law_take (maC (mV 0) (maC (mF fLen (maC (mV 6) (maN))) (maN))))) (sSeq (sIf (mT (m2 (fEq false) (mV 2) (mC (.int 0)))) (sRet (m2 (fAdd false) (mSl (fSl false) (mV 1) (moN) (moS (mV 3))) (mSl (fSl false) (mV 1) (moS (m2 (fAdd false) (mV 3) (mC (.int 1)))) (moN)))) (sNil)) (sSeq (sIf (mT (m2 fLt (mV 2) (mC (.int 3)))) (sRet (m2 (fAdd false) (m2 (fAdd false) (mSl (fSl false) (mV 1) (moN) (moS (mV 3))) (mV 5)) (mSl (fSl false) (mV 1) (moS (mV 3)) (moN)))) (sNil)) (sSeq (sIf (mT (m2 fLt (mV 2) (mC (.int 5)))) (sRet (m2 (fAdd false) (m2 (fAdd false) (mSl (fSl false) (mV 1) (moN) (moS (mV 3))) (mV 5)) (mSl (fSl false) (mV 1) (moS (m2 (fAdd false) (mV 3) (mC (.int 1)))) (moN)))) (sNil)) (sSeq (sIf (mT (m2 (fEq false) (mV 2) (mC (.int 5)))) (sRet (mM "str" fJoin (mC (.str "\n")) (maC (m2 (fAdd false) (mSl (fSl false) (mV 6) (moN) (moS (mV 7))) (mSl (fSl false) (mV 6) (moS (m2 (fAdd false) (mV 7) (mC (.int 1)))) (moN))) (maN)))) (sNil)) (sSeq (sIf (mT (m2 (fEq false) (mV 2) (mC (.int 6)))) (sRet (mM "str" fJoin (mC (.str "\n")) (maC (m2 (fAdd false) (m2 (fAdd false) (mSl (fSl false) (mV 6) (moN) (moS (mV 7))) (mSl (fSl false) (mV 6) (moS (mV 7)) (moS (m2 (fAdd false) (mV 7) (mC (.int 1)))))) (mSl (fSl false) (mV 6) (moS (mV 7)) (moN))) (maN)))) (sNil)) (sSeq (sIf (mT (m2 (fEq false) (mV 2) (mC (.int 7)))) (sRet (mM "str" fJoin (mC (.str "\n")) (maC (m2 (fAdd false) (m2 (fAdd false) (m2 (fAdd false) (mSl (fSl false) (mV 6) (moN) (moS (mV 7))) (mSl (fSl false) (mV 6) (moS (m2 (fAdd false) (mV 7) (mC (.int 1)))) (moS (m2 (fAdd false) (mV 7) (mC (.int 2)))))) (mSl (fSl false) (mV 6) (moS (mV 7)) (moS (m2 (fAdd false) (mV 7) (mC (.int 1)))))) (mSl (fSl false) (mV 6) (moS (m2 (fAdd false) (mV 7) (mC (.int 2)))) (moN))) (maN)))) (sNil)) (sRet (mV 1))))))))))))))
def m_law_number : MF := runF 2 (sSeq (sIf (tOrM (mT (m2 (fEq false) (mV 0) (mC (.str "")))) (tAndM (mT (m2 fGt (mF fLen (maC (mV 0) (maN))) (mC (.int 1)))) (mT (m2 (fEq false) (m2 fIx (mV 0) (mC (.int 0))) (mC (.str "0")))))) (sRet (m1 fNeg (mC (.int 1)))) (sNil)) (sSeq (sFor (iSeq (mV 0)) (gNm 1) (sIf (mT (m2 (fInS true) (mV 1) (mC (.str "0123456789")))) (sRet (m1 fNeg (mC (.int 1)))) (sNil))) (sRet (mF fIntT (maC (mV 0) (maN))))))
def m_law_lead : MF := runF 1 (sSeq (sIf (mT (m2 (fIn false) (mV 0) (mTup (maC (mC (.str "-3")) (maC (mC (.str "-2")) (maC (mC (.str "-1")) (maC (mC (.str "0")) (maC (mC (.str "1")) (maC (mC (.str "2")) (maN)))))))))) (sRet (mF fIntT (maC (mV 0) (maN)))) (sNil)) (sRet (mC (.int 9))))
def m_law_pairs : MF := runF 4 (sSeq (sSet 1 (mLst true (maN))) (sSeq (sFor (iSeq (mM "str" (fSplit false) (mV 0) (maC (mC (.str " ")) (maN)))) (gNm 2) (sSeq (sSet 3 (mM "str" (fSplit false) (mV 2) (maC (mC (.str "/")) (maN)))) (sSeq (sIf (tOrM (mT (m2 (fEq true) (mF fLen (maC (mV 3) (maN))) (mC (.int 2)))) (tOrM (mT (m2 fLt (mCall 1 m_law_number (maC (m2 fIx (mV 3) (mC (.int 0))) (maN))) (mC (.int 0)))) (mT (m2 fLt (mCall 1 m_law_number (maC (m2 fIx (mV 3) (mC (.int 1))) (maN))) (mC (.int 0)))))) (sRet (mLst false (maN))) (sNil)) (sExpr (mM "list" fAppend (mV 1) (maC (mTup (maC (mCall 1 m_law_number (maC (m2 fIx (mV 3) (mC (.int 0))) (maN))) (maC (mCall 1 m_law_number (maC (m2 fIx (mV 3) (mC (.int 1))) (maN))) (maN)))) (maN))))))) (sFrz 1 (sRet (mV 1)))))
def m_law_read : MF := runF 14 (sSeq (sSet 1 (mM "str" (fSplit false) (mV 0) (maC (mC (.str "\n")) (maN)))) (sSeq (sIf (tOrM (mT (m2 fLt (mF fLen (maC (mV 1) (maN))) (mC (.int 4)))) (mT (m2 (fEq true) (m2 fIx (mV 1) (m1 fNeg (mC (.int 1)))) (mC (.str ""))))) (sRet (mC .non)) (sNil)) (sSeq (sSet 2 (mM "str" (fSplit false) (m2 fIx (mV 1) (mC (.int 0))) (maC (mC (.str " ")) (maN)))) (sSeq (sSet 3 (mM "str" (fSplit false) (m2 fIx (mV 1) (mC (.int 1))) (maC (mC (.str " ")) (maN)))) (sSeq (sIf (tOrM (mT (m2 (fEq true) (mF fLen (maC (mV 2) (maN))) (mC (.int 4)))) (tOrM (mT (m2 (fEq true) (m2 fIx (mV 2) (mC (.int 0))) (mC (.str "machine")))) (mT (m2 (fEq true) (m2 fIx (mV 3) (mC (.int 0))) (mC (.str "opening")))))) (sRet (mC .non)) (sNil)) (sSeq (sSet 4 (mCall 1 m_law_number (maC (m2 fIx (mV 2) (mC (.int 1))) (maN)))) (sSeq (sSet 5 (mCall 1 m_law_number (maC (m2 fIx (mV 2) (mC (.int 2))) (maN)))) (sSeq (sSet 6 (mCall 1 m_law_lead (maC (m2 fIx (mV 2) (mC (.int 3))) (maN)))) (sSeq (sSet 7 (mComp false (iSeq (mSl (fSl false) (mV 3) (moS (mC (.int 1))) (moN))) (gNm 8) (tYesM) (mCall 1 m_law_number (maC (mV 8) (maN))) [8])) (sSeq (sIf (tOrM (mT (m2 fLt (mV 4) (mC (.int 1)))) (tOrM (mT (m2 fLt (mV 5) (mC (.int 1)))) (tOrM (mT (m2 (fEq false) (mV 6) (mC (.int 9)))) (mT (m2 (fEq true) (mF fLen (maC (mV 7) (maN))) (mF fMax2 (maC (mC (.int 0)) (maC (m1 fNeg (mV 6)) (maN))))))))) (sRet (mC .non)) (sNil)) (sSeq (sFor (iSeq (mV 7)) (gNm 9) (sIf (tOrM (mT (m2 fLt (mV 9) (mC (.int 0)))) (mT (m2 fGe (mV 9) (mV 5)))) (sRet (mC .non)) (sNil))) (sSeq (sSet 10 (mComp false (iSeq (mSl (fSl false) (mV 1) (moS (mC (.int 2))) (moS (m2 fSub (mF fLen (maC (mV 1) (maN))) (mC (.int 1)))))) (gNm 11) (tYesM) (mCall 1 m_law_pairs (maC (mV 11) (maN))) [11])) (sSeq (sFor (iSeq (mV 10)) (gNm 12) (sSeq (sIf (mT (m2 (fEq true) (mF fLen (maC (mV 12) (maN))) (mV 4))) (sRet (mC .non)) (sNil)) (sFor (iSeq (mV 12)) (gNm 13) (sIf (tOrM (mT (m2 fGe (m2 fIx (mV 13) (mC (.int 0))) (mF fLen (maC (mV 10) (maN))))) (mT (m2 fGe (m2 fIx (mV 13) (mC (.int 1))) (mV 5)))) (sRet (mC .non)) (sNil))))) (sRet (mTup (maC (mV 4) (maC (mV 5) (maC (mV 6) (maC (mV 7) (maC (mV 10) (maN)))))))))))))))))))))
def m_read_words : MF := runF 3 (sSeq (sSet 2 (mM "str" (fSplit false) (mV 0) (maC (mC (.str " ")) (maN)))) (sSeq (sIf (mT (m2 (fEq true) (m2 fIx (mV 2) (mC (.int 0))) (mV 1))) (sRaise "MachineSyntaxError") (sNil)) (sRet (mSl (fSl false) (mV 2) (moS (mC (.int 1))) (moN)))))
def m_read_number : MF := runF 2 (sSeq (sIf (tOrM (mT (m2 (fEq false) (mV 0) (mC (.str "")))) (tAndM (mT (m2 (fEq false) (m2 fIx (mV 0) (mC (.int 0))) (mC (.str "0")))) (mT (m2 fGt (mF fLen (maC (mV 0) (maN))) (mC (.int 1)))))) (sRaise "MachineSyntaxError") (sNil)) (sSeq (sFor (iSeq (mV 0)) (gNm 1) (sIf (mT (m2 (fInS true) (mV 1) (mC (.str "0123456789")))) (sRaise "MachineSyntaxError") (sNil))) (sRet (mF fIntT (maC (mV 0) (maN))))))
def m_read_lead : MF := runF 1 (sSeq (sIf (tAndM (mT (m2 (fEq false) (mSl (fSl false) (mV 0) (moN) (moS (mC (.int 1)))) (mC (.str "-")))) (mT (m2 (fEq true) (mSl (fSl false) (mV 0) (moS (mC (.int 1))) (moS (mC (.int 2)))) (mC (.str "0"))))) (sRet (m1 fNeg (mCall 1 m_read_number (maC (mSl (fSl false) (mV 0) (moS (mC (.int 1))) (moN)) (maN))))) (sNil)) (sRet (mCall 1 m_read_number (maC (mV 0) (maN)))))
def m_read_pair : MF := runF 2 (sSeq (sSet 1 (mM "str" (fSplit false) (mV 0) (maC (mC (.str "/")) (maN)))) (sSeq (sIf (mT (m2 (fEq true) (mF fLen (maC (mV 1) (maN))) (mC (.int 2)))) (sRaise "MachineSyntaxError") (sNil)) (sRet (mTup (maC (mCall 1 m_read_number (maC (m2 fIx (mV 1) (mC (.int 0))) (maN))) (maC (mCall 1 m_read_number (maC (m2 fIx (mV 1) (mC (.int 1))) (maN))) (maN)))))))
def m_all_below : MF := runF 3 (sSeq (sFor (iSeq (mV 0)) (gNm 2) (sIf (tOrM (mT (m2 fLt (mV 2) (mC (.int 0)))) (mT (m2 fGe (mV 2) (mV 1)))) (sRet (mC (.bl false))) (sNil))) (sRet (mC (.bl true))))
def m_Machine_init : MF := runF 9 (sSeq (sSet 6 (mAnd (m2 fGe (mV 1) (mC (.int 1))) (mAnd (m2 fGe (mV 2) (mC (.int 1))) (mChain fLe fLe (m1 fNeg (mC (.int 3))) (mV 3) (mC (.int 2)))))) (sSeq (sSet 6 (mAnd (mV 6) (mAnd (m2 (fEq false) (mF fLen (maC (mV 4) (maN))) (mF fMax2 (maC (mC (.int 0)) (maC (m1 fNeg (mV 3)) (maN))))) (m2 fGe (mF fLen (maC (mV 5) (maN))) (mC (.int 1)))))) (sSeq (sSet 6 (mAnd (mV 6) (mCall 2 (mfNox m_all_below) (maC (mV 4) (maC (mV 2) (maN)))))) (sSeq (sFor (iSeq (mV 5)) (gNm 7) (sSeq (sSet 6 (mAnd (mV 6) (m2 (fEq false) (mF fLen (maC (mV 7) (maN))) (mV 1)))) (sSeq (sSet 6 (mAnd (mV 6) (mCall 2 (mfNox m_all_below) (maC (mComp false (iSeq (mV 7)) (gNm 8) (tYesM) (m2 fIx (mV 8) (mC (.int 0))) [8]) (maC (mF fLen (maC (mV 5) (maN))) (maN)))))) (sSet 6 (mAnd (mV 6) (mCall 2 (mfNox m_all_below) (maC (mComp false (iSeq (mV 7)) (gNm 8) (tYesM) (m2 fIx (mV 8) (mC (.int 1))) [8]) (maC (mV 2) (maN))))))))) (sSeq (sIf (tNotM (mT (mV 6))) (sRaise "InvalidMachine") (sNil)) (sSeq (sFldM tabC "inputs" (mV 0) (mV 1)) (sSeq (sFldM tabC "outputs" (mV 0) (mV 2)) (sSeq (sFldM tabC "lead" (mV 0) (mV 3)) (sSeq (sFldM tabC "opening" (mV 0) (mF fTuple (maC (mV 4) (maN)))) (sFldM tabC "rows" (mV 0) (mF fTuple (maC (mComp false (iSeq (mV 5)) (gNm 7) (tYesM) (mF fTuple (maC (mComp false (iSeq (mV 7)) (gNm 8) (tYesM) (mTup (maC (m2 fIx (mV 8) (mC (.int 0))) (maC (m2 fIx (mV 8) (mC (.int 1))) (maN)))) [8]) (maN))) [7]) (maN)))))))))))))
noncomputable def m_parse_machine : MF := runF 10 (sSeq (sSet 1 (mM "str" (fSplit false) (mV 0) (maC (mC (.str "\n")) (maN)))) (sSeq (sIf (tOrM (mT (m2 fLt (mF fLen (maC (mV 1) (maN))) (mC (.int 4)))) (mT (m2 (fEq true) (m2 fIx (mV 1) (m1 fNeg (mC (.int 1)))) (mC (.str ""))))) (sRaise "MachineSyntaxError") (sNil)) (sSeq (sSet 2 (mCall 2 m_read_words (maC (m2 fIx (mV 1) (mC (.int 0))) (maC (mC (.str "machine")) (maN))))) (sSeq (sIf (mT (m2 (fEq true) (mF fLen (maC (mV 2) (maN))) (mC (.int 3)))) (sRaise "MachineSyntaxError") (sNil)) (sSeq (sSet 3 (mCall 1 m_read_number (maC (m2 fIx (mV 2) (mC (.int 0))) (maN)))) (sSeq (sSet 4 (mCall 1 m_read_number (maC (m2 fIx (mV 2) (mC (.int 1))) (maN)))) (sSeq (sSet 5 (mCall 1 m_read_lead (maC (m2 fIx (mV 2) (mC (.int 2))) (maN)))) (sSeq (sSet 6 (mCompX false (iSeq (mCall 2 m_read_words (maC (m2 fIx (mV 1) (mC (.int 1))) (maC (mC (.str "opening")) (maN))))) (gNm 7) (tYesM) (mCall 1 m_read_number (maC (mV 7) (maN))) [7])) (sSeq (sSet 8 (mLst true (maN))) (sSeq (sFor (iSeq (mSl (fSl false) (mV 1) (moS (mC (.int 2))) (moS (m1 fNeg (mC (.int 1)))))) (gNm 9) (sExpr (mM "list" fAppend (mV 8) (maC (mCompX false (iSeq (mM "str" (fSplit false) (mV 9) (maC (mC (.str " ")) (maN)))) (gNm 7) (tYesM) (mCall 1 m_read_pair (maC (mV 7) (maN))) [7]) (maN))))) (sTryN (sFrz 8 (sRet (mMake "Machine" true 6 m_Machine_init (maC (mV 3) (maC (mV 4) (maC (mV 5) (maC (mV 6) (maC (mV 8) (maN))))))))) [("InvalidMachine", true)] "MachineSyntaxError")))))))))))
noncomputable def m_law_outcome : MF := runF 2 (sSeq (sTry (sRet (mCall 1 m_parse_machine (maC (mV 0) (maN)))) (⟨[("InvalidMachine", false), ("MachineSyntaxError", true)], some 1, fun v => sIf (mT (mIsE 1 v [("MachineSyntaxError", true)])) (sRet (mC .non)) (sNil)⟩ :: [])) (sRet (mC (.int 0))))
def m_law_is_integer : MF := runF 1 (sRet (mAnd (m1 (fIsi "int") (mV 0)) (mNot (m1 (fIsi "bool") (mV 0)))))
def m_law_integers : MF := runF 4 (sSeq (sIf (tNotM (mT (m1 (fIsi "tuple") (mV 0)))) (sRet (mC (.bl false))) (sNil)) (sSeq (sFor (iSeq (mV 0)) (gNm 3) (sIf (tOrM (tNotM (mT (mCall 1 m_law_is_integer (maC (mV 3) (maN))))) (tOrM (mT (m2 fLt (mV 3) (mV 1))) (mT (m2 fGe (mV 3) (mV 2))))) (sRet (mC (.bl false))) (sNil))) (sRet (mC (.bl true)))))
def m_law_is_machine : MF := runF 7 (sSeq (sFor (iSeq (mTup (maC (m1 (fFld tabC "inputs") (mV 0)) (maC (m1 (fFld tabC "outputs") (mV 0)) (maC (m1 (fFld tabC "lead") (mV 0)) (maN)))))) (gNm 4) (sIf (tNotM (mT (mCall 1 m_law_is_integer (maC (mV 4) (maN))))) (sRet (mC (.bl false))) (sNil))) (sSeq (sIf (tOrM (mT (m2 (fEq true) (m1 (fFld tabC "inputs") (mV 0)) (mV 1))) (tOrM (mT (m2 (fEq true) (m1 (fFld tabC "outputs") (mV 0)) (mV 2))) (mT (m2 (fEq true) (m1 (fFld tabC "lead") (mV 0)) (mV 3))))) (sRet (mC (.bl false))) (sNil)) (sSeq (sIf (tOrM (tNotM (mT (mCall 3 m_law_integers (maC (m1 (fFld tabC "opening") (mV 0)) (maC (mC (.int 0)) (maC (mV 2) (maN))))))) (mT (m2 (fEq true) (mF fLen (maC (m1 (fFld tabC "opening") (mV 0)) (maN))) (mF fMax2 (maC (mC (.int 0)) (maC (m1 fNeg (mV 3)) (maN))))))) (sRet (mC (.bl false))) (sNil)) (sSeq (sIf (tOrM (tNotM (mT (m1 (fIsi "tuple") (m1 (fFld tabC "rows") (mV 0))))) (mT (m2 (fEq false) (mF fLen (maC (m1 (fFld tabC "rows") (mV 0)) (maN))) (mC (.int 0))))) (sRet (mC (.bl false))) (sNil)) (sSeq (sFor (iSeq (m1 (fFld tabC "rows") (mV 0))) (gNm 5) (sSeq (sIf (tOrM (tNotM (mT (m1 (fIsi "tuple") (mV 5)))) (mT (m2 (fEq true) (mF fLen (maC (mV 5) (maN))) (mV 1)))) (sRet (mC (.bl false))) (sNil)) (sFor (iSeq (mV 5)) (gNm 6) (sSeq (sIf (tOrM (tNotM (mT (mCall 3 m_law_integers (maC (mV 6) (maC (mC (.int 0)) (maC (mF fMax2 (maC (mV 2) (maC (mF fLen (maC (m1 (fFld tabC "rows") (mV 0)) (maN))) (maN)))) (maN))))))) (mT (m2 (fEq true) (mF fLen (maC (mV 6) (maN))) (mC (.int 2))))) (sRet (mC (.bl false))) (sNil)) (sIf (tOrM (mT (m2 fGe (m2 fIx (mV 6) (mC (.int 0))) (mF fLen (maC (m1 (fFld tabC "rows") (mV 0)) (maN))))) (mT (m2 fGe (m2 fIx (mV 6) (mC (.int 1))) (mV 2)))) (sRet (mC (.bl false))) (sNil)))))) (sRet (mC (.bl true))))))))
noncomputable def m_law : MF := runF 12 (sSeq (sSet 1 (mCall 2 m_law_draws (maC (mV 0) (maC (mC (.int 100)) (maN))))) (sSeq (sSet 2 (m2 (fAdd false) (mC (.int 1)) (mCall 2 m_law_take (maC (mV 1) (maC (mC (.int 2)) (maN)))))) (sSeq (sSet 3 (m2 (fAdd false) (mC (.int 1)) (mCall 2 m_law_take (maC (mV 1) (maC (mC (.int 3)) (maN)))))) (sSeq (sSet 4 (m2 fSub (mCall 2 m_law_take (maC (mV 1) (maC (mC (.int 6)) (maN)))) (mC (.int 3)))) (sSeq (sAsg (mCall 5 m_law_machine (maC (mV 1) (maC (mV 2) (maC (mV 3) (maC (mV 4) (maC (mC (.int 3)) (maN))))))) (gTup [gNm 5, gNm 6])) (sSeq (sSet 7 (mCall 5 m_law_machine_text (maC (mV 2) (maC (mV 3) (maC (mV 4) (maC (mV 5) (maC (mV 6) (maN)))))))) (sSeq (sFor (iRange1 (maC (m2 (fAdd false) (mC (.int 1)) (mCall 2 m_law_take (maC (mV 1) (maC (mC (.int 2)) (maN))))) (maN))) (gNm 8) (sSet 7 (mCall 2 m_law_change (maC (mV 1) (maC (mV 7) (maN)))))) (sSeq (sSet 9 (mCall 1 m_law_read (maC (mV 7) (maN)))) (sSeq (sSet 10 (mCall 1 m_law_outcome (maC (mV 7) (maN)))) (sSeq (sIf (mT (m2 (fIsN false) (mV 9) (mC .non))) (sRet (m2 (fIsN false) (mV 10) (mC .non))) (sNil)) (sSeq (sIf (tOrM (mT (m2 (fIsN false) (mV 10) (mC .non))) (tOrM (mT (m2 (fEqI "Machine") (mV 10) (mC (.int 0)))) (tNotM (mT (mCall 4 m_law_is_machine (maC (mV 10) (maC (m2 fIx (mV 9) (mC (.int 0))) (maC (m2 fIx (mV 9) (mC (.int 1))) (maC (m2 fIx (mV 9) (mC (.int 2))) (maN)))))))))) (sRet (mC (.bl false))) (sNil)) (sRet (mAnd (m2 (fEq false) (mF (fList false) (maC (m1 (fFld tabC "opening") (mV 10)) (maN))) (m2 fIx (mV 9) (mC (.int 3)))) (m2 (fEq false) (mComp false (iSeq (m1 (fFld tabC "rows") (mV 10))) (gNm 11) (tYesM) (mF (fList false) (maC (mV 11) (maN))) [11]) (m2 fIx (mV 9) (mC (.int 4)))))))))))))))))
structure Txt (w : World) (K : PySem.W.Frag) (mg : Str → Option Value) (Γ : Gm) : Prop where
  b_bool : mg "bool" = none
  b_int : mg "int" = none
  b_isinstance : mg "isinstance" = none
  b_len : mg "len" = none
  b_list : mg "list" = none
  b_max : mg "max" = none
  b_range : mg "range" = none
  b_str : mg "str" = none
  b_tuple : mg "tuple" = none
  d_law_draws : DefOk K mg "_law_draws" s_law_draws ["_law_script", "_law_count"]
  d_law_take : DefOk K mg "_law_take" s_law_take ["_law_draws_here", "_law_limit"]
  d_law_machine : DefOk K mg "_law_machine" s_law_machine ["_law_draws_here", "_law_inputs", "_law_outputs", "_law_lead_here", "_law_most"]
  d_law_is_integer : DefOk K mg "_law_is_integer" s_law_is_integer ["_law_actual"]
  d_law_integers : DefOk K mg "_law_integers" s_law_integers ["_law_actual", "_law_low", "_law_high"]
  d_law_is_machine : DefOk K mg "_law_is_machine" s_law_is_machine ["_law_actual", "_law_inputs", "_law_outputs", "_law_lead_here"]
  d_law_machine_text : DefOk K mg "_law_machine_text" s_law_machine_text ["_law_inputs", "_law_outputs", "_law_lead_here", "_law_opening", "_law_rows"]
  d_all_below : DefOk K mg "all_below" s_all_below ["numbers", "limit"]
  d_Machine_init : MkDef K mg Γ "Machine" "Machine.__init__" s_Machine_init ["self", "inputs", "outputs", "lead", "opening", "rows"]
  d_read_number : DefOk K mg "read_number" s_read_number ["word"]
  d_read_lead : DefOk K mg "read_lead" s_read_lead ["word"]
  d_read_words : DefOk K mg "read_words" s_read_words ["line", "first"]
  d_read_pair : DefOk K mg "read_pair" s_read_pair ["word"]
  d_parse_machine : DefOk K mg "parse_machine" s_parse_machine ["text"]
  d_law_outcome : DefOk K mg "_law_outcome" s_law_outcome ["_law_text"]
  d_law_number : DefOk K mg "_law_number" s_law_number ["_law_word"]
  d_law_lead : DefOk K mg "_law_lead" s_law_lead ["_law_word"]
  d_law_pairs : DefOk K mg "_law_pairs" s_law_pairs ["_law_line"]
  d_law_read : DefOk K mg "_law_read" s_law_read ["_law_text"]
  d_law_change : DefOk K mg "_law_change" s_law_change ["_law_draws_here", "_law_text"]
  d_law : DefOk K mg "law" s_law ["_law_script"]
  x_SynthError : ExcOk Unit K mg Γ "SynthError"
  x_InvalidMachine : ExcOk Unit K mg Γ "InvalidMachine"
  x_MachineSyntaxError : ExcOk Unit K mg Γ "MachineSyntaxError"
  e_InvalidMachine_InvalidMachine : PySem.W.exmOne K (.ref (Γ.cls "InvalidMachine")) (.ref (Γ.cls "InvalidMachine")) = some true
  e_InvalidMachine_MachineSyntaxError : PySem.W.exmOne K (.ref (Γ.cls "InvalidMachine")) (.ref (Γ.cls "MachineSyntaxError")) = some false
  e_MachineSyntaxError_MachineSyntaxError : PySem.W.exmOne K (.ref (Γ.cls "MachineSyntaxError")) (.ref (Γ.cls "MachineSyntaxError")) = some true
  i_MachineSyntaxError_SynthError : ExcC K (Γ.cls "MachineSyntaxError") ∧ PySem.W.kitOne K (.ref (Γ.cls "MachineSyntaxError")) (.ref (Γ.cls "SynthError")) = some true
  tab : TabOk Γ K tabC
  eq_Machine : EqOwn K (Γ.cls "Machine")
  g_DIGITS : GcV mg "DIGITS" (.str "0123456789")
  hw : Γ.w = w
section
variable {P : Program} {w : World} {K : PySem.W.Frag} {mg : Str → Option Value} {base : Heap} {Γ : Gm}
theorem ok_law_draws (T : Txt w K mg Γ) : DefRun P w K mg base Γ 1 "_law_draws" ["_law_script", "_law_count"] m_law_draws := by
  have sc := sc_law_draws
  exact def_ok T.d_law_draws sc_law_draws (fun f cdv A outer s H E hr => ss_cons (ss_set 2 sc.nd (sb_list true T.b_list (sa_cons (se_v 0) (sa_nil)))) (ss_cons (ss_if (st_cmp (op_eqD hr.units) lift_eq (sb_len T.b_len (sa_cons (se_v 2) (sa_nil))) (se_int)) (ss_one (ss_set 2 sc.nd (se_lst true (sa_cons (se_int) (sa_nil))))) (ss_nil)) (ss_cons (ss_set 3 sc.nd (se_lst true (sa_nil))) (ss_cons (ss_set 4 sc.nd (se_int)) (ss_cons (ss_for (passes_of rfl) rfl (si_range1 T.b_range (sa_cons (se_v 1) (sa_nil))) (sg_name 5 sc.nd) (ss_cons (ss_set 6 sc.nd (se_op op_mod lift_mod (se_v 5) (sb_len T.b_len (sa_cons (se_v 2) (sa_nil))))) (ss_cons (ss_set 7 sc.nd (se_ix ix_seq lift_ix (se_v 2) (se_v 6))) (ss_cons (ss_set 4 sc.nd (se_op op_mod lift_mod (sb_int T.b_int (sa_cons (se_op op_addAll lift_add (se_op op_addAll lift_add (se_op op_addAll lift_add (se_op op_mulAll lift_mul (se_v 4) (se_int)) (se_op op_mulAll lift_mul (se_op op_mod lift_mod (sb_int T.b_int (sa_cons (se_v 7) (sa_nil))) (se_int)) (se_int))) (se_op op_mulAll lift_mul (se_v 5) (se_int))) (se_int)) (sa_nil))) (se_int))) (ss_cons (ss_set 8 sc.nd (se_op op_mod lift_mod (sb_int T.b_int (sa_cons (se_op op_addAll lift_add (se_op op_addAll lift_add (se_op op_mulAll lift_mul (se_v 4) (se_v 4)) (se_op op_mulAll lift_mul (se_int) (se_v 4))) (se_v 5)) (sa_nil))) (se_int))) (ss_one (ss_if (st_cmp op_ge lift_ge (se_v 7) (se_op op_pow lift_pow (se_int) (se_int))) (ss_cons (ss_expr (sm_append (se_v 3) (sa_cons (se_op op_mod lift_mod (sb_int T.b_int (sa_cons (se_v 7) (sa_nil))) (se_int)) (sa_nil)))) (ss_one (ss_asg (se_op op_fdiv lift_div (se_v 7) (se_int)) (sg_sub (se_v 2) (se_v 6) set_list lift_setL)))) (ss_one (ss_expr (sm_append (se_v 3) (sa_cons (se_op op_mod lift_mod (sb_int T.b_int (sa_cons (se_v 8) (sa_nil))) (se_int)) (sa_nil)))))))))))) (ss_cons (ss_expr (sm_reverse (se_v 3))) (ss_one (ss_ret (se_v 3)))))))))
theorem ok_law_take (T : Txt w K mg Γ) : DefRun P w K mg base Γ 1 "_law_take" ["_law_draws_here", "_law_limit"] m_law_take := by
  have sc := sc_law_take
  exact def_ok T.d_law_take sc_law_take (fun f cdv A outer s H E hr => ss_cons (ss_if (st_cmp (op_eqD hr.units) lift_eq (sb_len T.b_len (sa_cons (se_v 0) (sa_nil))) (se_int)) (ss_one (ss_ret (se_int))) (ss_nil)) (ss_one (ss_ret (se_op op_mod lift_mod (sb_int T.b_int (sa_cons (sm_pop (se_v 0)) (sa_nil))) (se_v 1)))))
theorem ok_law_machine (T : Txt w K mg Γ) : DefRun P w K mg base Γ 2 "_law_machine" ["_law_draws_here", "_law_inputs", "_law_outputs", "_law_lead_here", "_law_most"] m_law_machine := by
  have sc := sc_law_machine
  have c_law_take := (ok_law_take (P := P) (w := w) (base := base) T).call
  exact def_ok T.d_law_machine sc_law_machine (fun f cdv A outer s H E hr => ss_cons (ss_set 5 sc.nd (se_op op_addAll lift_add (se_int) (sc_call (c_law_take.mono (by decide)) hr (takes_of rfl rfl rfl rfl) (sa_cons (se_v 0) (sa_cons (se_v 4) (sa_nil)))))) (ss_cons (ss_setLc (own := [("_law_k", 7)]) false 6 rfl sc.nd (sw_true rfl rfl rfl (by decide +kernel)) (si_range1 T.b_range (sa_cons (sb_max2 rfl T.b_max (sa_cons (se_int) (sa_cons (se_un un_neg lift_neg (se_v 3)) (sa_nil)))) (sa_nil))) (blkOk_by (own := [("_law_k", 7)]) (N := ["_law_draws_here", "_law_inputs", "_law_outputs", "_law_lead_here", "_law_most", "_law_count", "_law_opening", "_law_k", "_law_rows", "_law_state", "_law_row", "_law_letter", "_law_target"]) (sc := defScope s_law_machine) (by decide +kernel)) (.nm (by decide) fun _ _ _ _ _ => pg_name (i := 7) sc.nd rfl (Or.inl rfl)) (fun _ _ _ _ _ => sts_nil) (fun _ _ _ _ _ => sc_call (c_law_take.mono (by decide)) hr takes0 (sa_cons (se_v 0) (sa_cons (se_v 2) (sa_nil))))) (ss_cons (ss_set 8 sc.nd (se_lst true (sa_nil))) (ss_cons (ss_for (passes_of rfl) rfl (si_range1 T.b_range (sa_cons (se_v 5) (sa_nil))) (sg_name 9 sc.nd) (ss_cons (ss_set 10 sc.nd (se_lst true (sa_nil))) (ss_cons (ss_for (passes_of rfl) rfl (si_range1 T.b_range (sa_cons (se_v 1) (sa_nil))) (sg_name 11 sc.nd) (ss_cons (ss_set 12 sc.nd (sc_call (c_law_take.mono (by decide)) hr (takes_of rfl rfl rfl rfl) (sa_cons (se_v 0) (sa_cons (se_v 5) (sa_nil))))) (ss_one (ss_expr (sm_append (se_v 10) (sa_cons (se_tup (sa_cons (se_v 12) (sa_cons (sc_call (c_law_take.mono (by decide)) hr (takes_of rfl rfl rfl rfl) (sa_cons (se_v 0) (sa_cons (se_v 2) (sa_nil)))) (sa_nil)))) (sa_nil))))))) (ss_one (ss_frz 10 (ss_expr (sm_append (se_v 8) (sa_cons (se_v 10) (sa_nil))))))))) (ss_one (ss_frz 8 (ss_ret (se_tup (sa_cons (se_v 6) (sa_cons (se_v 8) (sa_nil)))))))))))
theorem ok_law_machine_text (T : Txt w K mg Γ) : DefRun P w K mg base Γ 1 "_law_machine_text" ["_law_inputs", "_law_outputs", "_law_lead_here", "_law_opening", "_law_rows"] m_law_machine_text := by
  have sc := sc_law_machine_text
  exact def_ok T.d_law_machine_text sc_law_machine_text (fun f cdv A outer s H E hr => ss_cons (ss_set 5 sc.nd (se_op op_addAll lift_add (se_op op_addAll lift_add (se_op op_addAll lift_add (se_op op_addAll lift_add (se_op op_addAll lift_add (se_op op_addAll lift_add (se_str) (sb_str T.b_str (sa_cons (se_v 0) (sa_nil)))) (se_str)) (sb_str T.b_str (sa_cons (se_v 1) (sa_nil)))) (se_str)) (sb_str T.b_str (sa_cons (se_v 2) (sa_nil)))) (se_str))) (ss_cons (ss_set 5 sc.nd (se_op op_addAll lift_add (se_op op_addAll lift_add (se_v 5) (sm_join (se_str) (sa_cons (se_op op_addAll lift_add (se_lst false (sa_cons (se_str) (sa_nil))) (se_comp (own := [("_law_letter", 6)]) false rfl sc.nd (si_seq (se_v 3)) (blkOk_by (own := [("_law_letter", 6)]) (N := ["_law_inputs", "_law_outputs", "_law_lead_here", "_law_opening", "_law_rows", "_law_text", "_law_letter", "_law_row", "_law_pair"]) (sc := defScope s_law_machine_text) (by decide +kernel)) (.nm (by decide) fun _ _ _ _ _ => pg_name (i := 6) sc.nd rfl (Or.inl rfl)) (fun _ _ _ _ _ => sts_nil) (fun _ _ _ _ _ => sb_str T.b_str (sa_cons (se_v 6) (sa_nil))))) (sa_nil)))) (se_str))) (ss_cons (ss_for (passes_of rfl) rfl (si_seq (se_v 4)) (sg_name 7 sc.nd) (ss_one (ss_set 5 sc.nd (se_op op_addAll lift_add (se_op op_addAll lift_add (se_v 5) (sm_join (se_str) (sa_cons (se_comp (own := [("_law_pair", 8)]) false rfl sc.nd (si_seq (se_v 7)) (blkOk_by (own := [("_law_pair", 8)]) (N := ["_law_inputs", "_law_outputs", "_law_lead_here", "_law_opening", "_law_rows", "_law_text", "_law_letter", "_law_row", "_law_pair"]) (sc := defScope s_law_machine_text) (by decide +kernel)) (.nm (by decide) fun _ _ _ _ _ => pg_name (i := 8) sc.nd rfl (Or.inl rfl)) (fun _ _ _ _ _ => sts_nil) (fun _ _ _ _ _ => se_op op_addAll lift_add (se_op op_addAll lift_add (sb_str T.b_str (sa_cons (se_ix ix_seq lift_ix (se_v 8) (se_int)) (sa_nil))) (se_str)) (sb_str T.b_str (sa_cons (se_ix ix_seq lift_ix (se_v 8) (se_int)) (sa_nil))))) (sa_nil)))) (se_str))))) (ss_one (ss_ret (se_v 5))))))
theorem ok_law_change (T : Txt w K mg Γ) : DefRun P w K mg base Γ 2 "_law_change" ["_law_draws_here", "_law_text"] m_law_change := by
  have sc := sc_law_change
  have c_law_take := (ok_law_take (P := P) (w := w) (base := base) T).call
  exact def_ok T.d_law_change sc_law_change (fun f cdv A outer s H E hr => ss_cons (ss_set 2 sc.nd (sc_call (c_law_take.mono (by decide)) hr (takes_of rfl rfl rfl rfl) (sa_cons (se_v 0) (sa_cons (se_int) (sa_nil))))) (ss_cons (ss_set 3 sc.nd (sc_call (c_law_take.mono (by decide)) hr (takes_of rfl rfl rfl rfl) (sa_cons (se_v 0) (sa_cons (se_op op_addAll lift_add (sb_len T.b_len (sa_cons (se_v 1) (sa_nil))) (se_int)) (sa_nil))))) (ss_cons (ss_set 4 sc.nd (se_str)) (ss_cons (ss_set 5 sc.nd (se_ix ix_seq lift_ix (se_v 4) (sc_call (c_law_take.mono (by decide)) hr (takes_of rfl rfl rfl rfl) (sa_cons (se_v 0) (sa_cons (sb_len T.b_len (sa_cons (se_v 4) (sa_nil))) (sa_nil)))))) (ss_cons (ss_set 6 sc.nd (sm_split false (se_v 1) (sa_cons (se_str) (sa_nil)))) (ss_cons (ss_set 7 sc.nd (sc_call (c_law_take.mono (by decide)) hr (takes_of rfl rfl rfl rfl) (sa_cons (se_v 0) (sa_cons (sb_len T.b_len (sa_cons (se_v 6) (sa_nil))) (sa_nil))))) (ss_cons (ss_if (st_cmp (op_eqD hr.units) lift_eq (se_v 2) (se_int)) (ss_one (ss_ret (se_op op_addAll lift_add (se_slice sl_all lift_sl (se_v 1) (so_none) (so_some (se_v 3))) (se_slice sl_all lift_sl (se_v 1) (so_some (se_op op_addAll lift_add (se_v 3) (se_int))) (so_none))))) (ss_nil)) (ss_cons (ss_if (st_cmp op_lt lift_lt (se_v 2) (se_int)) (ss_one (ss_ret (se_op op_addAll lift_add (se_op op_addAll lift_add (se_slice sl_all lift_sl (se_v 1) (so_none) (so_some (se_v 3))) (se_v 5)) (se_slice sl_all lift_sl (se_v 1) (so_some (se_v 3)) (so_none))))) (ss_nil)) (ss_cons (ss_if (st_cmp op_lt lift_lt (se_v 2) (se_int)) (ss_one (ss_ret (se_op op_addAll lift_add (se_op op_addAll lift_add (se_slice sl_all lift_sl (se_v 1) (so_none) (so_some (se_v 3))) (se_v 5)) (se_slice sl_all lift_sl (se_v 1) (so_some (se_op op_addAll lift_add (se_v 3) (se_int))) (so_none))))) (ss_nil)) (ss_cons (ss_if (st_cmp (op_eqD hr.units) lift_eq (se_v 2) (se_int)) (ss_one (ss_ret (sm_join (se_str) (sa_cons (se_op op_addAll lift_add (se_slice sl_all lift_sl (se_v 6) (so_none) (so_some (se_v 7))) (se_slice sl_all lift_sl (se_v 6) (so_some (se_op op_addAll lift_add (se_v 7) (se_int))) (so_none))) (sa_nil))))) (ss_nil)) (ss_cons (ss_if (st_cmp (op_eqD hr.units) lift_eq (se_v 2) (se_int)) (ss_one (ss_ret (sm_join (se_str) (sa_cons (se_op op_addAll lift_add (se_op op_addAll lift_add (se_slice sl_all lift_sl (se_v 6) (so_none) (so_some (se_v 7))) (se_slice sl_all lift_sl (se_v 6) (so_some (se_v 7)) (so_some (se_op op_addAll lift_add (se_v 7) (se_int))))) (se_slice sl_all lift_sl (se_v 6) (so_some (se_v 7)) (so_none))) (sa_nil))))) (ss_nil)) (ss_cons (ss_if (st_cmp (op_eqD hr.units) lift_eq (se_v 2) (se_int)) (ss_one (ss_ret (sm_join (se_str) (sa_cons (se_op op_addAll lift_add (se_op op_addAll lift_add (se_op op_addAll lift_add (se_slice sl_all lift_sl (se_v 6) (so_none) (so_some (se_v 7))) (se_slice sl_all lift_sl (se_v 6) (so_some (se_op op_addAll lift_add (se_v 7) (se_int))) (so_some (se_op op_addAll lift_add (se_v 7) (se_int))))) (se_slice sl_all lift_sl (se_v 6) (so_some (se_v 7)) (so_some (se_op op_addAll lift_add (se_v 7) (se_int))))) (se_slice sl_all lift_sl (se_v 6) (so_some (se_op op_addAll lift_add (se_v 7) (se_int))) (so_none))) (sa_nil))))) (ss_nil)) (ss_one (ss_ret (se_v 1)))))))))))))))
theorem ok_law_number (T : Txt w K mg Γ) : DefRun P w K mg base Γ 1 "_law_number" ["_law_word"] m_law_number := by
  have sc := sc_law_number
  exact def_ok T.d_law_number sc_law_number (fun f cdv A outer s H E hr => ss_cons (ss_if ((sw_or (st_cmp (op_eqD hr.units) lift_eq (se_v 0) (se_str)) (sw_or1 ((sw_and (st_cmp op_gt lift_gt (sb_len T.b_len (sa_cons (se_v 0) (sa_nil))) (se_int)) (sw_and1 (st_cmp (op_eqD hr.units) lift_eq (se_ix ix_seq lift_ix (se_v 0) (se_int)) (se_str)))).st))).st) (ss_one (ss_ret (se_un un_neg lift_neg (se_int)))) (ss_nil)) (ss_cons (ss_for (passes_of rfl) rfl (si_seq (se_v 0)) (sg_name 1 sc.nd) (ss_one (ss_if (st_cmp op_notIn_sign lift_notInS (se_v 1) (se_str)) (ss_one (ss_ret (se_un un_neg lift_neg (se_int)))) (ss_nil)))) (ss_one (ss_ret (sb_intT T.b_int (sa_cons (se_v 0) (sa_nil)))))))
theorem ok_law_lead (T : Txt w K mg Γ) : DefRun P w K mg base Γ 1 "_law_lead" ["_law_word"] m_law_lead := by
  have sc := sc_law_lead
  exact def_ok T.d_law_lead sc_law_lead (fun f cdv A outer s H E hr => ss_cons (ss_if (st_cmp op_in_seq lift_in (se_v 0) (se_tup (sa_cons (se_str) (sa_cons (se_str) (sa_cons (se_str) (sa_cons (se_str) (sa_cons (se_str) (sa_cons (se_str) (sa_nil))))))))) (ss_one (ss_ret (sb_intT T.b_int (sa_cons (se_v 0) (sa_nil))))) (ss_nil)) (ss_one (ss_ret (se_int))))
theorem ok_law_pairs (T : Txt w K mg Γ) : DefRun P w K mg base Γ 2 "_law_pairs" ["_law_line"] m_law_pairs := by
  have sc := sc_law_pairs
  have c_law_number := (ok_law_number (P := P) (w := w) (base := base) T).call
  exact def_ok T.d_law_pairs sc_law_pairs (fun f cdv A outer s H E hr => ss_cons (ss_set 1 sc.nd (se_lst true (sa_nil))) (ss_cons (ss_for (passes_of rfl) rfl (si_seq (sm_split false (se_v 0) (sa_cons (se_str) (sa_nil)))) (sg_name 2 sc.nd) (ss_cons (ss_set 3 sc.nd (sm_split false (se_v 2) (sa_cons (se_str) (sa_nil)))) (ss_cons (ss_if ((sw_or (st_cmp (op_neD hr.units) lift_ne (sb_len T.b_len (sa_cons (se_v 3) (sa_nil))) (se_int)) (sw_or (st_cmp op_lt lift_lt (sc_call (c_law_number.mono (by decide)) hr (takes_of rfl rfl rfl rfl) (sa_cons (se_ix ix_seq lift_ix (se_v 3) (se_int)) (sa_nil))) (se_int)) (sw_or1 (st_cmp op_lt lift_lt (sc_call (c_law_number.mono (by decide)) hr (takes_of rfl rfl rfl rfl) (sa_cons (se_ix ix_seq lift_ix (se_v 3) (se_int)) (sa_nil))) (se_int))))).st) (ss_one (ss_ret (se_lst false (sa_nil)))) (ss_nil)) (ss_one (ss_expr (sm_append (se_v 1) (sa_cons (se_tup (sa_cons (sc_call (c_law_number.mono (by decide)) hr (takes_of rfl rfl rfl rfl) (sa_cons (se_ix ix_seq lift_ix (se_v 3) (se_int)) (sa_nil))) (sa_cons (sc_call (c_law_number.mono (by decide)) hr (takes_of rfl rfl rfl rfl) (sa_cons (se_ix ix_seq lift_ix (se_v 3) (se_int)) (sa_nil))) (sa_nil)))) (sa_nil)))))))) (ss_one (ss_frz 1 (ss_ret (se_v 1))))))
theorem ok_law_read (T : Txt w K mg Γ) : DefRun P w K mg base Γ 3 "_law_read" ["_law_text"] m_law_read := by
  have sc := sc_law_read
  have c_law_number := (ok_law_number (P := P) (w := w) (base := base) T).call
  have c_law_lead := (ok_law_lead (P := P) (w := w) (base := base) T).call
  have c_law_pairs := (ok_law_pairs (P := P) (w := w) (base := base) T).call
  exact def_ok T.d_law_read sc_law_read (fun f cdv A outer s H E hr => ss_cons (ss_set 1 sc.nd (sm_split false (se_v 0) (sa_cons (se_str) (sa_nil)))) (ss_cons (ss_if ((sw_or (st_cmp op_lt lift_lt (sb_len T.b_len (sa_cons (se_v 1) (sa_nil))) (se_int)) (sw_or1 (st_cmp (op_neD hr.units) lift_ne (se_ix ix_seq lift_ix (se_v 1) (se_un un_neg lift_neg (se_int))) (se_str)))).st) (ss_one (ss_ret (se_non))) (ss_nil)) (ss_cons (ss_set 2 sc.nd (sm_split false (se_ix ix_seq lift_ix (se_v 1) (se_int)) (sa_cons (se_str) (sa_nil)))) (ss_cons (ss_set 3 sc.nd (sm_split false (se_ix ix_seq lift_ix (se_v 1) (se_int)) (sa_cons (se_str) (sa_nil)))) (ss_cons (ss_if ((sw_or (st_cmp (op_neD hr.units) lift_ne (sb_len T.b_len (sa_cons (se_v 2) (sa_nil))) (se_int)) (sw_or (st_cmp (op_neD hr.units) lift_ne (se_ix ix_seq lift_ix (se_v 2) (se_int)) (se_str)) (sw_or1 (st_cmp (op_neD hr.units) lift_ne (se_ix ix_seq lift_ix (se_v 3) (se_int)) (se_str))))).st) (ss_one (ss_ret (se_non))) (ss_nil)) (ss_cons (ss_set 4 sc.nd (sc_call (c_law_number.mono (by decide)) hr (takes_of rfl rfl rfl rfl) (sa_cons (se_ix ix_seq lift_ix (se_v 2) (se_int)) (sa_nil)))) (ss_cons (ss_set 5 sc.nd (sc_call (c_law_number.mono (by decide)) hr (takes_of rfl rfl rfl rfl) (sa_cons (se_ix ix_seq lift_ix (se_v 2) (se_int)) (sa_nil)))) (ss_cons (ss_set 6 sc.nd (sc_call (c_law_lead.mono (by decide)) hr (takes_of rfl rfl rfl rfl) (sa_cons (se_ix ix_seq lift_ix (se_v 2) (se_int)) (sa_nil)))) (ss_cons (ss_setLc (own := [("_law_word", 8)]) false 7 rfl sc.nd (sw_true rfl rfl rfl (by decide +kernel)) (si_seq (se_slice sl_all lift_sl (se_v 3) (so_some (se_int)) (so_none))) (blkOk_by (own := [("_law_word", 8)]) (N := ["_law_text", "_law_lines", "_law_first", "_law_second", "_law_inputs", "_law_outputs", "_law_lead_here", "_law_opening", "_law_word", "_law_letter", "_law_rows", "_law_line", "_law_row", "_law_pair"]) (sc := defScope s_law_read) (by decide +kernel)) (.nm (by decide) fun _ _ _ _ _ => pg_name (i := 8) sc.nd rfl (Or.inl rfl)) (fun _ _ _ _ _ => sts_nil) (fun _ _ _ _ _ => sc_call (c_law_number.mono (by decide)) hr takes0 (sa_cons (se_v 8) (sa_nil)))) (ss_cons (ss_if ((sw_or (st_cmp op_lt lift_lt (se_v 4) (se_int)) (sw_or (st_cmp op_lt lift_lt (se_v 5) (se_int)) (sw_or (st_cmp (op_eqD hr.units) lift_eq (se_v 6) (se_int)) (sw_or1 (st_cmp (op_neD hr.units) lift_ne (sb_len T.b_len (sa_cons (se_v 7) (sa_nil))) (sb_max2 rfl T.b_max (sa_cons (se_int) (sa_cons (se_un un_neg lift_neg (se_v 6)) (sa_nil))))))))).st) (ss_one (ss_ret (se_non))) (ss_nil)) (ss_cons (ss_for (passes_of rfl) rfl (si_seq (se_v 7)) (sg_name 9 sc.nd) (ss_one (ss_if ((sw_or (st_cmp op_lt lift_lt (se_v 9) (se_int)) (sw_or1 (st_cmp op_ge lift_ge (se_v 9) (se_v 5)))).st) (ss_one (ss_ret (se_non))) (ss_nil)))) (ss_cons (ss_setLc (own := [("_law_line", 11)]) false 10 rfl sc.nd (sw_true rfl rfl rfl (by decide +kernel)) (si_seq (se_slice sl_all lift_sl (se_v 1) (so_some (se_int)) (so_some (se_op op_sub lift_sub (sb_len T.b_len (sa_cons (se_v 1) (sa_nil))) (se_int))))) (blkOk_by (own := [("_law_line", 11)]) (N := ["_law_text", "_law_lines", "_law_first", "_law_second", "_law_inputs", "_law_outputs", "_law_lead_here", "_law_opening", "_law_word", "_law_letter", "_law_rows", "_law_line", "_law_row", "_law_pair"]) (sc := defScope s_law_read) (by decide +kernel)) (.nm (by decide) fun _ _ _ _ _ => pg_name (i := 11) sc.nd rfl (Or.inl rfl)) (fun _ _ _ _ _ => sts_nil) (fun _ _ _ _ _ => sc_call (c_law_pairs.mono (by decide)) hr takes0 (sa_cons (se_v 11) (sa_nil)))) (ss_cons (ss_for (passes_of rfl) rfl (si_seq (se_v 10)) (sg_name 12 sc.nd) (ss_cons (ss_if (st_cmp (op_neD hr.units) lift_ne (sb_len T.b_len (sa_cons (se_v 12) (sa_nil))) (se_v 4)) (ss_one (ss_ret (se_non))) (ss_nil)) (ss_one (ss_for (passes_of rfl) rfl (si_seq (se_v 12)) (sg_name 13 sc.nd) (ss_one (ss_if ((sw_or (st_cmp op_ge lift_ge (se_ix ix_seq lift_ix (se_v 13) (se_int)) (sb_len T.b_len (sa_cons (se_v 10) (sa_nil)))) (sw_or1 (st_cmp op_ge lift_ge (se_ix ix_seq lift_ix (se_v 13) (se_int)) (se_v 5)))).st) (ss_one (ss_ret (se_non))) (ss_nil))))))) (ss_one (ss_ret (se_tup (sa_cons (se_v 4) (sa_cons (se_v 5) (sa_cons (se_v 6) (sa_cons (se_v 7) (sa_cons (se_v 10) (sa_nil))))))))))))))))))))))
theorem ok_read_words (T : Txt w K mg Γ) : DefRun P w K mg base Γ 1 "read_words" ["line", "first"] m_read_words := by
  have sc := sc_read_words
  exact def_ok T.d_read_words sc_read_words (fun f cdv A outer s H E hr => ss_cons (ss_set 2 sc.nd (sm_split false (se_v 0) (sa_cons (se_str) (sa_nil)))) (ss_cons (ss_if (st_cmp (op_neD hr.units) lift_ne (se_ix ix_seq lift_ix (se_v 2) (se_int)) (se_v 1)) (ss_one (ss_raise rfl (takes_of rfl rfl rfl rfl) PySem.F.excBase_ValueError T.x_MachineSyntaxError.q T.x_MachineSyntaxError.g T.x_MachineSyntaxError.k (raises_own T.x_MachineSyntaxError.sb T.x_MachineSyntaxError.ty))) (ss_nil)) (ss_one (ss_ret (se_slice sl_all lift_sl (se_v 2) (so_some (se_int)) (so_none))))))
theorem ok_read_number (T : Txt w K mg Γ) : DefRun P w K mg base Γ 1 "read_number" ["word"] m_read_number := by
  have sc := sc_read_number
  exact def_ok T.d_read_number sc_read_number (fun f cdv A outer s H E hr => ss_cons (ss_if ((sw_or (st_cmp (op_eqD hr.units) lift_eq (se_v 0) (se_str)) (sw_or1 ((sw_and (st_cmp (op_eqD hr.units) lift_eq (se_ix ix_seq lift_ix (se_v 0) (se_int)) (se_str)) (sw_and1 (st_cmp op_gt lift_gt (sb_len T.b_len (sa_cons (se_v 0) (sa_nil))) (se_int)))).st))).st) (ss_one (ss_raise rfl (takes_of rfl rfl rfl rfl) PySem.F.excBase_ValueError T.x_MachineSyntaxError.q T.x_MachineSyntaxError.g T.x_MachineSyntaxError.k (raises_own T.x_MachineSyntaxError.sb T.x_MachineSyntaxError.ty))) (ss_nil)) (ss_cons (ss_for (passes_of rfl) rfl (si_seq (se_v 0)) (sg_name 1 sc.nd) (ss_one (ss_if (st_cmp op_notIn_sign lift_notInS (se_v 1) (se_gcs T.g_DIGITS)) (ss_one (ss_raise rfl (takes_of rfl rfl rfl rfl) PySem.F.excBase_ValueError T.x_MachineSyntaxError.q T.x_MachineSyntaxError.g T.x_MachineSyntaxError.k (raises_own T.x_MachineSyntaxError.sb T.x_MachineSyntaxError.ty))) (ss_nil)))) (ss_one (ss_ret (sb_intT T.b_int (sa_cons (se_v 0) (sa_nil)))))))
theorem ok_read_lead (T : Txt w K mg Γ) : DefRun P w K mg base Γ 2 "read_lead" ["word"] m_read_lead := by
  have sc := sc_read_lead
  have c_read_number := (ok_read_number (P := P) (w := w) (base := base) T).call
  exact def_ok T.d_read_lead sc_read_lead (fun f cdv A outer s H E hr => ss_cons (ss_if ((sw_and (st_cmp (op_eqD hr.units) lift_eq (se_slice sl_all lift_sl (se_v 0) (so_none) (so_some (se_int))) (se_str)) (sw_and1 (st_cmp (op_neD hr.units) lift_ne (se_slice sl_all lift_sl (se_v 0) (so_some (se_int)) (so_some (se_int))) (se_str)))).st) (ss_one (ss_ret (se_un un_neg lift_neg (sc_call (c_read_number.mono (by decide)) hr (takes_of rfl rfl rfl rfl) (sa_cons (se_slice sl_all lift_sl (se_v 0) (so_some (se_int)) (so_none)) (sa_nil)))))) (ss_nil)) (ss_one (ss_ret (sc_call (c_read_number.mono (by decide)) hr (takes_of rfl rfl rfl rfl) (sa_cons (se_v 0) (sa_nil))))))
theorem ok_read_pair (T : Txt w K mg Γ) : DefRun P w K mg base Γ 2 "read_pair" ["word"] m_read_pair := by
  have sc := sc_read_pair
  have c_read_number := (ok_read_number (P := P) (w := w) (base := base) T).call
  exact def_ok T.d_read_pair sc_read_pair (fun f cdv A outer s H E hr => ss_cons (ss_set 1 sc.nd (sm_split false (se_v 0) (sa_cons (se_str) (sa_nil)))) (ss_cons (ss_if (st_cmp (op_neD hr.units) lift_ne (sb_len T.b_len (sa_cons (se_v 1) (sa_nil))) (se_int)) (ss_one (ss_raise rfl (takes_of rfl rfl rfl rfl) PySem.F.excBase_ValueError T.x_MachineSyntaxError.q T.x_MachineSyntaxError.g T.x_MachineSyntaxError.k (raises_own T.x_MachineSyntaxError.sb T.x_MachineSyntaxError.ty))) (ss_nil)) (ss_one (ss_ret (se_tup (sa_cons (sc_call (c_read_number.mono (by decide)) hr (takes_of rfl rfl rfl rfl) (sa_cons (se_ix ix_seq lift_ix (se_v 1) (se_int)) (sa_nil))) (sa_cons (sc_call (c_read_number.mono (by decide)) hr (takes_of rfl rfl rfl rfl) (sa_cons (se_ix ix_seq lift_ix (se_v 1) (se_int)) (sa_nil))) (sa_nil))))))))
theorem ok_all_below (T : Txt w K mg Γ) : DefRun P w K mg base Γ 1 "all_below" ["numbers", "limit"] m_all_below := by
  have sc := sc_all_below
  exact def_ok T.d_all_below sc_all_below (fun f cdv A outer s H E hr => ss_cons (ss_for (passes_of rfl) rfl (si_seq (se_v 0)) (sg_name 2 sc.nd) (ss_one (ss_if ((sw_or (st_cmp op_lt lift_lt (se_v 2) (se_int)) (sw_or1 (st_cmp op_ge lift_ge (se_v 2) (se_v 1)))).st) (ss_one (ss_ret (se_bl))) (ss_nil)))) (ss_one (ss_ret (se_bl))))
theorem ok_Machine_init (T : Txt w K mg Γ) : MakeOkN P w K mg base Γ 2 "Machine" 6 m_Machine_init := by
  have sc := sc_Machine_init
  have c_all_below := (ok_all_below (P := P) (w := w) (base := base) T).call
  exact mk_okN T.d_Machine_init sc_Machine_init (fun f cdv A outer s H E hr => ss_cons (ss_set 6 sc.nd (se_and (se_cmp op_ge lift_ge (se_v 1) (se_int)) (se_and (se_cmp op_ge lift_ge (se_v 2) (se_int)) (se_one (se_chain op_le lift_le op_le lift_le (se_un un_neg lift_neg (se_int)) (se_v 3) (se_int)))))) (ss_cons (ss_set 6 sc.nd (se_and (se_v 6) (se_and (se_cmp (op_eqD hr.units) lift_eq (sb_len T.b_len (sa_cons (se_v 4) (sa_nil))) (sb_max2 rfl T.b_max (sa_cons (se_int) (sa_cons (se_un un_neg lift_neg (se_v 3)) (sa_nil))))) (se_one (se_cmp op_ge lift_ge (sb_len T.b_len (sa_cons (se_v 5) (sa_nil))) (se_int)))))) (ss_cons (ss_set 6 sc.nd (se_and (se_v 6) (se_one (sc_callQ (c_all_below.mono (by decide)) hr (sa_cons (se_v 4) (sa_cons (se_v 2) (sa_nil))))))) (ss_cons (ss_for (passes_of rfl) rfl (si_seq (se_v 5)) (sg_name 7 sc.nd) (ss_cons (ss_set 6 sc.nd (se_and (se_v 6) (se_one (se_cmp (op_eqD hr.units) lift_eq (sb_len T.b_len (sa_cons (se_v 7) (sa_nil))) (se_v 1))))) (ss_cons (ss_set 6 sc.nd (se_and (se_v 6) (se_one (sc_callQ (c_all_below.mono (by decide)) hr (sa_cons (se_comp (own := [("pair", 8)]) false rfl sc.nd (si_seq (se_v 7)) (blkOk_by (own := [("pair", 8)]) (N := ["self", "inputs", "outputs", "lead", "opening", "rows", "valid", "row", "pair"]) (sc := defScope s_Machine_init) (by decide +kernel)) (.nm (by decide) fun _ _ _ _ _ => pg_name (i := 8) sc.nd rfl (Or.inl rfl)) (fun _ _ _ _ _ => sts_nil) (fun _ _ _ _ _ => se_ix ix_seq lift_ix (se_v 8) (se_int))) (sa_cons (sb_len T.b_len (sa_cons (se_v 5) (sa_nil))) (sa_nil))))))) (ss_one (ss_set 6 sc.nd (se_and (se_v 6) (se_one (sc_callQ (c_all_below.mono (by decide)) hr (sa_cons (se_comp (own := [("pair", 8)]) false rfl sc.nd (si_seq (se_v 7)) (blkOk_by (own := [("pair", 8)]) (N := ["self", "inputs", "outputs", "lead", "opening", "rows", "valid", "row", "pair"]) (sc := defScope s_Machine_init) (by decide +kernel)) (.nm (by decide) fun _ _ _ _ _ => pg_name (i := 8) sc.nd rfl (Or.inl rfl)) (fun _ _ _ _ _ => sts_nil) (fun _ _ _ _ _ => se_ix ix_seq lift_ix (se_v 8) (se_int))) (sa_cons (se_v 2) (sa_nil))))))))))) (ss_cons (ss_if (st_not (st_val (se_v 6))) (ss_one (ss_raiseN rfl (L2N.takes_of rfl rfl rfl rfl) PySem.F.excBase_ValueError T.x_InvalidMachine.q T.x_InvalidMachine.g T.x_InvalidMachine.k (raises_own T.x_InvalidMachine.sb T.x_InvalidMachine.ty))) (ss_nil)) (ss_cons (ss_fld T.tab (se_v 0) (se_v 1)) (ss_cons (ss_fld T.tab (se_v 0) (se_v 2)) (ss_cons (ss_fld T.tab (se_v 0) (se_v 3)) (ss_cons (ss_fld T.tab (se_v 0) (sb_tuple T.b_tuple (sa_cons (se_v 4) (sa_nil)))) (ss_one (ss_fld T.tab (se_v 0) (sb_tuple T.b_tuple (sa_cons (se_comp (own := [("row", 7)]) false rfl sc.nd (si_seq (se_v 5)) (blkOk_by (own := [("row", 7)]) (N := ["self", "inputs", "outputs", "lead", "opening", "rows", "valid", "row", "pair"]) (sc := defScope s_Machine_init) (by decide +kernel)) (.nm (by decide) fun _ _ _ _ _ => pg_name (i := 7) sc.nd rfl (Or.inl rfl)) (fun _ _ _ _ _ => sts_nil) (fun _ _ _ _ _ => sb_tuple T.b_tuple (sa_cons (se_comp (own := [("pair", 8)]) false rfl sc.nd (si_seq (se_v 7)) (blkOk_in (sc := defScope s_Machine_init) rfl (blkOk_by (own := [("pair", 8)]) (N := ["self", "inputs", "outputs", "lead", "opening", "rows", "valid", "row", "pair"]) (by decide +kernel))) (.nm (by decide) fun _ _ _ _ _ => pg_name (i := 8) sc.nd rfl (Or.inl rfl)) (fun _ _ _ _ _ => sts_nil) (fun _ _ _ _ _ => se_tup (sa_cons (se_ix ix_seq lift_ix (se_v 8) (se_int)) (sa_cons (se_ix ix_seq lift_ix (se_v 8) (se_int)) (sa_nil))))) (sa_nil)))) (sa_nil))))))))))))))
theorem ok_parse_machine (T : Txt w K mg Γ) : DefRun P w K mg base Γ 4 "parse_machine" ["text"] m_parse_machine := by
  have sc := sc_parse_machine
  have c_Machine_init := (ok_Machine_init (P := P) (w := w) (base := base) T)
  have c_read_number := (ok_read_number (P := P) (w := w) (base := base) T).call
  have c_read_lead := (ok_read_lead (P := P) (w := w) (base := base) T).call
  have c_read_words := (ok_read_words (P := P) (w := w) (base := base) T).call
  have c_read_pair := (ok_read_pair (P := P) (w := w) (base := base) T).call
  exact def_ok T.d_parse_machine sc_parse_machine (fun f cdv A outer s H E hr => ss_cons (ss_set 1 sc.nd (sm_split false (se_v 0) (sa_cons (se_str) (sa_nil)))) (ss_cons (ss_if ((sw_or (st_cmp op_lt lift_lt (sb_len T.b_len (sa_cons (se_v 1) (sa_nil))) (se_int)) (sw_or1 (st_cmp (op_neD hr.units) lift_ne (se_ix ix_seq lift_ix (se_v 1) (se_un un_neg lift_neg (se_int))) (se_str)))).st) (ss_one (ss_raise rfl (takes_of rfl rfl rfl rfl) PySem.F.excBase_ValueError T.x_MachineSyntaxError.q T.x_MachineSyntaxError.g T.x_MachineSyntaxError.k (raises_own T.x_MachineSyntaxError.sb T.x_MachineSyntaxError.ty))) (ss_nil)) (ss_cons (ss_set 2 sc.nd (sc_call (c_read_words.mono (by decide)) hr (takes_of rfl rfl rfl rfl) (sa_cons (se_ix ix_seq lift_ix (se_v 1) (se_int)) (sa_cons (se_str) (sa_nil))))) (ss_cons (ss_if (st_cmp (op_neD hr.units) lift_ne (sb_len T.b_len (sa_cons (se_v 2) (sa_nil))) (se_int)) (ss_one (ss_raise rfl (takes_of rfl rfl rfl rfl) PySem.F.excBase_ValueError T.x_MachineSyntaxError.q T.x_MachineSyntaxError.g T.x_MachineSyntaxError.k (raises_own T.x_MachineSyntaxError.sb T.x_MachineSyntaxError.ty))) (ss_nil)) (ss_cons (ss_set 3 sc.nd (sc_call (c_read_number.mono (by decide)) hr (takes_of rfl rfl rfl rfl) (sa_cons (se_ix ix_seq lift_ix (se_v 2) (se_int)) (sa_nil)))) (ss_cons (ss_set 4 sc.nd (sc_call (c_read_number.mono (by decide)) hr (takes_of rfl rfl rfl rfl) (sa_cons (se_ix ix_seq lift_ix (se_v 2) (se_int)) (sa_nil)))) (ss_cons (ss_set 5 sc.nd (sc_call (c_read_lead.mono (by decide)) hr (takes_of rfl rfl rfl rfl) (sa_cons (se_ix ix_seq lift_ix (se_v 2) (se_int)) (sa_nil)))) (ss_cons (ss_setLcX (own := [("word", 7)]) false 6 rfl rfl (takes_of rfl rfl rfl rfl) rfl sc.nd (sw_true rfl rfl rfl (by decide +kernel)) (si_seq (sc_call (c_read_words.mono (by decide)) hr (takes_of rfl rfl rfl rfl) (sa_cons (se_ix ix_seq lift_ix (se_v 1) (se_int)) (sa_cons (se_str) (sa_nil))))) (blkOk_by (own := [("word", 7)]) (N := ["text", "lines", "sizes", "inputs", "outputs", "lead", "opening", "word", "rows", "line"]) (sc := defScope s_parse_machine) (by decide +kernel)) (.nm (by decide) fun _ _ _ _ _ => pg_name (i := 7) sc.nd rfl (Or.inl rfl)) (fun _ _ _ _ _ => sts_nil) (fun _ _ _ _ _ _ _ tkx => sc_call (c_read_number.mono (by decide)) hr tkx (sa_cons (se_v 7) (sa_nil)))) (ss_cons (ss_set 8 sc.nd (se_lst true (sa_nil))) (ss_cons (ss_for (passes_of rfl) rfl (si_seq (se_slice sl_all lift_sl (se_v 1) (so_some (se_int)) (so_some (se_un un_neg lift_neg (se_int))))) (sg_name 9 sc.nd) (ss_one (ss_expr (sm_append (se_v 8) (sa_cons (se_compX (own := [("word", 7)]) false rfl rfl (takes_of rfl rfl rfl rfl) rfl sc.nd (si_seq (sm_split false (se_v 9) (sa_cons (se_str) (sa_nil)))) (blkOk_by (own := [("word", 7)]) (N := ["text", "lines", "sizes", "inputs", "outputs", "lead", "opening", "word", "rows", "line"]) (sc := defScope s_parse_machine) (by decide +kernel)) (.nm (by decide) fun _ _ _ _ _ => pg_name (i := 7) sc.nd rfl (Or.inl rfl)) (fun _ _ _ _ _ => sts_nil) (fun _ _ _ _ _ _ _ tkx => sc_call (c_read_pair.mono (by decide)) hr tkx (sa_cons (se_v 7) (sa_nil)))) (sa_nil)))))) (ss_one (ss_tryN rfl rfl (L2H.passesAt_of rfl) (takes_of rfl rfl rfl rfl) ⟨rfl, by decide, .inl T.x_InvalidMachine.g⟩ (fun p hp => by simp only [List.mem_cons, List.not_mem_nil, or_false] at hp; subst hp; exact T.e_InvalidMachine_InvalidMachine) (fun W' pn xe n1 n2 => ss_one (ss_frz 8 (ss_ret (sc_makeN true (c_Machine_init.mono (by decide)) hr n1 (sa_cons (se_v 3) (sa_cons (se_v 4) (sa_cons (se_v 5) (sa_cons (se_v 6) (sa_cons (se_v 8) (sa_nil)))))))))) PySem.F.excBase_ValueError T.x_MachineSyntaxError.q T.x_MachineSyntaxError.g T.x_MachineSyntaxError.k (raises_own T.x_MachineSyntaxError.sb T.x_MachineSyntaxError.ty)))))))))))))
theorem ok_law_outcome (T : Txt w K mg Γ) : DefRun P w K mg base Γ 5 "_law_outcome" ["_law_text"] m_law_outcome := by
  have sc := sc_law_outcome
  have c_parse_machine := (ok_parse_machine (P := P) (w := w) (base := base) T).call
  exact def_ok T.d_law_outcome sc_law_outcome (fun f cdv A outer s H E hr => ss_cons (ss_try rfl rfl (takes_of rfl rfl rfl rfl) (fun W' pn xe t1 t2 => ss_one (ss_ret (sc_call (c_parse_machine.mono (by decide)) hr t1 (sa_cons (se_v 0) (sa_nil))))) (.consA sc.nd rfl rfl ⟨rfl, by decide, .inl T.x_MachineSyntaxError.g⟩ (fun p hp => by simp only [List.mem_cons, List.not_mem_nil, or_false] at hp; rcases hp with rfl | rfl <;> first | exact T.e_InvalidMachine_MachineSyntaxError | exact T.e_MachineSyntaxError_MachineSyntaxError) (fun a oe C xs d pn hz hf _ => ss_one (ss_if (st_val (se_isE (v2 := .ref (Γ.cls "SynthError")) (cv := .ref (Γ.cls "SynthError")) 1 hz hf rfl (.inl rfl) (by decide) (by decide) (pe_glob (X := Cx.suite _ _ _) (v := .ref (Γ.cls "SynthError")) rfl T.x_SynthError.g rfl) (fun _ r => r) (fun q hq => by simp only [List.mem_cons, List.not_mem_nil, or_false] at hq; subst hq; exact T.i_MachineSyntaxError_SynthError) T.b_isinstance)) (ss_one (ss_ret (se_non))) (ss_nil))) (.nil))) (ss_one (ss_ret (se_int))))
theorem ok_law_is_integer (T : Txt w K mg Γ) : DefRun P w K mg base Γ 1 "_law_is_integer" ["_law_actual"] m_law_is_integer := by
  have sc := sc_law_is_integer
  exact def_ok T.d_law_is_integer sc_law_is_integer (fun f cdv A outer s H E hr => ss_one (ss_ret (se_and (se_isi (T := "int") (se_v 0) T.b_isinstance T.b_int) (se_one (se_not (se_isi (T := "bool") (se_v 0) T.b_isinstance T.b_bool))))))
theorem ok_law_integers (T : Txt w K mg Γ) : DefRun P w K mg base Γ 2 "_law_integers" ["_law_actual", "_law_low", "_law_high"] m_law_integers := by
  have sc := sc_law_integers
  have c_law_is_integer := (ok_law_is_integer (P := P) (w := w) (base := base) T).call
  exact def_ok T.d_law_integers sc_law_integers (fun f cdv A outer s H E hr => ss_cons (ss_if (st_not (st_val (se_isi (T := "tuple") (se_v 0) T.b_isinstance T.b_tuple))) (ss_one (ss_ret (se_bl))) (ss_nil)) (ss_cons (ss_for (passes_of rfl) rfl (si_seq (se_v 0)) (sg_name 3 sc.nd) (ss_one (ss_if ((sw_or (st_not (st_val (sc_call (c_law_is_integer.mono (by decide)) hr (takes_of rfl rfl rfl rfl) (sa_cons (se_v 3) (sa_nil))))) (sw_or (st_cmp op_lt lift_lt (se_v 3) (se_v 1)) (sw_or1 (st_cmp op_ge lift_ge (se_v 3) (se_v 2))))).st) (ss_one (ss_ret (se_bl))) (ss_nil)))) (ss_one (ss_ret (se_bl)))))
theorem ok_law_is_machine (T : Txt w K mg Γ) : DefRun P w K mg base Γ 3 "_law_is_machine" ["_law_actual", "_law_inputs", "_law_outputs", "_law_lead_here"] m_law_is_machine := by
  have sc := sc_law_is_machine
  have c_law_is_integer := (ok_law_is_integer (P := P) (w := w) (base := base) T).call
  have c_law_integers := (ok_law_integers (P := P) (w := w) (base := base) T).call
  exact def_ok T.d_law_is_machine sc_law_is_machine (fun f cdv A outer s H E hr => ss_cons (ss_for (passes_of rfl) rfl (si_seq (se_tup (sa_cons (se_fld T.tab (se_v 0)) (sa_cons (se_fld T.tab (se_v 0)) (sa_cons (se_fld T.tab (se_v 0)) (sa_nil)))))) (sg_name 4 sc.nd) (ss_one (ss_if (st_not (st_val (sc_call (c_law_is_integer.mono (by decide)) hr (takes_of rfl rfl rfl rfl) (sa_cons (se_v 4) (sa_nil))))) (ss_one (ss_ret (se_bl))) (ss_nil)))) (ss_cons (ss_if ((sw_or (st_cmp (op_neD hr.units) lift_ne (se_fld T.tab (se_v 0)) (se_v 1)) (sw_or (st_cmp (op_neD hr.units) lift_ne (se_fld T.tab (se_v 0)) (se_v 2)) (sw_or1 (st_cmp (op_neD hr.units) lift_ne (se_fld T.tab (se_v 0)) (se_v 3))))).st) (ss_one (ss_ret (se_bl))) (ss_nil)) (ss_cons (ss_if ((sw_or (st_not (st_val (sc_call (c_law_integers.mono (by decide)) hr (takes_of rfl rfl rfl rfl) (sa_cons (se_fld T.tab (se_v 0)) (sa_cons (se_int) (sa_cons (se_v 2) (sa_nil))))))) (sw_or1 (st_cmp (op_neD hr.units) lift_ne (sb_len T.b_len (sa_cons (se_fld T.tab (se_v 0)) (sa_nil))) (sb_max2 rfl T.b_max (sa_cons (se_int) (sa_cons (se_un un_neg lift_neg (se_v 3)) (sa_nil))))))).st) (ss_one (ss_ret (se_bl))) (ss_nil)) (ss_cons (ss_if ((sw_or (st_not (st_val (se_isi (T := "tuple") (se_fld T.tab (se_v 0)) T.b_isinstance T.b_tuple))) (sw_or1 (st_cmp (op_eqD hr.units) lift_eq (sb_len T.b_len (sa_cons (se_fld T.tab (se_v 0)) (sa_nil))) (se_int)))).st) (ss_one (ss_ret (se_bl))) (ss_nil)) (ss_cons (ss_for (passes_of rfl) rfl (si_seq (se_fld T.tab (se_v 0))) (sg_name 5 sc.nd) (ss_cons (ss_if ((sw_or (st_not (st_val (se_isi (T := "tuple") (se_v 5) T.b_isinstance T.b_tuple))) (sw_or1 (st_cmp (op_neD hr.units) lift_ne (sb_len T.b_len (sa_cons (se_v 5) (sa_nil))) (se_v 1)))).st) (ss_one (ss_ret (se_bl))) (ss_nil)) (ss_one (ss_for (passes_of rfl) rfl (si_seq (se_v 5)) (sg_name 6 sc.nd) (ss_cons (ss_if ((sw_or (st_not (st_val (sc_call (c_law_integers.mono (by decide)) hr (takes_of rfl rfl rfl rfl) (sa_cons (se_v 6) (sa_cons (se_int) (sa_cons (sb_max2 rfl T.b_max (sa_cons (se_v 2) (sa_cons (sb_len T.b_len (sa_cons (se_fld T.tab (se_v 0)) (sa_nil))) (sa_nil)))) (sa_nil))))))) (sw_or1 (st_cmp (op_neD hr.units) lift_ne (sb_len T.b_len (sa_cons (se_v 6) (sa_nil))) (se_int)))).st) (ss_one (ss_ret (se_bl))) (ss_nil)) (ss_one (ss_if ((sw_or (st_cmp op_ge lift_ge (se_ix ix_seq lift_ix (se_v 6) (se_int)) (sb_len T.b_len (sa_cons (se_fld T.tab (se_v 0)) (sa_nil)))) (sw_or1 (st_cmp op_ge lift_ge (se_ix ix_seq lift_ix (se_v 6) (se_int)) (se_v 2)))).st) (ss_one (ss_ret (se_bl))) (ss_nil)))))))) (ss_one (ss_ret (se_bl))))))))
theorem ok_law (T : Txt w K mg Γ) : DefRun P w K mg base Γ 6 "law" ["_law_script"] m_law := by
  have sc := sc_law
  have c_law_draws := (ok_law_draws (P := P) (w := w) (base := base) T).call
  have c_law_take := (ok_law_take (P := P) (w := w) (base := base) T).call
  have c_law_machine := (ok_law_machine (P := P) (w := w) (base := base) T).call
  have c_law_is_machine := (ok_law_is_machine (P := P) (w := w) (base := base) T).call
  have c_law_machine_text := (ok_law_machine_text (P := P) (w := w) (base := base) T).call
  have c_law_outcome := (ok_law_outcome (P := P) (w := w) (base := base) T).call
  have c_law_read := (ok_law_read (P := P) (w := w) (base := base) T).call
  have c_law_change := (ok_law_change (P := P) (w := w) (base := base) T).call
  exact def_ok T.d_law sc_law (fun f cdv A outer s H E hr => ss_cons (ss_set 1 sc.nd (sc_call (c_law_draws.mono (by decide)) hr (takes_of rfl rfl rfl rfl) (sa_cons (se_v 0) (sa_cons (se_int) (sa_nil))))) (ss_cons (ss_set 2 sc.nd (se_op op_addAll lift_add (se_int) (sc_call (c_law_take.mono (by decide)) hr (takes_of rfl rfl rfl rfl) (sa_cons (se_v 1) (sa_cons (se_int) (sa_nil)))))) (ss_cons (ss_set 3 sc.nd (se_op op_addAll lift_add (se_int) (sc_call (c_law_take.mono (by decide)) hr (takes_of rfl rfl rfl rfl) (sa_cons (se_v 1) (sa_cons (se_int) (sa_nil)))))) (ss_cons (ss_set 4 sc.nd (se_op op_sub lift_sub (sc_call (c_law_take.mono (by decide)) hr (takes_of rfl rfl rfl rfl) (sa_cons (se_v 1) (sa_cons (se_int) (sa_nil)))) (se_int))) (ss_cons (ss_asg (sc_call (c_law_machine.mono (by decide)) hr (takes_of rfl rfl rfl rfl) (sa_cons (se_v 1) (sa_cons (se_v 2) (sa_cons (se_v 3) (sa_cons (se_v 4) (sa_cons (se_int) (sa_nil))))))) (sg_tup rfl (sgs_cons (sg_name 5 sc.nd) (sgs_cons (sg_name 6 sc.nd) (sgs_nil))))) (ss_cons (ss_set 7 sc.nd (sc_call (c_law_machine_text.mono (by decide)) hr (takes_of rfl rfl rfl rfl) (sa_cons (se_v 2) (sa_cons (se_v 3) (sa_cons (se_v 4) (sa_cons (se_v 5) (sa_cons (se_v 6) (sa_nil)))))))) (ss_cons (ss_for (passes_of rfl) rfl (si_range1 T.b_range (sa_cons (se_op op_addAll lift_add (se_int) (sc_call (c_law_take.mono (by decide)) hr (takes_of rfl rfl rfl rfl) (sa_cons (se_v 1) (sa_cons (se_int) (sa_nil))))) (sa_nil))) (sg_name 8 sc.nd) (ss_one (ss_set 7 sc.nd (sc_call (c_law_change.mono (by decide)) hr (takes_of rfl rfl rfl rfl) (sa_cons (se_v 1) (sa_cons (se_v 7) (sa_nil))))))) (ss_cons (ss_set 9 sc.nd (sc_call (c_law_read.mono (by decide)) hr (takes_of rfl rfl rfl rfl) (sa_cons (se_v 7) (sa_nil)))) (ss_cons (ss_set 10 sc.nd (sc_call (c_law_outcome.mono (by decide)) hr (takes_of rfl rfl rfl rfl) (sa_cons (se_v 7) (sa_nil)))) (ss_cons (ss_if (st_cmp op_isN lift_isN (se_v 9) (se_non)) (ss_one (ss_ret (se_cmp op_isN lift_isN (se_v 10) (se_non)))) (ss_nil)) (ss_cons (ss_if ((sw_or (st_cmp op_isN lift_isN (se_v 10) (se_non)) (sw_or (st_cmp (op_eqI hr.units T.eq_Machine) lift_eqI (se_v 10) (se_int)) (sw_or1 (st_not (st_val (sc_call (c_law_is_machine.mono (by decide)) hr (takes_of rfl rfl rfl rfl) (sa_cons (se_v 10) (sa_cons (se_ix ix_seq lift_ix (se_v 9) (se_int)) (sa_cons (se_ix ix_seq lift_ix (se_v 9) (se_int)) (sa_cons (se_ix ix_seq lift_ix (se_v 9) (se_int)) (sa_nil))))))))))).st) (ss_one (ss_ret (se_bl))) (ss_nil)) (ss_one (ss_ret (se_and (se_cmp (op_eqD hr.units) lift_eq (sb_list false T.b_list (sa_cons (se_fld T.tab (se_v 10)) (sa_nil))) (se_ix ix_seq lift_ix (se_v 9) (se_int))) (se_one (se_cmp (op_eqD hr.units) lift_eq (se_comp (own := [("_law_row", 11)]) false rfl sc.nd (si_seq (se_fld T.tab (se_v 10))) (blkOk_by (own := [("_law_row", 11)]) (N := ["_law_script", "_law_draws_here", "_law_inputs", "_law_outputs", "_law_lead_here", "_law_opening", "_law_rows", "_law_text", "_law_k", "_law_expected", "_law_found", "_law_row"]) (sc := defScope s_law) (by decide +kernel)) (.nm (by decide) fun _ _ _ _ _ => pg_name (i := 11) sc.nd rfl (Or.inl rfl)) (fun _ _ _ _ _ => sts_nil) (fun _ _ _ _ _ => sb_list false T.b_list (sa_cons (se_v 11) (sa_nil)))) (se_ix ix_seq lift_ix (se_v 9) (se_int))))))))))))))))))
end
def gm (w : World) (l : List (Str × Addr)) : Gm := ⟨fun s => (l.lookup s).getD 0, fun _ => "", w⟩
theorem txt_mk {w : World} {K : PySem.W.Frag} {h : Heap} {mg : Str → Option Value} (X : K.In h) (G : h.Ns mainGlobals mg)
    {C_Machine : Addr}
    {f_law_draws : Addr} {od_law_draws an_law_draws : Option Addr} {sl_law_draws : Array (Option Value)} {oc_law_draws kV_law_draws dc_law_draws pm_law_draws cd_law_draws ct_law_draws : Value}
    {f_law_take : Addr} {od_law_take an_law_take : Option Addr} {sl_law_take : Array (Option Value)} {oc_law_take kV_law_take dc_law_take pm_law_take cd_law_take ct_law_take : Value}
    {f_law_machine : Addr} {od_law_machine an_law_machine : Option Addr} {sl_law_machine : Array (Option Value)} {oc_law_machine kV_law_machine dc_law_machine pm_law_machine cd_law_machine ct_law_machine : Value}
    {f_law_is_integer : Addr} {od_law_is_integer an_law_is_integer : Option Addr} {sl_law_is_integer : Array (Option Value)} {oc_law_is_integer kV_law_is_integer dc_law_is_integer pm_law_is_integer cd_law_is_integer ct_law_is_integer : Value}
    {f_law_integers : Addr} {od_law_integers an_law_integers : Option Addr} {sl_law_integers : Array (Option Value)} {oc_law_integers kV_law_integers dc_law_integers pm_law_integers cd_law_integers ct_law_integers : Value}
    {f_law_is_machine : Addr} {od_law_is_machine an_law_is_machine : Option Addr} {sl_law_is_machine : Array (Option Value)} {oc_law_is_machine kV_law_is_machine dc_law_is_machine pm_law_is_machine cd_law_is_machine ct_law_is_machine : Value}
    {f_law_machine_text : Addr} {od_law_machine_text an_law_machine_text : Option Addr} {sl_law_machine_text : Array (Option Value)} {oc_law_machine_text kV_law_machine_text dc_law_machine_text pm_law_machine_text cd_law_machine_text ct_law_machine_text : Value}
    {f_all_below : Addr} {od_all_below an_all_below : Option Addr} {sl_all_below : Array (Option Value)} {oc_all_below kV_all_below dc_all_below pm_all_below cd_all_below ct_all_below : Value}
    {f_Machine_init : Addr} {od_Machine_init an_Machine_init : Option Addr} {sl_Machine_init : Array (Option Value)} {oc_Machine_init kV_Machine_init dc_Machine_init pm_Machine_init cd_Machine_init ct_Machine_init : Value}
    {f_read_number : Addr} {od_read_number an_read_number : Option Addr} {sl_read_number : Array (Option Value)} {oc_read_number kV_read_number dc_read_number pm_read_number cd_read_number ct_read_number : Value}
    {f_read_lead : Addr} {od_read_lead an_read_lead : Option Addr} {sl_read_lead : Array (Option Value)} {oc_read_lead kV_read_lead dc_read_lead pm_read_lead cd_read_lead ct_read_lead : Value}
    {f_read_words : Addr} {od_read_words an_read_words : Option Addr} {sl_read_words : Array (Option Value)} {oc_read_words kV_read_words dc_read_words pm_read_words cd_read_words ct_read_words : Value}
    {f_read_pair : Addr} {od_read_pair an_read_pair : Option Addr} {sl_read_pair : Array (Option Value)} {oc_read_pair kV_read_pair dc_read_pair pm_read_pair cd_read_pair ct_read_pair : Value}
    {f_parse_machine : Addr} {od_parse_machine an_parse_machine : Option Addr} {sl_parse_machine : Array (Option Value)} {oc_parse_machine kV_parse_machine dc_parse_machine pm_parse_machine cd_parse_machine ct_parse_machine : Value}
    {f_law_outcome : Addr} {od_law_outcome an_law_outcome : Option Addr} {sl_law_outcome : Array (Option Value)} {oc_law_outcome kV_law_outcome dc_law_outcome pm_law_outcome cd_law_outcome ct_law_outcome : Value}
    {f_law_number : Addr} {od_law_number an_law_number : Option Addr} {sl_law_number : Array (Option Value)} {oc_law_number kV_law_number dc_law_number pm_law_number cd_law_number ct_law_number : Value}
    {f_law_lead : Addr} {od_law_lead an_law_lead : Option Addr} {sl_law_lead : Array (Option Value)} {oc_law_lead kV_law_lead dc_law_lead pm_law_lead cd_law_lead ct_law_lead : Value}
    {f_law_pairs : Addr} {od_law_pairs an_law_pairs : Option Addr} {sl_law_pairs : Array (Option Value)} {oc_law_pairs kV_law_pairs dc_law_pairs pm_law_pairs cd_law_pairs ct_law_pairs : Value}
    {f_law_read : Addr} {od_law_read an_law_read : Option Addr} {sl_law_read : Array (Option Value)} {oc_law_read kV_law_read dc_law_read pm_law_read cd_law_read ct_law_read : Value}
    {f_law_change : Addr} {od_law_change an_law_change : Option Addr} {sl_law_change : Array (Option Value)} {oc_law_change kV_law_change dc_law_change pm_law_change cd_law_change ct_law_change : Value}
    {f_law : Addr} {od_law an_law : Option Addr} {sl_law : Array (Option Value)} {oc_law kV_law dc_law pm_law cd_law ct_law : Value}
    {C_SynthError : Addr}
    {C_InvalidMachine : Addr}
    {C_MachineSyntaxError : Addr}
    {tk_DIGITS : Tok}
    (oa_Machine : PySem.W.nsIn K mainGlobals "Machine" = some (some (.ref C_Machine)))
    (og_Machine : PySem.W.plainGet K C_Machine Str.empty = true)
    (oh_Machine : PySem.W.hasDictIn K C_Machine = true)
    (oo_Machine : PySem.W.plainOver K C_Machine = true)
    (os_Machine : PySem.W.findIn K (.ref C_Machine) "__setattr__" = some (some (.builtin "object.__setattr__")))
    (om_Machine : PySem.W.makesIn K C_Machine = true)
    (ok_Machine : PySem.W.keepIn K (.ref C_Machine) = true)
    (on_Machine_inputs : PySem.W.findIn K (.ref C_Machine) "inputs" = some none)
    (on_Machine_outputs : PySem.W.findIn K (.ref C_Machine) "outputs" = some none)
    (on_Machine_lead : PySem.W.findIn K (.ref C_Machine) "lead" = some none)
    (on_Machine_opening : PySem.W.findIn K (.ref C_Machine) "opening" = some none)
    (on_Machine_rows : PySem.W.findIn K (.ref C_Machine) "rows" = some none)
    (a_law_draws : PySem.W.nsIn K mainGlobals "_law_draws" = some (some (.ref f_law_draws)))
    (l_law_draws : K.lookup f_law_draws = some ⟨oc_law_draws, od_law_draws, .func (PySem.W.fnOf "_law_draws" "_law_draws" (defArgs s_law_draws) (defBody s_law_draws) (defScope s_law_draws) .none kV_law_draws dc_law_draws pm_law_draws an_law_draws cd_law_draws ct_law_draws), sl_law_draws⟩)
    (c_law_draws : PySem.W.codeIn K cd_law_draws "_law_draws" = true)
    (k_law_draws : PySem.W.keepIn K (.ref f_law_draws) = true)
    (a_law_take : PySem.W.nsIn K mainGlobals "_law_take" = some (some (.ref f_law_take)))
    (l_law_take : K.lookup f_law_take = some ⟨oc_law_take, od_law_take, .func (PySem.W.fnOf "_law_take" "_law_take" (defArgs s_law_take) (defBody s_law_take) (defScope s_law_take) .none kV_law_take dc_law_take pm_law_take an_law_take cd_law_take ct_law_take), sl_law_take⟩)
    (c_law_take : PySem.W.codeIn K cd_law_take "_law_take" = true)
    (k_law_take : PySem.W.keepIn K (.ref f_law_take) = true)
    (a_law_machine : PySem.W.nsIn K mainGlobals "_law_machine" = some (some (.ref f_law_machine)))
    (l_law_machine : K.lookup f_law_machine = some ⟨oc_law_machine, od_law_machine, .func (PySem.W.fnOf "_law_machine" "_law_machine" (defArgs s_law_machine) (defBody s_law_machine) (defScope s_law_machine) .none kV_law_machine dc_law_machine pm_law_machine an_law_machine cd_law_machine ct_law_machine), sl_law_machine⟩)
    (c_law_machine : PySem.W.codeIn K cd_law_machine "_law_machine" = true)
    (k_law_machine : PySem.W.keepIn K (.ref f_law_machine) = true)
    (a_law_is_integer : PySem.W.nsIn K mainGlobals "_law_is_integer" = some (some (.ref f_law_is_integer)))
    (l_law_is_integer : K.lookup f_law_is_integer = some ⟨oc_law_is_integer, od_law_is_integer, .func (PySem.W.fnOf "_law_is_integer" "_law_is_integer" (defArgs s_law_is_integer) (defBody s_law_is_integer) (defScope s_law_is_integer) .none kV_law_is_integer dc_law_is_integer pm_law_is_integer an_law_is_integer cd_law_is_integer ct_law_is_integer), sl_law_is_integer⟩)
    (c_law_is_integer : PySem.W.codeIn K cd_law_is_integer "_law_is_integer" = true)
    (k_law_is_integer : PySem.W.keepIn K (.ref f_law_is_integer) = true)
    (a_law_integers : PySem.W.nsIn K mainGlobals "_law_integers" = some (some (.ref f_law_integers)))
    (l_law_integers : K.lookup f_law_integers = some ⟨oc_law_integers, od_law_integers, .func (PySem.W.fnOf "_law_integers" "_law_integers" (defArgs s_law_integers) (defBody s_law_integers) (defScope s_law_integers) .none kV_law_integers dc_law_integers pm_law_integers an_law_integers cd_law_integers ct_law_integers), sl_law_integers⟩)
    (c_law_integers : PySem.W.codeIn K cd_law_integers "_law_integers" = true)
    (k_law_integers : PySem.W.keepIn K (.ref f_law_integers) = true)
    (a_law_is_machine : PySem.W.nsIn K mainGlobals "_law_is_machine" = some (some (.ref f_law_is_machine)))
    (l_law_is_machine : K.lookup f_law_is_machine = some ⟨oc_law_is_machine, od_law_is_machine, .func (PySem.W.fnOf "_law_is_machine" "_law_is_machine" (defArgs s_law_is_machine) (defBody s_law_is_machine) (defScope s_law_is_machine) .none kV_law_is_machine dc_law_is_machine pm_law_is_machine an_law_is_machine cd_law_is_machine ct_law_is_machine), sl_law_is_machine⟩)
    (c_law_is_machine : PySem.W.codeIn K cd_law_is_machine "_law_is_machine" = true)
    (k_law_is_machine : PySem.W.keepIn K (.ref f_law_is_machine) = true)
    (a_law_machine_text : PySem.W.nsIn K mainGlobals "_law_machine_text" = some (some (.ref f_law_machine_text)))
    (l_law_machine_text : K.lookup f_law_machine_text = some ⟨oc_law_machine_text, od_law_machine_text, .func (PySem.W.fnOf "_law_machine_text" "_law_machine_text" (defArgs s_law_machine_text) (defBody s_law_machine_text) (defScope s_law_machine_text) .none kV_law_machine_text dc_law_machine_text pm_law_machine_text an_law_machine_text cd_law_machine_text ct_law_machine_text), sl_law_machine_text⟩)
    (c_law_machine_text : PySem.W.codeIn K cd_law_machine_text "_law_machine_text" = true)
    (k_law_machine_text : PySem.W.keepIn K (.ref f_law_machine_text) = true)
    (a_all_below : PySem.W.nsIn K mainGlobals "all_below" = some (some (.ref f_all_below)))
    (l_all_below : K.lookup f_all_below = some ⟨oc_all_below, od_all_below, .func (PySem.W.fnOf "all_below" "all_below" (defArgs s_all_below) (defBody s_all_below) (defScope s_all_below) .none kV_all_below dc_all_below pm_all_below an_all_below cd_all_below ct_all_below), sl_all_below⟩)
    (c_all_below : PySem.W.codeIn K cd_all_below "all_below" = true)
    (k_all_below : PySem.W.keepIn K (.ref f_all_below) = true)
    (a_Machine_init : PySem.W.findIn K (.ref C_Machine) "__init__" = some (some (.ref f_Machine_init)))
    (l_Machine_init : K.lookup f_Machine_init = some ⟨oc_Machine_init, od_Machine_init, .func (PySem.W.fnOf "__init__" "Machine.__init__" (defArgs s_Machine_init) (defBody s_Machine_init) (defScope s_Machine_init) .none kV_Machine_init dc_Machine_init pm_Machine_init an_Machine_init cd_Machine_init ct_Machine_init), sl_Machine_init⟩)
    (c_Machine_init : PySem.W.codeIn K cd_Machine_init "Machine.__init__" = true)
    (k_Machine_init : PySem.W.keepIn K (.ref f_Machine_init) = true)
    (i_Machine_init : PySem.W.isFn K (.ref f_Machine_init) = true)
    (a_read_number : PySem.W.nsIn K mainGlobals "read_number" = some (some (.ref f_read_number)))
    (l_read_number : K.lookup f_read_number = some ⟨oc_read_number, od_read_number, .func (PySem.W.fnOf "read_number" "read_number" (defArgs s_read_number) (defBody s_read_number) (defScope s_read_number) .none kV_read_number dc_read_number pm_read_number an_read_number cd_read_number ct_read_number), sl_read_number⟩)
    (c_read_number : PySem.W.codeIn K cd_read_number "read_number" = true)
    (k_read_number : PySem.W.keepIn K (.ref f_read_number) = true)
    (a_read_lead : PySem.W.nsIn K mainGlobals "read_lead" = some (some (.ref f_read_lead)))
    (l_read_lead : K.lookup f_read_lead = some ⟨oc_read_lead, od_read_lead, .func (PySem.W.fnOf "read_lead" "read_lead" (defArgs s_read_lead) (defBody s_read_lead) (defScope s_read_lead) .none kV_read_lead dc_read_lead pm_read_lead an_read_lead cd_read_lead ct_read_lead), sl_read_lead⟩)
    (c_read_lead : PySem.W.codeIn K cd_read_lead "read_lead" = true)
    (k_read_lead : PySem.W.keepIn K (.ref f_read_lead) = true)
    (a_read_words : PySem.W.nsIn K mainGlobals "read_words" = some (some (.ref f_read_words)))
    (l_read_words : K.lookup f_read_words = some ⟨oc_read_words, od_read_words, .func (PySem.W.fnOf "read_words" "read_words" (defArgs s_read_words) (defBody s_read_words) (defScope s_read_words) .none kV_read_words dc_read_words pm_read_words an_read_words cd_read_words ct_read_words), sl_read_words⟩)
    (c_read_words : PySem.W.codeIn K cd_read_words "read_words" = true)
    (k_read_words : PySem.W.keepIn K (.ref f_read_words) = true)
    (a_read_pair : PySem.W.nsIn K mainGlobals "read_pair" = some (some (.ref f_read_pair)))
    (l_read_pair : K.lookup f_read_pair = some ⟨oc_read_pair, od_read_pair, .func (PySem.W.fnOf "read_pair" "read_pair" (defArgs s_read_pair) (defBody s_read_pair) (defScope s_read_pair) .none kV_read_pair dc_read_pair pm_read_pair an_read_pair cd_read_pair ct_read_pair), sl_read_pair⟩)
    (c_read_pair : PySem.W.codeIn K cd_read_pair "read_pair" = true)
    (k_read_pair : PySem.W.keepIn K (.ref f_read_pair) = true)
    (a_parse_machine : PySem.W.nsIn K mainGlobals "parse_machine" = some (some (.ref f_parse_machine)))
    (l_parse_machine : K.lookup f_parse_machine = some ⟨oc_parse_machine, od_parse_machine, .func (PySem.W.fnOf "parse_machine" "parse_machine" (defArgs s_parse_machine) (defBody s_parse_machine) (defScope s_parse_machine) .none kV_parse_machine dc_parse_machine pm_parse_machine an_parse_machine cd_parse_machine ct_parse_machine), sl_parse_machine⟩)
    (c_parse_machine : PySem.W.codeIn K cd_parse_machine "parse_machine" = true)
    (k_parse_machine : PySem.W.keepIn K (.ref f_parse_machine) = true)
    (a_law_outcome : PySem.W.nsIn K mainGlobals "_law_outcome" = some (some (.ref f_law_outcome)))
    (l_law_outcome : K.lookup f_law_outcome = some ⟨oc_law_outcome, od_law_outcome, .func (PySem.W.fnOf "_law_outcome" "_law_outcome" (defArgs s_law_outcome) (defBody s_law_outcome) (defScope s_law_outcome) .none kV_law_outcome dc_law_outcome pm_law_outcome an_law_outcome cd_law_outcome ct_law_outcome), sl_law_outcome⟩)
    (c_law_outcome : PySem.W.codeIn K cd_law_outcome "_law_outcome" = true)
    (k_law_outcome : PySem.W.keepIn K (.ref f_law_outcome) = true)
    (a_law_number : PySem.W.nsIn K mainGlobals "_law_number" = some (some (.ref f_law_number)))
    (l_law_number : K.lookup f_law_number = some ⟨oc_law_number, od_law_number, .func (PySem.W.fnOf "_law_number" "_law_number" (defArgs s_law_number) (defBody s_law_number) (defScope s_law_number) .none kV_law_number dc_law_number pm_law_number an_law_number cd_law_number ct_law_number), sl_law_number⟩)
    (c_law_number : PySem.W.codeIn K cd_law_number "_law_number" = true)
    (k_law_number : PySem.W.keepIn K (.ref f_law_number) = true)
    (a_law_lead : PySem.W.nsIn K mainGlobals "_law_lead" = some (some (.ref f_law_lead)))
    (l_law_lead : K.lookup f_law_lead = some ⟨oc_law_lead, od_law_lead, .func (PySem.W.fnOf "_law_lead" "_law_lead" (defArgs s_law_lead) (defBody s_law_lead) (defScope s_law_lead) .none kV_law_lead dc_law_lead pm_law_lead an_law_lead cd_law_lead ct_law_lead), sl_law_lead⟩)
    (c_law_lead : PySem.W.codeIn K cd_law_lead "_law_lead" = true)
    (k_law_lead : PySem.W.keepIn K (.ref f_law_lead) = true)
    (a_law_pairs : PySem.W.nsIn K mainGlobals "_law_pairs" = some (some (.ref f_law_pairs)))
    (l_law_pairs : K.lookup f_law_pairs = some ⟨oc_law_pairs, od_law_pairs, .func (PySem.W.fnOf "_law_pairs" "_law_pairs" (defArgs s_law_pairs) (defBody s_law_pairs) (defScope s_law_pairs) .none kV_law_pairs dc_law_pairs pm_law_pairs an_law_pairs cd_law_pairs ct_law_pairs), sl_law_pairs⟩)
    (c_law_pairs : PySem.W.codeIn K cd_law_pairs "_law_pairs" = true)
    (k_law_pairs : PySem.W.keepIn K (.ref f_law_pairs) = true)
    (a_law_read : PySem.W.nsIn K mainGlobals "_law_read" = some (some (.ref f_law_read)))
    (l_law_read : K.lookup f_law_read = some ⟨oc_law_read, od_law_read, .func (PySem.W.fnOf "_law_read" "_law_read" (defArgs s_law_read) (defBody s_law_read) (defScope s_law_read) .none kV_law_read dc_law_read pm_law_read an_law_read cd_law_read ct_law_read), sl_law_read⟩)
    (c_law_read : PySem.W.codeIn K cd_law_read "_law_read" = true)
    (k_law_read : PySem.W.keepIn K (.ref f_law_read) = true)
    (a_law_change : PySem.W.nsIn K mainGlobals "_law_change" = some (some (.ref f_law_change)))
    (l_law_change : K.lookup f_law_change = some ⟨oc_law_change, od_law_change, .func (PySem.W.fnOf "_law_change" "_law_change" (defArgs s_law_change) (defBody s_law_change) (defScope s_law_change) .none kV_law_change dc_law_change pm_law_change an_law_change cd_law_change ct_law_change), sl_law_change⟩)
    (c_law_change : PySem.W.codeIn K cd_law_change "_law_change" = true)
    (k_law_change : PySem.W.keepIn K (.ref f_law_change) = true)
    (a_law : PySem.W.nsIn K mainGlobals "law" = some (some (.ref f_law)))
    (l_law : K.lookup f_law = some ⟨oc_law, od_law, .func (PySem.W.fnOf "law" "law" (defArgs s_law) (defBody s_law) (defScope s_law) .none kV_law dc_law pm_law an_law cd_law ct_law), sl_law⟩)
    (c_law : PySem.W.codeIn K cd_law "law" = true)
    (k_law : PySem.W.keepIn K (.ref f_law) = true)
    (z_bool : PySem.W.nsIn K mainGlobals "bool" = some none)
    (z_int : PySem.W.nsIn K mainGlobals "int" = some none)
    (z_isinstance : PySem.W.nsIn K mainGlobals "isinstance" = some none)
    (z_len : PySem.W.nsIn K mainGlobals "len" = some none)
    (z_list : PySem.W.nsIn K mainGlobals "list" = some none)
    (z_max : PySem.W.nsIn K mainGlobals "max" = some none)
    (z_range : PySem.W.nsIn K mainGlobals "range" = some none)
    (z_str : PySem.W.nsIn K mainGlobals "str" = some none)
    (z_tuple : PySem.W.nsIn K mainGlobals "tuple" = some none)
    (xa_SynthError : PySem.W.nsIn K mainGlobals "SynthError" = some (some (.ref C_SynthError)))
    (xq_SynthError : PySem.W.excIn K C_SynthError [.type "ValueError", .type "Exception", .type "BaseException", .type "object"] "ValueError.__new__" = true)
    (xk_SynthError : PySem.W.keepIn K (.ref C_SynthError) = true)
    (xb_SynthError : PySem.W.subIn K (.ref C_SynthError) (.type "BaseException") = some true)
    (xt_SynthError : PySem.W.typeIn K (.ref C_SynthError) = some (.type "type"))
    (xa_InvalidMachine : PySem.W.nsIn K mainGlobals "InvalidMachine" = some (some (.ref C_InvalidMachine)))
    (xq_InvalidMachine : PySem.W.excIn K C_InvalidMachine [.type "ValueError", .type "Exception", .type "BaseException", .type "object"] "ValueError.__new__" = true)
    (xk_InvalidMachine : PySem.W.keepIn K (.ref C_InvalidMachine) = true)
    (xb_InvalidMachine : PySem.W.subIn K (.ref C_InvalidMachine) (.type "BaseException") = some true)
    (xt_InvalidMachine : PySem.W.typeIn K (.ref C_InvalidMachine) = some (.type "type"))
    (xa_MachineSyntaxError : PySem.W.nsIn K mainGlobals "MachineSyntaxError" = some (some (.ref C_MachineSyntaxError)))
    (xq_MachineSyntaxError : PySem.W.excIn K C_MachineSyntaxError [.type "ValueError", .type "Exception", .type "BaseException", .type "object"] "ValueError.__new__" = true)
    (xk_MachineSyntaxError : PySem.W.keepIn K (.ref C_MachineSyntaxError) = true)
    (xb_MachineSyntaxError : PySem.W.subIn K (.ref C_MachineSyntaxError) (.type "BaseException") = some true)
    (xt_MachineSyntaxError : PySem.W.typeIn K (.ref C_MachineSyntaxError) = some (.type "type"))
    (xi_InvalidMachine : PySem.W.hasDictIn K C_InvalidMachine = true)
    (xi_MachineSyntaxError : PySem.W.hasDictIn K C_MachineSyntaxError = true)
    (xi_SynthError : PySem.W.hasDictIn K C_SynthError = true)
    (xs_InvalidMachine_InvalidMachine : PySem.W.subIn K (.ref C_InvalidMachine) (.ref C_InvalidMachine) = some true)
    (xs_InvalidMachine_MachineSyntaxError : PySem.W.subIn K (.ref C_InvalidMachine) (.ref C_MachineSyntaxError) = some false)
    (xs_MachineSyntaxError_MachineSyntaxError : PySem.W.subIn K (.ref C_MachineSyntaxError) (.ref C_MachineSyntaxError) = some true)
    (xs_MachineSyntaxError_SynthError : PySem.W.subIn K (.ref C_MachineSyntaxError) (.ref C_SynthError) = some true)
    (y1_MachineSyntaxError : PySem.W.findIn K (.ref C_MachineSyntaxError) "__getattribute__" = some (some (.builtin "BaseException.__getattribute__")))
    (y2_MachineSyntaxError : PySem.W.findIn K (.ref C_MachineSyntaxError) "__getattr__" = some none)
    (y5_MachineSyntaxError : PySem.W.findIn K (.ref C_MachineSyntaxError) "__class__" = some (some (.builtin "object.__class__")))
    (y6_MachineSyntaxError : PySem.W.specialIn K (.builtin "object.__class__") "__get__" = some (some (.builtin "getset_descriptor.__get__")))
    (y7_MachineSyntaxError : PySem.W.takesIn K (.builtin "object.__class__") = some true)
    (y8_MachineSyntaxError : PySem.W.mroIn K C_MachineSyntaxError (.type "object") = some true)
    (e8_Machine : PySem.W.mroIn K C_Machine (.type "object") = some true)
    (e0_Machine : PySem.W.findIn K (.ref C_Machine) "__eq__" = some (some (.builtin "object.__eq__")))
    (ga_DIGITS : PySem.W.nsIn K mainGlobals "DIGITS" = some (some (.str "0123456789" tk_DIGITS))) :
    Txt w K mg (gm w [("SynthError", C_SynthError), ("InvalidMachine", C_InvalidMachine), ("MachineSyntaxError", C_MachineSyntaxError), ("Machine", C_Machine)]) :=
  ⟨PySem.W.mg_none_of X G z_bool,
   PySem.W.mg_none_of X G z_int,
   PySem.W.mg_none_of X G z_isinstance,
   PySem.W.mg_none_of X G z_len,
   PySem.W.mg_none_of X G z_list,
   PySem.W.mg_none_of X G z_max,
   PySem.W.mg_none_of X G z_range,
   PySem.W.mg_none_of X G z_str,
   PySem.W.mg_none_of X G z_tuple,
   def_mk l_law_draws c_law_draws k_law_draws (PySem.W.mg_of X G a_law_draws) (fun us hl => match us, hl with | [_, _], _ => rfl),
   def_mk l_law_take c_law_take k_law_take (PySem.W.mg_of X G a_law_take) (fun us hl => match us, hl with | [_, _], _ => rfl),
   def_mk l_law_machine c_law_machine k_law_machine (PySem.W.mg_of X G a_law_machine) (fun us hl => match us, hl with | [_, _, _, _, _], _ => rfl),
   def_mk l_law_is_integer c_law_is_integer k_law_is_integer (PySem.W.mg_of X G a_law_is_integer) (fun us hl => match us, hl with | [_], _ => rfl),
   def_mk l_law_integers c_law_integers k_law_integers (PySem.W.mg_of X G a_law_integers) (fun us hl => match us, hl with | [_, _, _], _ => rfl),
   def_mk l_law_is_machine c_law_is_machine k_law_is_machine (PySem.W.mg_of X G a_law_is_machine) (fun us hl => match us, hl with | [_, _, _, _], _ => rfl),
   def_mk l_law_machine_text c_law_machine_text k_law_machine_text (PySem.W.mg_of X G a_law_machine_text) (fun us hl => match us, hl with | [_, _, _, _, _], _ => rfl),
   def_mk l_all_below c_all_below k_all_below (PySem.W.mg_of X G a_all_below) (fun us hl => match us, hl with | [_, _], _ => rfl),
   mkd_mk l_Machine_init c_Machine_init k_Machine_init ⟨om_Machine, a_Machine_init, i_Machine_init, ok_Machine⟩ (PySem.W.mg_of X G oa_Machine) (fun us hl => match us, hl with | [_, _, _, _, _, _], _ => rfl),
   def_mk l_read_number c_read_number k_read_number (PySem.W.mg_of X G a_read_number) (fun us hl => match us, hl with | [_], _ => rfl),
   def_mk l_read_lead c_read_lead k_read_lead (PySem.W.mg_of X G a_read_lead) (fun us hl => match us, hl with | [_], _ => rfl),
   def_mk l_read_words c_read_words k_read_words (PySem.W.mg_of X G a_read_words) (fun us hl => match us, hl with | [_, _], _ => rfl),
   def_mk l_read_pair c_read_pair k_read_pair (PySem.W.mg_of X G a_read_pair) (fun us hl => match us, hl with | [_], _ => rfl),
   def_mk l_parse_machine c_parse_machine k_parse_machine (PySem.W.mg_of X G a_parse_machine) (fun us hl => match us, hl with | [_], _ => rfl),
   def_mk l_law_outcome c_law_outcome k_law_outcome (PySem.W.mg_of X G a_law_outcome) (fun us hl => match us, hl with | [_], _ => rfl),
   def_mk l_law_number c_law_number k_law_number (PySem.W.mg_of X G a_law_number) (fun us hl => match us, hl with | [_], _ => rfl),
   def_mk l_law_lead c_law_lead k_law_lead (PySem.W.mg_of X G a_law_lead) (fun us hl => match us, hl with | [_], _ => rfl),
   def_mk l_law_pairs c_law_pairs k_law_pairs (PySem.W.mg_of X G a_law_pairs) (fun us hl => match us, hl with | [_], _ => rfl),
   def_mk l_law_read c_law_read k_law_read (PySem.W.mg_of X G a_law_read) (fun us hl => match us, hl with | [_], _ => rfl),
   def_mk l_law_change c_law_change k_law_change (PySem.W.mg_of X G a_law_change) (fun us hl => match us, hl with | [_, _], _ => rfl),
   def_mk l_law c_law k_law (PySem.W.mg_of X G a_law) (fun us hl => match us, hl with | [_], _ => rfl),
   ⟨xq_SynthError, PySem.W.mg_of X G xa_SynthError, xk_SynthError, xb_SynthError, xt_SynthError⟩,
   ⟨xq_InvalidMachine, PySem.W.mg_of X G xa_InvalidMachine, xk_InvalidMachine, xb_InvalidMachine, xt_InvalidMachine⟩,
   ⟨xq_MachineSyntaxError, PySem.W.mg_of X G xa_MachineSyntaxError, xk_MachineSyntaxError, xb_MachineSyntaxError, xt_MachineSyntaxError⟩,
   PySem.W.exm_ref xb_InvalidMachine xi_InvalidMachine xt_InvalidMachine xs_InvalidMachine_InvalidMachine,
   PySem.W.exm_ref xb_MachineSyntaxError xi_MachineSyntaxError xt_MachineSyntaxError xs_InvalidMachine_MachineSyntaxError,
   PySem.W.exm_ref xb_MachineSyntaxError xi_MachineSyntaxError xt_MachineSyntaxError xs_MachineSyntaxError_MachineSyntaxError,
   ⟨⟨y1_MachineSyntaxError, y2_MachineSyntaxError, xb_MachineSyntaxError, xi_MachineSyntaxError, y5_MachineSyntaxError, y6_MachineSyntaxError, y7_MachineSyntaxError, y8_MachineSyntaxError⟩, kit_own xi_SynthError xt_SynthError xs_MachineSyntaxError_SynthError (.inl rfl)⟩,
   (tab_cons ⟨⟨og_Machine, oh_Machine, oo_Machine, os_Machine⟩, (al_cons on_Machine_inputs (al_cons on_Machine_outputs (al_cons on_Machine_lead (al_cons on_Machine_opening (al_cons on_Machine_rows al_nil)))))⟩ tab_nil),
   ⟨e8_Machine, e0_Machine⟩,
   gcs_mk (PySem.W.mg_of X G ga_DIGITS),
   rfl⟩
end K44
set_option Elab.async false
set_option linter.all false
set_option maxRecDepth 100000
namespace Mn
open PySem PySem.Spec PyProof.Rows L2

section
variable {env : MEnv} {h h1 h2 h3 : MH} {a b c : ME} {x y z d : MV} {ms : MA} {xs ys : List MV} {t u : MT} {i : Nat}
theorem ev_V (e : env[i]? = some (some d)) : mV i env h = .ok d h := by unfold mV; rw [e]
theorem ev_tup (ha : ms env h = .ok xs h1) (hz : xs.length ≤ sizeLine) : mTup ms env h = .ok (.tup xs) h1 := by unfold mTup; rw [ha]; show (if xs.length ≤ sizeLine then _ else _) = _; rw [if_pos hz]
theorem ev_lstF (ha : ms env h = .ok xs h1) (hz : xs.length ≤ sizeLine) : mLst false ms env h = .ok (.fl xs) h1 := by unfold mLst; rw [ha]; show (if xs.length ≤ sizeLine then _ else _) = _; rw [if_pos hz]; rfl
theorem f_max {m n : Int} : fMax2 [.int m, .int n] h = .ok (.int (if n > m then n else m)) h := rfl
theorem f_lenT : fLen [.tup xs] h = .ok (.int xs.length) h := rfl
theorem f_lenF : fLen [.fl xs] h = .ok (.int xs.length) h := rfl
theorem f_lenS : fLen [.sl xs] h = .ok (.int xs.length) h := rfl
theorem f_lenR {n : Nat} (e : h[n]? = some (.lst xs)) : fLen [.ref n] h = .ok (.int xs.length) h := by unfold fLen; simp only; rw [e]
theorem f_listF {v : Bool} (e : seqAt h x = some xs) : fList v [x] h = retL v xs h := by unfold fList; simp only; rw [e]
theorem f_ix {k : Int} (e : seqAt h x = some xs) (hk : atI xs k = some d) : fIx x (.int k) h = .ok d h := by
  unfold fIx
  cases x with
  | str z => cases e
  | tup ys => simp only; rw [e]; simp only; rw [hk]
  | fl ys => simp only; rw [e]; simp only; rw [hk]
  | sl ys => simp only; rw [e]; simp only; rw [hk]
  | ref n => simp only; rw [e]; simp only; rw [hk]
  | _ => cases e
theorem seq_R {n : Nat} (e : h[n]? = some (.lst xs)) : seqAt h (.ref n) = some xs := by unfold seqAt lstAt; simp only; rw [e]
theorem f_slF {v : Bool} {lo hi : Option Int} : fSl v (.fl xs) lo hi h = retL v (cutM xs lo hi) h := rfl
theorem f_app {n : Nat} (e : h[n]? = some (.lst xs)) (hz : xs.length < sizeLine) : fAppend (.ref n) [y] h = .ok .non (h.set n (.lst (xs ++ [y]))) := by unfold fAppend; simp only; rw [e]; simp only; rw [if_pos hz]
theorem f_pop {n : Nat} (e : h[n]? = some (.lst (xs ++ [y]))) : fPop (.ref n) [] h = .ok y (h.set n (.lst xs)) := by
  unfold fPop; simp only; rw [e]; simp
theorem f_rev {n : Nat} (e : h[n]? = some (.lst xs)) : fReverse (.ref n) [] h = .ok .non (h.set n (.lst xs.reverse)) := by unfold fReverse; simp only; rw [e]
theorem tyc_R {n : Nat} (e : h[n]? = some (.lst xs)) : tyChk "list" h (.ref n) = true := by unfold tyChk lstAt; simp [e]
theorem f_isi {T : String} {A : String} {v : Bool} (e : tyOfM h x = some A) (e2 : isiB A T = some v) : fIsi T x h = .ok (.bl v) h := by unfold fIsi; rw [e]; simp only; rw [e2]
theorem f_eqD {e1 e2 : PyData} (a1 : dataOf h x = some e1) (a2 : dataOf h y = some e2) (s1 : SeqAt.shaped e1 = true) (s2 : SeqAt.shaped e2 = true) : fEq false x y h = .ok (.bl (PyData.eqv e1 e2)) h := by
  unfold fEq; rw [a1, a2]; simp only; rw [if_pos ⟨s1, s2⟩, if_neg Bool.false_ne_true]
theorem f_neD {e1 e2 : PyData} (a1 : dataOf h x = some e1) (a2 : dataOf h y = some e2) (s1 : SeqAt.shaped e1 = true) (s2 : SeqAt.shaped e2 = true) : fEq true x y h = .ok (.bl (!PyData.eqv e1 e2)) h := by
  unfold fEq; rw [a1, a2]; simp only; rw [if_pos ⟨s1, s2⟩]; rfl
theorem f_isN0 (hx : x ≠ .non) : fIsN false x .non h = .ok (.bl false) h := by cases x <;> first | exact absurd rfl hx | rfl
theorem f_notN0 (hx : x ≠ .non) : fIsN true x .non h = .ok (.bl true) h := by cases x <;> first | exact absurd rfl hx | rfl
end

@[irreducible] def Ends (Q : OutS → Prop) (o : OutS) : Prop := Q o
theorem Ends.out {Q : OutS → Prop} {o : OutS} (k : Ends Q o) : Q o := by unfold Ends at k; exact k
theorem Ends.of {Q : OutS → Prop} {o : OutS} (k : Q o) : Ends Q o := by unfold Ends; exact k
section
variable {Q : OutS → Prop} {env env1 : MEnv} {h h1 h2 : MH} {a b : MS} {e : ME} {t : MT} {d : MV} {i : Nat}
def Does (Q : MV → MH → Prop) (o : Out MV) : Prop := ∃ v h, o = .ok v h ∧ Q v h
theorem Does.of {P : MV → MH → Prop} {v : MV} (k : P v h) : Does P (.ok v h) := ⟨v, h, rfl, k⟩
theorem it_range1 {ms : MA} {j : Int} (ha : ms env h = .ok [.int j] h1) (hj : -(2 ^ 62) ≤ j ∧ j < 2 ^ 62) : iRange1 ms env h = .ok (.st (rangeM 0 j.toNat)) h1 := by unfold iRange1; rw [ha]; simp only [Out.bind]; rw [if_pos hj]
end
theorem set_same {h : MH} {n : Nat} {c c' : Cell} (e : h[n]? = some c) : (h.set n c')[n]? = some c' := List.getElem?_set_self (List.getElem?_eq_some_iff.mp e).1
theorem set_other {h : MH} {n m : Nat} {c' : Cell} {x : Option Cell} (hn : n ≠ m) (e : h[m]? = x) : (h.set n c')[m]? = x := by rw [List.getElem?_set_ne hn]; exact e
theorem app_same {h : MH} {c : Cell} : (h ++ [c])[h.length]? = some c := by simp
theorem app_old {h g : MH} {n : Nat} {c : Cell} (e : h[n]? = some c) : (h ++ g)[n]? = some c := by rw [List.getElem?_append_left (List.getElem?_eq_some_iff.mp e).1]; exact e
structure Kp (d : Nat) (h h' : MH) : Prop where
  len : h.length ≤ h'.length
  old : ∀ (n : Nat) c, n ≠ d → h[n]? = some c → h'[n]? = some c
theorem Kp.refl {d : Nat} {h : MH} : Kp d h h := ⟨Nat.le_refl _, fun _ _ _ e => e⟩
theorem Kp.trans {d : Nat} {h h1 h2 : MH} (a : Kp d h h1) (b : Kp d h1 h2) : Kp d h h2 := ⟨Nat.le_trans a.len b.len, fun n c hn e => b.old n c hn (a.old n c hn e)⟩
theorem Kp.set {d : Nat} {h : MH} {c : Cell} : Kp d h (h.set d c) := ⟨by rw [List.length_set]; exact Nat.le_refl _, fun n c' hn e => set_other (Ne.symm hn) e⟩
theorem Kp.app {d : Nat} {h g : MH} : Kp d h (h ++ g) := ⟨by rw [List.length_append]; omega, fun n c _ e => app_old e⟩
end Mn
set_option Elab.async false
set_option linter.all false
set_option maxRecDepth 100000
namespace Ty
open PySem Mn

inductive X (σ α : Type) where
  | ok (a : α) (s : σ) | exc (C : Str) (xs : List MV) (s : σ) | bad
inductive F (σ ρ : Type) where
  | nx (s : σ) | bk (s : σ) | ct (s : σ) | rt (r : ρ) (s : σ) | exc (C : Str) (xs : List MV) (s : σ) | bad
@[reducible] def X.bind {σ α β : Type} (x : X σ α) (f : α → σ → X σ β) : X σ β := match x with
  | .ok a s => f a s
  | .exc C xs s => .exc C xs s
  | .bad => .bad
@[reducible] def X.toF {σ α ρ : Type} (x : X σ α) (f : α → σ → F σ ρ) : F σ ρ := match x with
  | .ok a s => f a s
  | .exc C xs s => .exc C xs s
  | .bad => .bad
@[reducible] def F.bind {σ ρ : Type} (x : F σ ρ) (f : σ → F σ ρ) : F σ ρ := match x with
  | .nx s => f s
  | o => o

structure Pr where
  r : MV → MH → List Nat → Prop
  frame : ∀ {v h h' fp}, r v h fp → (∀ n ∈ fp, h'[n]? = h[n]?) → r v h' fp
  dom : ∀ {v h fp}, r v h fp → ∀ n ∈ fp, n < h.length
abbrev Enc (α : Type) := α → Pr
def fz {α : Type} (val : α → MV) : Enc α := fun a => ⟨fun v _ fp => v = val a ∧ fp = [], fun q _ => q, fun q n hn => by rw [q.2] at hn; cases hn⟩
def own1 {α : Type} (val : α → MV) : Enc (List α) := fun xs => ⟨fun v h fp => ∃ n, v = .ref n ∧ h[n]? = some (.lst (xs.map val)) ∧ fp = [n],
  fun {v h h' fp} q k => by
    obtain ⟨n, e1, e2, e3⟩ := q
    exact ⟨n, e1, by rw [k n (by rw [e3]; exact List.mem_singleton.mpr rfl)]; exact e2, e3⟩,
  fun {v h fp} q n hn => by
    obtain ⟨m, e1, e2, e3⟩ := q
    rw [e3] at hn
    rw [List.mem_singleton.mp hn]
    exact (List.getElem?_eq_some_iff.mp e2).1⟩
def All2 {α : Type} (val : α → MV) (h : MH) : List (List α) → List Nat → Prop
  | [], [] => True
  | xs :: xss, n :: ns => h[n]? = some (.lst (xs.map val)) ∧ All2 val h xss ns
  | _, _ => False
theorem All2.frame {α : Type} {val : α → MV} {h h' : MH} : ∀ {xss : List (List α)} {ns : List Nat}, All2 val h xss ns → (∀ n ∈ ns, h'[n]? = h[n]?) → All2 val h' xss ns
  | [], [], _, _ => trivial
  | xs :: xss, n :: ns, q, k => ⟨by rw [k n (List.mem_cons_self ..)]; exact q.1, All2.frame q.2 fun m hm => k m (List.mem_cons_of_mem _ hm)⟩
  | [], _ :: _, q, _ => q.elim
  | _ :: _, [], q, _ => q.elim
theorem All2.dom {α : Type} {val : α → MV} {h : MH} : ∀ {xss : List (List α)} {ns : List Nat}, All2 val h xss ns → ∀ n ∈ ns, n < h.length
  | [], [], _, n, hn => nomatch hn
  | xs :: xss, m :: ns, q, n, hn => by
    rcases List.mem_cons.mp hn with rfl | hn
    · exact (List.getElem?_eq_some_iff.mp q.1).1
    · exact All2.dom q.2 n hn
  | [], _ :: _, q, _, _ => q.elim
  | _ :: _, [], q, _, _ => q.elim
def own2 {α : Type} (val : α → MV) : Enc (List (List α)) := fun xss => ⟨fun v h fp => ∃ n ns, v = .ref n ∧ h[n]? = some (.lst (ns.map .ref)) ∧ All2 val h xss ns ∧ fp = n :: ns,
  fun {v h h' fp} q k => by
    obtain ⟨n, ns, e1, e2, e4, e3⟩ := q
    subst e3
    exact ⟨n, ns, e1, by rw [k n (List.mem_cons_self ..)]; exact e2, e4.frame fun m hm => k m (List.mem_cons_of_mem _ hm), rfl⟩,
  fun {v h fp} q n hn => by
    obtain ⟨m, ns, e1, e2, e4, e3⟩ := q
    subst e3
    rcases List.mem_cons.mp hn with rfl | hn
    · exact (List.getElem?_eq_some_iff.mp e2).1
    · exact e4.dom n hn⟩

structure Slot (σ : Type) where
  ix : Nat
  rep : σ → Pr
structure RS {σ : Type} (tb : Nat → Slot σ) (N : Nat) (D : List Nat) (s : σ) (env : MEnv) (h : MH) (fp : Nat → List Nat) : Prop where
  len : env.length = N
  ok : ∀ i ∈ D, ∃ v, env[(tb i).ix]? = some (some v) ∧ ((tb i).rep s).r v h (fp i)
  nd : ∀ i ∈ D, (fp i).Nodup
  dj : ∀ i ∈ D, ∀ j ∈ D, i ≠ j → ∀ n ∈ fp i, n ∉ fp j
def Wn (D : List Nat) (fp : Nat → List Nat) : Nat → Prop := fun n => ∃ i ∈ D, n ∈ fp i
structure Mono (h h' : MH) : Prop where
  len : h.length ≤ h'.length
  keep : ∀ n, n < h.length → h'[n]? = h[n]?
structure Fr (A : Nat → Prop) (h h' : MH) : Prop where
  len : h.length ≤ h'.length
  keep : ∀ n, n < h.length → ¬ A n → h'[n]? = h[n]?
def Grow (A B : Nat → Prop) (h : MH) : Prop := ∀ n, B n → A n ∨ h.length ≤ n
theorem Mono.refl {h : MH} : Mono h h := ⟨Nat.le_refl _, fun _ _ => rfl⟩
theorem Mono.trans {h h1 h2 : MH} (a : Mono h h1) (b : Mono h1 h2) : Mono h h2 := ⟨Nat.le_trans a.len b.len, fun n hn => by rw [b.keep n (Nat.lt_of_lt_of_le hn a.len), a.keep n hn]⟩
theorem Mono.app {h g : MH} : Mono h (h ++ g) := ⟨by rw [List.length_append]; omega, fun n hn => List.getElem?_append_left hn⟩
theorem Mono.fr {A : Nat → Prop} {h h' : MH} (m : Mono h h') : Fr A h h' := ⟨m.len, fun n hn _ => m.keep n hn⟩
theorem Fr.refl {A : Nat → Prop} {h : MH} : Fr A h h := ⟨Nat.le_refl _, fun _ _ _ => rfl⟩
theorem Fr.trans {A B : Nat → Prop} {h h1 h2 : MH} (a : Fr A h h1) (g : Grow A B h) (b : Fr B h1 h2) : Fr A h h2 := ⟨Nat.le_trans a.len b.len, fun n hn hA => by
  rw [b.keep n (Nat.lt_of_lt_of_le hn a.len) fun hB => (g n hB).elim hA fun q => by omega, a.keep n hn hA]⟩
theorem Fr.weak {A B : Nat → Prop} {h h1 : MH} (a : Fr A h h1) (k : ∀ n, A n → B n) : Fr B h h1 := ⟨a.len, fun n hn hB => a.keep n hn fun z => hB (k n z)⟩
theorem Grow.refl {A : Nat → Prop} {h : MH} : Grow A A h := fun _ q => .inl q
theorem Grow.trans {A B C : Nat → Prop} {h h1 : MH} (a : Grow A B h) (l : h.length ≤ h1.length) (b : Grow B C h1) : Grow A C h := fun n q => (b n q).elim (a n) fun z => .inr (Nat.le_trans l z)
theorem Grow.sub {A B C : Nat → Prop} {h : MH} (a : Grow A B h) (k : ∀ n, C n → B n) : Grow A C h := fun n q => a n (k n q)

section
variable {σ : Type} {tb : Nat → Slot σ} {N : Nat} {D D' : List Nat} {s : σ} {env : MEnv} {h h' : MH} {fp : Nat → List Nat}
theorem RS.frame (q : RS tb N D s env h fp) (k : ∀ n, Wn D fp n → h'[n]? = h[n]?) : RS tb N D s env h' fp :=
  ⟨q.len, fun i hi => let ⟨v, e1, e2⟩ := q.ok i hi; ⟨v, e1, ((tb i).rep s).frame e2 fun n hn => k n ⟨i, hi, hn⟩⟩, q.nd, q.dj⟩
theorem RS.dom (q : RS tb N D s env h fp) : ∀ n, Wn D fp n → n < h.length := fun n ⟨i, hi, hn⟩ => let ⟨_, _, e2⟩ := q.ok i hi; ((tb i).rep s).dom e2 n hn
theorem RS.mono (q : RS tb N D s env h fp) (m : Mono h h') : RS tb N D s env h' fp := q.frame fun n hn => m.keep n (q.dom n hn)
theorem RS.sub (q : RS tb N D s env h fp) (k : ∀ i ∈ D', i ∈ D) : RS tb N D' s env h fp :=
  ⟨q.len, fun i hi => q.ok i (k i hi), fun i hi => q.nd i (k i hi), fun i hi j hj => q.dj i (k i hi) j (k j hj)⟩
theorem Wn.sub (k : ∀ i ∈ D', i ∈ D) {n : Nat} (q : Wn D' fp n) : Wn D fp n := let ⟨i, hi, hn⟩ := q; ⟨i, k i hi, hn⟩
end
def subB (D' D : List Nat) : Bool := D'.all fun i => D.contains i
theorem subB_ok {D' D : List Nat} (k : subB D' D = true) : ∀ i ∈ D', i ∈ D := fun i hi => by
  have := (List.all_eq_true.mp k) i hi
  simpa using this

section
variable {σ : Type} (tb : Nat → Slot σ) (N : Nat)
def TP {α : Type} (D : List Nat) (e : ME) (p : σ → X σ α) (en : Enc α) : Prop := ∀ s env h fp, RS tb N D s env h fp → match p s with
  | .ok a s' => s' = s ∧ ∃ v h' f, e env h = .ok v h' ∧ Mono h h' ∧ (en a).r v h' f
  | .exc C xs s' => s' = s ∧ ∃ h', e env h = .exc C xs h' ∧ Mono h h'
  | .bad => True
def TPT (D : List Nat) (e : MT) (p : σ → X σ Bool) : Prop := ∀ s env h fp, RS tb N D s env h fp → match p s with
  | .ok a s' => s' = s ∧ ∃ h', e env h = .ok a h' ∧ Mono h h'
  | .exc C xs s' => s' = s ∧ ∃ h', e env h = .exc C xs h' ∧ Mono h h'
  | .bad => True
def TX {α : Type} (D : List Nat) (e : ME) (p : σ → X σ α) (en : Enc α) : Prop := ∀ s env h fp, RS tb N D s env h fp → match p s with
  | .ok a s' => ∃ v h' f fp', e env h = .ok v h' ∧ RS tb N D s' env h' fp' ∧ (en a).r v h' f ∧ f.Nodup ∧ (∀ n ∈ f, ¬ Wn D fp' n) ∧ Fr (Wn D fp) h h' ∧ Grow (Wn D fp) (fun n => Wn D fp' n ∨ n ∈ f) h
  | .exc C xs s' => ∃ h' fp', e env h = .exc C xs h' ∧ RS tb N D s' env h' fp' ∧ Fr (Wn D fp) h h' ∧ Grow (Wn D fp) (Wn D fp') h
  | .bad => True
def TXT (D : List Nat) (e : MT) (p : σ → X σ Bool) : Prop := ∀ s env h fp, RS tb N D s env h fp → match p s with
  | .ok a s' => ∃ h' fp', e env h = .ok a h' ∧ RS tb N D s' env h' fp' ∧ Fr (Wn D fp) h h' ∧ Grow (Wn D fp) (Wn D fp') h
  | .exc C xs s' => ∃ h' fp', e env h = .exc C xs h' ∧ RS tb N D s' env h' fp' ∧ Fr (Wn D fp) h h' ∧ Grow (Wn D fp) (Wn D fp') h
  | .bad => True
def TXA {α : Type} (D : List Nat) (e : MA) (p : σ → X σ α) (vs : α → List MV) : Prop := ∀ s env h fp, RS tb N D s env h fp → match p s with
  | .ok a s' => ∃ h' fp', e env h = .ok (vs a) h' ∧ RS tb N D s' env h' fp' ∧ Fr (Wn D fp) h h' ∧ Grow (Wn D fp) (Wn D fp') h
  | .exc C xs s' => ∃ h' fp', e env h = .exc C xs h' ∧ RS tb N D s' env h' fp' ∧ Fr (Wn D fp) h h' ∧ Grow (Wn D fp) (Wn D fp') h
  | .bad => True
def TPA {α : Type} (D : List Nat) (e : MA) (p : σ → X σ α) (vs : α → List MV) : Prop := ∀ s env h fp, RS tb N D s env h fp → match p s with
  | .ok a s' => s' = s ∧ ∃ h', e env h = .ok (vs a) h' ∧ Mono h h'
  | .exc C xs s' => s' = s ∧ ∃ h', e env h = .exc C xs h' ∧ Mono h h'
  | .bad => True
end
structure Cx (σ ρ : Type) where
  tb : Nat → Slot σ
  N : Nat
  Db : List Nat
  Dx : List Nat
  Dr : List Nat
  pin : List Nat
  er : Enc ρ
def Pin (pin : List Nat) (env env' : MEnv) : Prop := ∀ k ∈ pin, env'[k]? = env[k]?
def TS {σ ρ : Type} (c : Cx σ ρ) (D : List Nat) (m : MS) (p : σ → F σ ρ) (D' : List Nat) : Prop := ∀ s env h fp, RS c.tb c.N D s env h fp → match p s with
  | .nx s' => ∃ env' h' fp', m env h = .ok .nx env' h' ∧ RS c.tb c.N D' s' env' h' fp' ∧ Fr (Wn D fp) h h' ∧ Grow (Wn D fp) (Wn D' fp') h ∧ Pin c.pin env env'
  | .bk s' => ∃ env' h' fp', m env h = .ok .bk env' h' ∧ RS c.tb c.N c.Db s' env' h' fp' ∧ Fr (Wn D fp) h h' ∧ Grow (Wn D fp) (Wn c.Db fp') h ∧ Pin c.pin env env'
  | .ct s' => ∃ env' h' fp', m env h = .ok .ct env' h' ∧ RS c.tb c.N c.Db s' env' h' fp' ∧ Fr (Wn D fp) h h' ∧ Grow (Wn D fp) (Wn c.Db fp') h ∧ Pin c.pin env env'
  | .rt r s' => ∃ v env' h' f fp', m env h = .ok (.rt v) env' h' ∧ RS c.tb c.N c.Dr s' env' h' fp' ∧ (c.er r).r v h' f ∧ f.Nodup ∧ (∀ n ∈ f, ¬ Wn c.Dr fp' n) ∧ Fr (Wn D fp) h h' ∧ Grow (Wn D fp) (fun n => Wn c.Dr fp' n ∨ n ∈ f) h ∧ Pin c.pin env env'
  | .exc C xs s' => ∃ env' h' fp', m env h = .exc C xs env' h' ∧ RS c.tb c.N c.Dx s' env' h' fp' ∧ Fr (Wn D fp) h h' ∧ Grow (Wn D fp) (Wn c.Dx fp') h ∧ Pin c.pin env env'
  | .bad => True

section
variable {σ : Type} {tb : Nat → Slot σ} {N : Nat} {D D' : List Nat} {α β γ : Type} {e e1 e2 : ME} {p : σ → X σ α} {q : σ → X σ β} {val : α → MV} {en : Enc α}
theorem TP.tx (k : TP tb N D e p (fz val)) : TX tb N D e p (fz val) := fun s env h fp R => by
  have z := k s env h fp R
  cases hp : p s with
  | ok a s' =>
    rw [hp] at z
    obtain ⟨rfl, v, h', f, e1, m, r⟩ := z
    exact ⟨v, h', [], fp, e1, R.mono m, ⟨r.1, rfl⟩, List.nodup_nil, (fun n hn => nomatch hn), m.fr, fun n hn => .inl (hn.elim id fun z => nomatch z)⟩
  | exc C xs s' =>
    rw [hp] at z
    obtain ⟨rfl, h', e1, m⟩ := z
    exact ⟨h', fp, e1, R.mono m, m.fr, Grow.refl⟩
  | bad => trivial
theorem TPT.tx {e : MT} {p : σ → X σ Bool} (k : TPT tb N D e p) : TXT tb N D e p := fun s env h fp R => by
  have z := k s env h fp R
  cases hp : p s with
  | ok a s' =>
    rw [hp] at z
    obtain ⟨rfl, h', e1, m⟩ := z
    exact ⟨h', fp, e1, R.mono m, m.fr, Grow.refl⟩
  | exc C xs s' =>
    rw [hp] at z
    obtain ⟨rfl, h', e1, m⟩ := z
    exact ⟨h', fp, e1, R.mono m, m.fr, Grow.refl⟩
  | bad => trivial
theorem TPA.tx {e : MA} {vs : α → List MV} (k : TPA tb N D e p vs) : TXA tb N D e p vs := fun s env h fp R => by
  have z := k s env h fp R
  cases hp : p s with
  | ok a s' =>
    rw [hp] at z
    obtain ⟨rfl, h', e1, m⟩ := z
    exact ⟨h', fp, e1, R.mono m, m.fr, Grow.refl⟩
  | exc C xs s' =>
    rw [hp] at z
    obtain ⟨rfl, h', e1, m⟩ := z
    exact ⟨h', fp, e1, R.mono m, m.fr, Grow.refl⟩
  | bad => trivial

@[irreducible] def xC (a : α) : σ → X σ α := fun s => .ok a s
@[irreducible] def xV (g : σ → α) : σ → X σ α := fun s => .ok (g s) s
@[irreducible] def x1 (g : α → β) (p : σ → X σ α) : σ → X σ β := fun s => (p s).bind fun a s => .ok (g a) s
@[irreducible] def x1o (g : α → Option β) (p : σ → X σ α) : σ → X σ β := fun s => (p s).bind fun a s => match g a with
  | some b => .ok b s
  | none => .bad
@[irreducible] def x2 (g : α → β → γ) (p : σ → X σ α) (q : σ → X σ β) : σ → X σ γ := fun s => (p s).bind fun a s => (q s).bind fun b s => .ok (g a b) s
@[irreducible] def x2o (g : α → β → Option γ) (p : σ → X σ α) (q : σ → X σ β) : σ → X σ γ := fun s => (p s).bind fun a s => (q s).bind fun b s => match g a b with
  | some b => .ok b s
  | none => .bad
@[irreducible] def xIf {α : Type} (t : σ → X σ Bool) (p q : σ → X σ α) : σ → X σ α := fun s => (t s).bind fun c s => if c = true then p s else q s
@[irreducible] def xAnd (p q : σ → X σ Bool) : σ → X σ Bool := fun s => (p s).bind fun c s => if c = true then q s else .ok false s
@[irreducible] def xOr (p q : σ → X σ Bool) : σ → X σ Bool := fun s => (p s).bind fun c s => if c = true then .ok true s else q s
@[irreducible] def xNot (p : σ → X σ Bool) : σ → X σ Bool := fun s => (p s).bind fun c s => .ok (!c) s

theorem tp_c {d : MV} {a : α} (hd : val a = d) : TP tb N D (mC d) (xC a) (fz val) := by with_unfolding_all exact (fun s env h fp R => ⟨rfl, d, h, [], rfl, Mono.refl, hd.symm, rfl⟩)
theorem tp_v {i ix : Nat} {g : σ → α} (hi : D.contains i = true) (hx : (tb i).ix = ix) (hr : ∀ s, (tb i).rep s = en (g s)) : TP tb N D (mV ix) (xV g) en := by with_unfolding_all exact (fun s env h fp R => by
  obtain ⟨v, e1, e2⟩ := R.ok i (by simpa using hi)
  refine ⟨rfl, v, h, fp i, ?_, Mono.refl, by rw [← hr s]; exact e2⟩
  rw [hx] at e1
  exact ev_V e1)
def Op1 (f : MV → MH → Out MV) (g : α → Option β) (va : α → MV) (vb : β → MV) : Prop := ∀ a b h, g a = some b → f (va a) h = .ok (vb b) h
def Op2 (f : MV → MV → MH → Out MV) (g : α → β → Option γ) (va : α → MV) (vb : β → MV) (vc : γ → MV) : Prop := ∀ a b c h, g a b = some c → f (va a) (vb b) h = .ok (vc c) h
def Rd1 (f : MV → MH → Out MV) (g : α → Option β) (ea : Enc α) (vb : β → MV) : Prop := ∀ a b v fp h, (ea a).r v h fp → g a = some b → f v h = .ok (vb b) h
def Rd2 (f : MV → MV → MH → Out MV) (g : α → β → Option γ) (ea : Enc α) (eb : Enc β) (vc : γ → MV) : Prop := ∀ a b c u v f1 f2 h, (ea a).r u h f1 → (eb b).r v h f2 → g a b = some c → f u v h = .ok (vc c) h
theorem Op1.rd {f : MV → MH → Out MV} {g : α → Option β} {va : α → MV} {vb : β → MV} (k : Op1 f g va vb) : Rd1 f g (fz va) vb := fun a b v fp h r e => by rw [r.1]; exact k a b h e
theorem Op2.rd {f : MV → MV → MH → Out MV} {g : α → β → Option γ} {va : α → MV} {vb : β → MV} {vc : γ → MV} (k : Op2 f g va vb vc) : Rd2 f g (fz va) (fz vb) vc := fun a b c u v f1 f2 h r1 r2 e => by rw [r1.1, r2.1]; exact k a b c h e
variable {ea : Enc α} {eb : Enc β} {va : α → MV} {vb : β → MV} {vc : γ → MV}
theorem tp_1o {f : MV → MH → Out MV} {g : α → Option β} (o : Rd1 f g ea vb) (k : TP tb N D e p ea) : TP tb N D (m1 f e) (x1o g p) (fz vb) := fun s env h fp R => by
  have z := k s env h fp R
  unfold x1o m1
  cases hp : p s with
  | ok a s' =>
    rw [hp] at z
    obtain ⟨rfl, v, h', f', e1, m, r⟩ := z
    simp only [X.bind]
    cases hg : g a with
    | none => trivial
    | some b => exact ⟨rfl, vb b, h', [], by rw [e1]; exact o a b v f' h' r hg, m, rfl, rfl⟩
  | exc C xs s' =>
    rw [hp] at z
    obtain ⟨rfl, h', e1, m⟩ := z
    exact ⟨rfl, h', by rw [e1], m⟩
  | bad => trivial
theorem tp_1 {f : MV → MH → Out MV} {g : α → β} (o : Rd1 f (fun a => some (g a)) ea vb) (k : TP tb N D e p ea) : TP tb N D (m1 f e) (x1 g p) (fz vb) := by with_unfolding_all exact (tp_1o o k)
theorem tp_2o {f : MV → MV → MH → Out MV} {g : α → β → Option γ} (o : Rd2 f g ea eb vc) (k1 : TP tb N D e1 p ea) (k2 : TP tb N D e2 q eb) : TP tb N D (m2 f e1 e2) (x2o g p q) (fz vc) := fun s env h fp R => by
  have z := k1 s env h fp R
  unfold x2o m2
  cases hp : p s with
  | ok a s' =>
    rw [hp] at z
    obtain ⟨rfl, v, h', f', e1, m, r⟩ := z
    simp only [X.bind]
    rw [e1]
    simp only [Out.bind]
    have z2 := k2 s' env h' fp (R.mono m)
    cases hq : q s' with
    | ok b s2 =>
      rw [hq] at z2
      obtain ⟨rfl, w, h2, f2, e2, m2, r2⟩ := z2
      simp only
      cases hg : g a b with
      | none => trivial
      | some c =>
        refine ⟨rfl, vc c, h2, [], ?_, m.trans m2, rfl, rfl⟩
        rw [e2]
        exact o a b c v w f' f2 h2 ((ea a).frame r fun n hn => m2.keep n ((ea a).dom r n hn)) r2 hg
    | exc C xs s2 =>
      rw [hq] at z2
      obtain ⟨rfl, h2, e2, m2⟩ := z2
      exact ⟨rfl, h2, by rw [e2], m.trans m2⟩
    | bad => trivial
  | exc C xs s' =>
    rw [hp] at z
    obtain ⟨rfl, h', e1, m⟩ := z
    exact ⟨rfl, h', by rw [e1], m⟩
  | bad => trivial
theorem tp_2 {f : MV → MV → MH → Out MV} {g : α → β → γ} (o : Rd2 f (fun a b => some (g a b)) ea eb vc) (k1 : TP tb N D e1 p ea) (k2 : TP tb N D e2 q eb) : TP tb N D (m2 f e1 e2) (x2 g p q) (fz vc) := by with_unfolding_all exact (tp_2o o k1 k2)
theorem tx_1o {f : MV → MH → Out MV} {g : α → Option β} (o : Op1 f g va vb) (k : TX tb N D e p (fz va)) : TX tb N D (m1 f e) (x1o g p) (fz vb) := fun s env h fp R => by
  have z := k s env h fp R
  unfold x1o m1
  cases hp : p s with
  | ok a s' =>
    rw [hp] at z
    obtain ⟨v, h', f', fp', e1, R1, r, _, _, fr, gr⟩ := z
    simp only [X.bind]
    cases hg : g a with
    | none => trivial
    | some b => exact ⟨vb b, h', [], fp', by rw [e1, r.1]; exact o a b h' hg, R1, ⟨rfl, rfl⟩, List.nodup_nil, (fun n hn => nomatch hn), fr, gr.sub fun n q => q.elim .inl fun z => nomatch z⟩
  | exc C xs s' =>
    rw [hp] at z
    obtain ⟨h', fp', e1, R1, fr, gr⟩ := z
    exact ⟨h', fp', by rw [e1], R1, fr, gr⟩
  | bad => trivial
theorem tx_1 {f : MV → MH → Out MV} {g : α → β} (o : Op1 f (fun a => some (g a)) va vb) (k : TX tb N D e p (fz va)) : TX tb N D (m1 f e) (x1 g p) (fz vb) := by with_unfolding_all exact (tx_1o o k)
theorem tx_2o {f : MV → MV → MH → Out MV} {g : α → β → Option γ} (o : Op2 f g va vb vc) (k1 : TX tb N D e1 p (fz va)) (k2 : TX tb N D e2 q (fz vb)) : TX tb N D (m2 f e1 e2) (x2o g p q) (fz vc) := fun s env h fp R => by
  have z := k1 s env h fp R
  unfold x2o m2
  cases hp : p s with
  | ok a s' =>
    rw [hp] at z
    obtain ⟨v, h', f', fp', e1, R1, r, _, _, fr, gr⟩ := z
    simp only [X.bind]
    rw [e1]
    simp only [Out.bind]
    have z2 := k2 s' env h' fp' R1
    have gr' : Grow (Wn D fp) (Wn D fp') h := gr.sub fun n q => .inl q
    cases hq : q s' with
    | ok b s2 =>
      rw [hq] at z2
      obtain ⟨w, h2, f2, fp2, e2, R2, r2, _, _, fr2, gr2⟩ := z2
      simp only
      cases hg : g a b with
      | none => trivial
      | some c =>
        refine ⟨vc c, h2, [], fp2, ?_, R2, ⟨rfl, rfl⟩, List.nodup_nil, (fun n hn => nomatch hn), fr.trans gr' fr2, ?_⟩
        · rw [e2, r.1, r2.1]
          exact o a b c h2 hg
        · exact (gr'.trans fr.len (gr2.sub fun n q => .inl q)).sub fun n q => q.elim id fun z => nomatch z
    | exc C xs s2 =>
      rw [hq] at z2
      obtain ⟨h2, fp2, e2, R2, fr2, gr2⟩ := z2
      exact ⟨h2, fp2, by rw [e2], R2, fr.trans gr' fr2, gr'.trans fr.len gr2⟩
    | bad => trivial
  | exc C xs s' =>
    rw [hp] at z
    obtain ⟨h', fp', e1, R1, fr, gr⟩ := z
    exact ⟨h', fp', by rw [e1], R1, fr, gr⟩
  | bad => trivial
theorem tx_2 {f : MV → MV → MH → Out MV} {g : α → β → γ} (o : Op2 f (fun a b => some (g a b)) va vb vc) (k1 : TX tb N D e1 p (fz va)) (k2 : TX tb N D e2 q (fz vb)) : TX tb N D (m2 f e1 e2) (x2 g p q) (fz vc) := by with_unfolding_all exact (tx_2o o k1 k2)
end
end Ty
set_option Elab.async false
set_option linter.all false
set_option maxRecDepth 100000
namespace Ty
open PySem PySem.Spec PyProof.Rows L2 Mn

abbrev tV {α : Type} (va : α → MV) : List α → MV := fun xs => .tup (xs.map va)
abbrev lV {α : Type} (va : α → MV) : List α → MV := fun xs => .fl (xs.map va)
abbrev sV {α : Type} (va : α → MV) : List α → MV := fun xs => .sl (xs.map va)
abbrev p2 {α β : Type} (va : α → MV) (vb : β → MV) : α × β → MV := fun x => .tup [va x.1, vb x.2]
abbrev p3 {α β γ : Type} (va : α → MV) (vb : β → MV) (vc : γ → MV) : α × β × γ → MV := fun x => .tup [va x.1, vb x.2.1, vc x.2.2]
abbrev p4 {α β γ δ : Type} (va : α → MV) (vb : β → MV) (vc : γ → MV) (vd : δ → MV) : α × β × γ × δ → MV := fun x => .tup [va x.1, vb x.2.1, vc x.2.2.1, vd x.2.2.2]
abbrev p5 {α β γ δ ε : Type} (va : α → MV) (vb : β → MV) (vc : γ → MV) (vd : δ → MV) (ve : ε → MV) : α × β × γ × δ × ε → MV := fun x => .tup [va x.1, vb x.2.1, vc x.2.2.1, vd x.2.2.2.1, ve x.2.2.2.2]
abbrev p6 {α β γ δ ε ζ : Type} (va : α → MV) (vb : β → MV) (vc : γ → MV) (vd : δ → MV) (ve : ε → MV) (vf : ζ → MV) : α × β × γ × δ × ε × ζ → MV := fun x => .tup [va x.1, vb x.2.1, vc x.2.2.1, vd x.2.2.2.1, ve x.2.2.2.2.1, vf x.2.2.2.2.2]
abbrev l2 {α β : Type} (va : α → MV) (vb : β → MV) : α × β → MV := fun x => .fl [va x.1, vb x.2]
abbrev nV : Unit → MV := fun _ => .non
def oV {α : Type} (va : α → MV) : Option α → MV
  | none => .non
  | some a => va a
def NoN {α : Type} (va : α → MV) : Prop := ∀ a, va a ≠ .non

section
variable {α β γ δ : Type} {va : α → MV} {vb : β → MV} {vc : γ → MV}
theorem rd_own {xs : List α} {v : MV} {h : MH} {f : List Nat} (r : (own1 va xs).r v h f) : ∃ n, v = .ref n ∧ h[n]? = some (.lst (xs.map va)) ∧ f = [n] := r
theorem atI_map {f : α → β} {xs : List α} {k : Int} : atI (xs.map f) k = (atI xs k).map f := by
  unfold atI
  rw [List.length_map]
  cases ixN xs.length k with
  | none => rfl
  | some j => simp
theorem o_add {b : Bool} : Op2 (fAdd b) (fun i j : Int => some (i + j)) .int .int .int := fun _ _ _ _ e => by cases e; rfl
theorem o_sub : Op2 fSub (fun i j : Int => some (i - j)) .int .int .int := fun _ _ _ _ e => by cases e; rfl
@[reducible] def gMul (i j : Int) : Option Int := if cMul i j = true then some (i * j) else none
@[reducible] def gDiv (i j : Int) : Option Int := if 0 < j ∧ j < 1073741824 then some (i / j) else none
@[reducible] def gMod (i j : Int) : Option Int := if 0 < j then some (i % j) else none
@[reducible] def gPow (i j : Int) : Option Int := if 0 ≤ j ∧ j ≤ 1000000 ∧ i.natAbs < 2 ^ 64 then some (i ^ j.toNat) else none
theorem o_ii {c : Int → Int → Bool} {P : Int → Int → Prop} [∀ i j, Decidable (P i j)] {g : Int → Int → γ} {vc : γ → MV} (hc : ∀ i j, P i j → c i j = true) : Op2 (fII c (fun i j => vc (g i j))) (fun i j => if P i j then some (g i j) else none) .int .int vc := fun i j k h e => by
  unfold fII
  simp only at e
  by_cases q : P i j
  · rw [if_pos q] at e; cases e
    simp only; rw [if_pos (hc i j q)]
  · rw [if_neg q] at e; cases e
theorem o_mul {b : Bool} : Op2 (fMul b) gMul .int .int .int := fun i j k h e => by
  unfold fMul; unfold gMul at e
  by_cases q : cMul i j = true
  · rw [if_pos q] at e; cases e
    simp only; rw [if_pos q]
  · rw [if_neg q] at e; cases e
theorem o_div : Op2 fDiv gDiv .int .int .int := o_ii (P := fun _ j => 0 < j ∧ j < 1073741824) fun _ _ q => decide_eq_true q
theorem o_mod : Op2 fMod gMod .int .int .int := o_ii (P := fun _ j => 0 < j) fun _ _ q => decide_eq_true q
theorem o_pow : Op2 fPow gPow .int .int .int := o_ii (P := fun i j => 0 ≤ j ∧ j ≤ 1000000 ∧ i.natAbs < 2 ^ 64) fun _ _ q => decide_eq_true q
theorem o_lt : Op2 fLt (fun i j : Int => some (decide (i < j))) .int .int .bl := fun _ _ _ _ e => by cases e; rfl
theorem o_le : Op2 fLe (fun i j : Int => some (decide (i ≤ j))) .int .int .bl := fun _ _ _ _ e => by cases e; rfl
theorem o_gt : Op2 fGt (fun i j : Int => some (decide (j < i))) .int .int .bl := fun _ _ _ _ e => by cases e; rfl
theorem o_ge : Op2 fGe (fun i j : Int => some (decide (j ≤ i))) .int .int .bl := fun _ _ _ _ e => by cases e; rfl
theorem o_neg : Op1 fNeg (fun i : Int => some (-i)) .int .int := fun _ _ _ e => by cases e; rfl
@[reducible] def gCat (xs ys : List α) : Option (List α) := if xs.length + ys.length ≤ sizeLine then some (xs ++ ys) else none
def gIx (xs : List α) (k : Int) : Option α := atI xs k
def SqV (ea : Enc (List α)) (va : α → MV) : Prop := ∀ xs v h f, (ea xs).r v h f → seqAt h v = some (xs.map va)
theorem sq_t : SqV (fz (tV va)) va := fun xs v h f r => by rw [r.1]; rfl
theorem sq_l : SqV (fz (lV va)) va := fun xs v h f r => by rw [r.1]; rfl
theorem sq_s : SqV (fz (sV va)) va := fun xs v h f r => by rw [r.1]; rfl
theorem sq_o : SqV (own1 va) va := fun xs v h f r => by
  obtain ⟨n, rfl, e, _⟩ := rd_own r
  exact seq_R e
theorem o_ix {ea : Enc (List α)} (sq : SqV ea va) : Rd2 fIx gIx ea (fz .int) va := fun xs k c u v f1 f2 h r1 r2 e => by
  rw [r2.1]
  refine f_ix (sq xs u h f1 r1) ?_
  rw [atI_map]
  unfold gIx at e
  rw [e]; rfl
theorem o_ixF {va' : List α → MV} (sq : SqV (fz va') va) : Op2 fIx gIx va' .int va := fun xs k c h e => o_ix sq xs k c _ _ [] [] h ⟨rfl, rfl⟩ ⟨rfl, rfl⟩ e
theorem o_fld {tab : CTab} {x : Str} {pr : α → β} (hv : ∀ a h, fFld tab x (va a) h = .ok (vb (pr a)) h) : Op1 (fFld tab x) (fun a => some (pr a)) va vb := fun a c h e => by cases e; exact hv a h
theorem o_isN {va : α → MV} (hn : NoN va) {neg : Bool} : Op1 (fun x h => fIsN neg x .non h) (fun o : Option α => some (if neg then o.isSome else o.isNone)) (oV va) .bl := fun a c h e => by
  cases e
  cases a with
  | none => cases neg <;> rfl
  | some a =>
    show fIsN neg (va a) .non h = _
    have := hn a
    cases neg with
    | true => exact f_notN0 this
    | false => exact f_isN0 this
theorem o_isi {T : String} {c : α → Bool} (hv : ∀ a h, fIsi T (va a) h = .ok (.bl (c a)) h) : Op1 (fIsi T) (fun a => some (c a)) va .bl := fun a _ h e => by cases e; exact hv a h
theorem scalVs_str : ∀ xs : List Str, scalVs (xs.map MV.str) = some (xs.map L2.V.str)
  | [] => rfl
  | x :: xs => by
    show (match scalV (.str x), scalVs (xs.map MV.str) with | some v, some vs => some (v :: vs) | _, _ => none) = _
    rw [scalVs_str xs]; rfl
theorem inV_str (x : Str) (xs : List Str) : inV (.str x) (xs.map L2.V.str) = xs.any (fun y => y == x) := by
  unfold inV
  rw [List.any_map]; rfl
theorem o_inS {ea : Enc (List Str)} (sq : SqV ea .str) {neg : Bool} : Rd2 (fIn neg) (fun x xs => some (if neg then !xs.any (fun y => y == x) else xs.any (fun y => y == x))) (fz .str) ea .bl := fun x xs c u v f1 f2 h r1 r2 e => by
  cases e
  rw [r1.1]
  unfold fIn
  rw [sq xs v h f2 r2]
  show (match scalVs (xs.map MV.str) with | some vs => Out.ok (MV.bl (if neg = true then !inV (.str x) vs else inV (.str x) vs)) h | none => Out.stuck) = _
  rw [scalVs_str]
  simp only [inV_str]
structure Dt {α : Type} [DecidableEq α] (va : α → MV) (d : α → PyData) (k : Nat) : Prop where
  to : ∀ r a, toD r (va a) = some (d a)
  lay : ∀ a, (d a).canLay0 = true
  dep : ∀ a, (d a).depth ≤ k
  eq : ∀ a b, PyData.eqv (d a) (d b) = decide (a = b)
  nn : ∀ a, PyData.eqv .none (d a) = false ∧ PyData.eqv (d a) .none = false
theorem dt_int : Dt MV.int PyData.int 1 := ⟨fun _ _ => rfl, fun _ => by simp [PyData.canLay0], fun _ => by simp [PyData.depth], fun a b => by unfold PyData.eqv; rw [Bool.beq_eq_decide_eq], fun _ => by simp [PyData.eqv]⟩
section
variable [DecidableEq α] [DecidableEq β] [DecidableEq γ] {da : α → PyData} {db : β → PyData} {dc : γ → PyData} {k l m : Nat}
theorem Dt.toL (q : Dt va da k) (r : Nat → Option PyData) : ∀ xs : List α, toDL r (xs.map va) = some (xs.map da)
  | [] => rfl
  | x :: xs => by
    show (match toD r (va x), toDL r (xs.map va) with | some d, some ds => some (d :: ds) | _, _ => none) = _
    rw [q.to, q.toL r xs]; rfl
theorem Dt.layL (q : Dt va da k) : ∀ xs : List α, PyData.canLayAll0 (xs.map da) = true
  | [] => by simp [PyData.canLayAll0]
  | x :: xs => by
    rw [List.map_cons]; unfold PyData.canLayAll0
    rw [q.lay, q.layL xs]; rfl
theorem Dt.depL (q : Dt va da k) : ∀ xs : List α, PyData.depthAll (xs.map da) ≤ k
  | [] => by simp [PyData.depthAll]
  | x :: xs => by
    rw [List.map_cons]; unfold PyData.depthAll
    exact Nat.max_le.mpr ⟨q.dep x, q.depL xs⟩
theorem Dt.eqL (q : Dt va da k) : ∀ xs ys : List α, PyData.eqvAll (xs.map da) (ys.map da) = decide (xs = ys)
  | [], [] => by simp [PyData.eqvAll]
  | [], _ :: _ => by simp [PyData.eqvAll]
  | _ :: _, [] => by simp [PyData.eqvAll]
  | x :: xs, y :: ys => by
    rw [List.map_cons, List.map_cons]; unfold PyData.eqvAll
    rw [q.eq, q.eqL xs ys]
    by_cases h : x = y <;> by_cases h2 : xs = ys <;> simp [h, h2]
theorem dt_l (q : Dt va da k) : Dt (lV va) (fun xs => .list (xs.map da)) (k + 1) :=
  ⟨fun r a => by show (toDL r (a.map va)).map _ = _; rw [q.toL]; rfl, fun a => by unfold PyData.canLay0; exact q.layL a, fun a => by unfold PyData.depth; have := q.depL a; omega, fun a b => by unfold PyData.eqv; exact q.eqL a b, fun a => by simp [PyData.eqv]⟩
theorem dt_p2 (qa : Dt va da k) (qb : Dt vb db l) : Dt (p2 va vb) (fun x => .tuple [da x.1, db x.2]) (max k l + 1) :=
  ⟨fun r a => by show (toDL r [va a.1, vb a.2]).map _ = _; simp only [toDL, qa.to, qb.to]; rfl, fun a => by simp [PyData.canLay0, PyData.canLayAll0, qa.lay, qb.lay], fun a => by
    have h1 := qa.dep a.1
    have h2 := qb.dep a.2
    simp only [PyData.depth, PyData.depthAll]; omega, fun a b => by
    simp only [PyData.eqv, PyData.eqvAll, qa.eq, qb.eq]
    obtain ⟨a1, a2⟩ := a
    obtain ⟨b1, b2⟩ := b
    by_cases h : a1 = b1 <;> by_cases h2 : a2 = b2 <;> simp [h, h2], fun a => by simp [PyData.eqv]⟩
def DtR (ea : Enc α) (d : α → PyData) (k : Nat) : Prop := ∀ a v h f, (ea a).r v h f → dataOf h v = some (d a) ∧ (d a).canLay0 = true ∧ (d a).depth ≤ k
theorem Dt.rd (q : Dt va da k) : DtR (fz va) da k := fun a v h f r => ⟨by rw [r.1]; exact q.to _ a, q.lay a, q.dep a⟩
theorem sh_of {d : PyData} {k : Nat} (h1 : d.canLay0 = true) (h2 : d.depth ≤ k) (hk : k ≤ 64) : SeqAt.shaped d = true := by
  unfold SeqAt.shaped; rw [h1]; simp; omega
theorem o_eqR {ea eb : Enc α} {d : α → PyData} (h1 : DtR ea d k) (h2 : DtR eb d l) (q : ∀ a b, PyData.eqv (d a) (d b) = decide (a = b)) (hk : k ≤ 64 := by decide) (hl : l ≤ 64 := by decide) {neg : Bool} : Rd2 (fEq neg) (fun a b => some (if neg then !decide (a = b) else decide (a = b))) ea eb .bl := fun a b c u v f1 f2 h r1 r2 e => by
  cases e
  obtain ⟨a1, a2, a3⟩ := h1 a u h f1 r1
  obtain ⟨b1, b2, b3⟩ := h2 b v h f2 r2
  cases neg with
  | true => rw [f_neD a1 b1 (sh_of a2 a3 hk) (sh_of b2 b3 hl), q]; rfl
  | false => rw [f_eqD a1 b1 (sh_of a2 a3 hk) (sh_of b2 b3 hl), q]; rfl
theorem o_eq (q : Dt va da k) (hk : k ≤ 64 := by decide) {neg : Bool} : Op2 (fEq neg) (fun a b => some (if neg then !decide (a = b) else decide (a = b))) va va .bl := fun a b c h e => o_eqR q.rd q.rd q.eq hk hk a b c _ _ [] [] h ⟨rfl, rfl⟩ ⟨rfl, rfl⟩ e
end
end

section
variable {σ : Type} {tb : Nat → Slot σ} {N : Nat} {D D' : List Nat} {α β γ : Type} {e e1 e2 : ME} {p : σ → X σ α} {q : σ → X σ β} {va : α → MV} {vb : β → MV} {vc : γ → MV} {ea : Enc α} {ms : MA} {vs : β → List MV}
@[irreducible] def xN : σ → X σ Unit := fun s => .ok () s
@[irreducible] def xCs (p : σ → X σ α) (q : σ → X σ β) : σ → X σ (α × β) := fun s => (p s).bind fun a s => (q s).bind fun b s => .ok (a, b) s
theorem tpa_n : TPA tb N D maN xN (fun _ => []) := by with_unfolding_all exact (fun s env h fp R => ⟨rfl, h, rfl, Mono.refl⟩)
theorem tpa_c (k1 : TP tb N D e p (fz va)) (k2 : TPA tb N D ms q vs) : TPA tb N D (maC e ms) (xCs p q) (fun x => va x.1 :: vs x.2) := fun s env h fp R => by
  have z := k1 s env h fp R
  unfold xCs maC
  cases hp : p s with
  | ok a s' =>
    rw [hp] at z
    obtain ⟨rfl, v, h', f', e1, m, r⟩ := z
    simp only [X.bind]
    rw [e1]
    simp only [Out.bind]
    have z2 := k2 s' env h' fp (R.mono m)
    cases hq : q s' with
    | ok b s2 =>
      rw [hq] at z2
      obtain ⟨rfl, h2, e2, m2⟩ := z2
      exact ⟨rfl, h2, by rw [e2, r.1], m.trans m2⟩
    | exc C xs s2 =>
      rw [hq] at z2
      obtain ⟨rfl, h2, e2, m2⟩ := z2
      exact ⟨rfl, h2, by rw [e2], m.trans m2⟩
    | bad => trivial
  | exc C xs s' =>
    rw [hp] at z
    obtain ⟨rfl, h', e1, m⟩ := z
    exact ⟨rfl, h', by rw [e1], m⟩
  | bad => trivial
theorem txa_c (k1 : TX tb N D e p (fz va)) (k2 : TXA tb N D ms q vs) : TXA tb N D (maC e ms) (xCs p q) (fun x => va x.1 :: vs x.2) := fun s env h fp R => by
  have z := k1 s env h fp R
  unfold xCs maC
  cases hp : p s with
  | ok a s' =>
    rw [hp] at z
    obtain ⟨v, h', f', fp', e1, R1, r, _, _, fr, gr⟩ := z
    simp only [X.bind]
    rw [e1]
    simp only [Out.bind]
    have z2 := k2 s' env h' fp' R1
    have gr' : Grow (Wn D fp) (Wn D fp') h := gr.sub fun n q => .inl q
    cases hq : q s' with
    | ok b s2 =>
      rw [hq] at z2
      obtain ⟨h2, fp2, e2, R2, fr2, gr2⟩ := z2
      exact ⟨h2, fp2, by rw [e2, r.1], R2, fr.trans gr' fr2, gr'.trans fr.len gr2⟩
    | exc C xs s2 =>
      rw [hq] at z2
      obtain ⟨h2, fp2, e2, R2, fr2, gr2⟩ := z2
      exact ⟨h2, fp2, by rw [e2], R2, fr.trans gr' fr2, gr'.trans fr.len gr2⟩
    | bad => trivial
  | exc C xs s' =>
    rw [hp] at z
    obtain ⟨h', fp', e1, R1, fr, gr⟩ := z
    exact ⟨h', fp', by rw [e1], R1, fr, gr⟩
  | bad => trivial
def OpF (f : MF) (g : β → Option γ) (vs : β → List MV) (vc : γ → MV) : Prop := ∀ a b h, g a = some b → f (vs a) h = .ok (vc b) h
def OpA (m : MA → ME) (g : β → Option γ) (vs : β → List MV) (vc : γ → MV) : Prop := ∀ (ms : MA) env h, (∀ a b h', ms env h = .ok (vs a) h' → g a = some b → m ms env h = .ok (vc b) h') ∧ ∀ C xs h', ms env h = .exc C xs h' → m ms env h = .exc C xs h'
theorem OpF.a {f : MF} {g : β → Option γ} (k : OpF f g vs vc) : OpA (mF f) g vs vc := fun ms env h => ⟨fun a b h' e q => by unfold mF; rw [e]; exact k a b h' q, fun C xs h' e => by unfold mF; rw [e]⟩
theorem oa_tup {t : β → γ} (hv : ∀ a, MV.tup (vs a) = vc (t a)) (n : Nat) (hl : ∀ a, (vs a).length = n) (hn : n ≤ 1000 := by decide) : OpA mTup (fun a => some (t a)) vs vc := fun ms env h => ⟨fun a b h' e q => by
    cases q
    rw [ev_tup e (by rw [hl, sizeLine_eq]; omega), hv], fun C xs h' e => by unfold mTup; rw [e]⟩
theorem oa_lst {t : β → γ} (hv : ∀ a, MV.fl (vs a) = vc (t a)) (n : Nat) (hl : ∀ a, (vs a).length = n) (hn : n ≤ 1000 := by decide) : OpA (mLst false) (fun a => some (t a)) vs vc := fun ms env h => ⟨fun a b h' e q => by
    cases q
    rw [ev_lstF e (by rw [hl, sizeLine_eq]; omega), hv], fun C xs h' e => by unfold mLst; rw [e]⟩
theorem tp_ao {m : MA → ME} {g : β → Option γ} (o : OpA m g vs vc) (k : TPA tb N D ms q vs) : TP tb N D (m ms) (x1o g q) (fz vc) := fun s env h fp R => by
  have z := k s env h fp R
  unfold x1o
  cases hq : q s with
  | ok a s' =>
    rw [hq] at z
    obtain ⟨rfl, h', e1, mo⟩ := z
    simp only [X.bind]
    cases hg : g a with
    | none => trivial
    | some b => exact ⟨rfl, vc b, h', [], (o ms env h).1 a b h' e1 hg, mo, rfl, rfl⟩
  | exc C xs s' =>
    rw [hq] at z
    obtain ⟨rfl, h', e1, mo⟩ := z
    exact ⟨rfl, h', (o ms env h).2 C xs h' e1, mo⟩
  | bad => trivial
theorem tp_a {m : MA → ME} {g : β → γ} (o : OpA m (fun a => some (g a)) vs vc) (k : TPA tb N D ms q vs) : TP tb N D (m ms) (x1 g q) (fz vc) := by with_unfolding_all exact (tp_ao o k)
theorem tx_ao {m : MA → ME} {g : β → Option γ} (o : OpA m g vs vc) (k : TXA tb N D ms q vs) : TX tb N D (m ms) (x1o g q) (fz vc) := fun s env h fp R => by
  have z := k s env h fp R
  unfold x1o
  cases hq : q s with
  | ok a s' =>
    rw [hq] at z
    obtain ⟨h', fp', e1, R1, fr, gr⟩ := z
    simp only [X.bind]
    cases hg : g a with
    | none => trivial
    | some b => exact ⟨vc b, h', [], fp', (o ms env h).1 a b h' e1 hg, R1, ⟨rfl, rfl⟩, List.nodup_nil, (fun n hn => nomatch hn), fr, gr.sub fun n q => q.elim id fun z => nomatch z⟩
  | exc C xs s' =>
    rw [hq] at z
    obtain ⟨h', fp', e1, R1, fr, gr⟩ := z
    exact ⟨h', fp', (o ms env h).2 C xs h' e1, R1, fr, gr⟩
  | bad => trivial
theorem tx_a {m : MA → ME} {g : β → γ} (o : OpA m (fun a => some (g a)) vs vc) (k : TXA tb N D ms q vs) : TX tb N D (m ms) (x1 g q) (fz vc) := by with_unfolding_all exact (tx_ao o k)
theorem tp_f1o {f : MF} {g : α → Option γ} (o : Rd1 (fun v h => f [v] h) g ea vc) (k : TP tb N D e p ea) : TP tb N D (mF f (maC e maN)) (x1o g p) (fz vc) := fun s env h fp R => by
  have z := tp_1o (f := fun v h => f [v] h) o k s env h fp R
  have e0 : mF f (maC e maN) env h = m1 (fun v h => f [v] h) e env h := by
    unfold mF maC maN m1
    cases e env h <;> rfl
  rw [e0]; exact z
theorem tp_f1 {f : MF} {g : α → γ} (o : Rd1 (fun v h => f [v] h) (fun a => some (g a)) ea vc) (k : TP tb N D e p ea) : TP tb N D (mF f (maC e maN)) (x1 g p) (fz vc) := by with_unfolding_all exact (tp_f1o o k)
theorem tx_f1o {f : MF} {g : α → Option γ} (o : Op1 (fun v h => f [v] h) g va vc) (k : TX tb N D e p (fz va)) : TX tb N D (mF f (maC e maN)) (x1o g p) (fz vc) := fun s env h fp R => by
  have z := tx_1o (f := fun v h => f [v] h) o k s env h fp R
  have e0 : mF f (maC e maN) env h = m1 (fun v h => f [v] h) e env h := by
    unfold mF maC maN m1
    cases e env h <;> rfl
  rw [e0]; exact z
theorem tx_f1 {f : MF} {g : α → γ} (o : Op1 (fun v h => f [v] h) (fun a => some (g a)) va vc) (k : TX tb N D e p (fz va)) : TX tb N D (mF f (maC e maN)) (x1 g p) (fz vc) := by with_unfolding_all exact (tx_f1o o k)
end
section
variable {α β γ : Type} {va : α → MV} {vb : β → MV}
theorem f1_lenQ {ea : Enc (List α)} {va' : α → MV} (sq : SqV ea va') (hs : ∀ xs v h f, (ea xs).r v h f → ∃ y, v = .tup y ∨ v = .fl y ∨ v = .sl y ∨ ∃ n, v = .ref n ∧ ∃ ys, h[n]? = some (.lst ys) ∧ ys.length = xs.length) : Rd1 (fun v h => fLen [v] h) (fun xs => some (xs.length : Int)) ea .int := fun xs c v f h r e => by
  cases e
  have s := sq xs v h f r
  obtain ⟨y, rfl | rfl | rfl | ⟨n, rfl, ys, e, l⟩⟩ := hs xs v h f r
  · have : y = xs.map va' := by simpa [seqAt] using s
    show fLen [.tup y] h = _
    rw [f_lenT, this, List.length_map]
  · have : y = xs.map va' := by simpa [seqAt, lstAt] using s
    show fLen [.fl y] h = _
    rw [f_lenF, this, List.length_map]
  · have : y = xs.map va' := by simpa [seqAt, lstAt] using s
    show fLen [.sl y] h = _
    rw [f_lenS, this, List.length_map]
  · show fLen [.ref n] h = _
    rw [f_lenR e, l]
theorem f1_lenT : Rd1 (fun v h => fLen [v] h) (fun xs : List α => some (xs.length : Int)) (fz (tV va)) .int := f1_lenQ sq_t fun xs v h f r => ⟨_, .inl r.1⟩
theorem f1_lenL : Rd1 (fun v h => fLen [v] h) (fun xs : List α => some (xs.length : Int)) (fz (lV va)) .int := f1_lenQ sq_l fun xs v h f r => ⟨_, .inr (.inl r.1)⟩
theorem f1_lenO : Rd1 (fun v h => fLen [v] h) (fun xs : List α => some (xs.length : Int)) (own1 va) .int := f1_lenQ sq_o fun xs v h f r => by
  obtain ⟨n, rfl, e, _⟩ := rd_own r
  exact ⟨[], .inr (.inr (.inr ⟨n, rfl, _, e, List.length_map ..⟩))⟩
theorem All2.len {h : MH} : ∀ {xss : List (List α)} {ns : List Nat}, All2 va h xss ns → ns.length = xss.length
  | [], [], _ => rfl
  | _ :: _, _ :: _, q => congrArg (· + 1) (All2.len q.2)
  | [], _ :: _, q => q.elim
  | _ :: _, [], q => q.elim
theorem f1_int : Op1 (fun v h => fInt [v] h) (fun i : Int => some i) .int .int := fun _ _ _ e => by cases e; rfl
theorem f1_tupL : Op1 (fun v h => fTuple [v] h) (fun xs : List α => some xs) (lV va) (tV va) := fun _ _ _ e => by cases e; rfl
theorem f1_list {ea : Enc (List α)} (sq : SqV ea va) : Rd1 (fun v h => fList false [v] h) (fun xs : List α => some xs) ea (lV va) := fun xs c v f h r e => by
  cases e
  show fList false [v] h = _
  rw [f_listF (sq xs v h f r)]; rfl
theorem ff_max : OpF fMax2 (fun x : Int × Int × Unit => some (max x.1 x.2.1)) (fun x => [.int x.1, .int x.2.1]) .int := fun a b h e => by
  cases e
  rw [f_max]; congr 2; rw [Int.max_def]; split <;> split <;> omega
end
end Ty
set_option Elab.async false
set_option linter.all false
set_option maxRecDepth 100000
namespace Ty
open PySem PySem.Spec PyProof.Rows L2 Mn

section
variable {σ : Type} {tb : Nat → Slot σ} {N : Nat} {D D' D0 D1 D2 : List Nat} {α β γ ρ : Type} {e e1 e2 : ME} {p : σ → X σ α} {q : σ → X σ β} {va : α → MV} {vb : β → MV} {vc : γ → MV} {ea : Enc α} {eb : Enc β} {ms : MA} {t u : MT} {pt qt : σ → X σ Bool}
theorem txt_v {pb : σ → X σ Bool} (k : TX tb N D e pb (fz .bl)) : TXT tb N D (mT e) pb := fun s env h fp R => by
  have z := k s env h fp R
  unfold mT
  cases hp : pb s with
  | ok a s' =>
    rw [hp] at z
    obtain ⟨v, h', f', fp', e1, R1, r, _, _, fr, gr⟩ := z
    exact ⟨h', fp', by rw [e1, r.1]; rfl, R1, fr, gr.sub fun n q => .inl q⟩
  | exc C xs s' =>
    rw [hp] at z
    obtain ⟨h', fp', e1, R1, fr, gr⟩ := z
    exact ⟨h', fp', by rw [e1], R1, fr, gr⟩
  | bad => trivial
theorem txt_and (k1 : TXT tb N D t pt) (k2 : TXT tb N D u qt) : TXT tb N D (tAndM t u) (xAnd pt qt) := fun s env h fp R => by
  have z := k1 s env h fp R
  unfold tAndM xAnd
  cases hp : pt s with
  | ok a s' =>
    rw [hp] at z
    obtain ⟨h', fp', e1, R1, fr, gr⟩ := z
    simp only [X.bind]
    rw [e1]; simp only [Out.bind]
    cases a with
    | false => exact ⟨h', fp', rfl, R1, fr, gr⟩
    | true =>
      simp only [if_true]
      have z2 := k2 s' env h' fp' R1
      cases hq : qt s' with
      | ok b s2 =>
        rw [hq] at z2
        obtain ⟨h2, fp2, e2, R2, fr2, gr2⟩ := z2
        exact ⟨h2, fp2, e2, R2, fr.trans gr fr2, gr.trans fr.len gr2⟩
      | exc C xs s2 =>
        rw [hq] at z2
        obtain ⟨h2, fp2, e2, R2, fr2, gr2⟩ := z2
        exact ⟨h2, fp2, e2, R2, fr.trans gr fr2, gr.trans fr.len gr2⟩
      | bad => trivial
  | exc C xs s' =>
    rw [hp] at z
    obtain ⟨h', fp', e1, R1, fr, gr⟩ := z
    exact ⟨h', fp', by rw [e1], R1, fr, gr⟩
  | bad => trivial
theorem txt_or (k1 : TXT tb N D t pt) (k2 : TXT tb N D u qt) : TXT tb N D (tOrM t u) (xOr pt qt) := fun s env h fp R => by
  have z := k1 s env h fp R
  unfold tOrM xOr
  cases hp : pt s with
  | ok a s' =>
    rw [hp] at z
    obtain ⟨h', fp', e1, R1, fr, gr⟩ := z
    simp only [X.bind]
    rw [e1]; simp only [Out.bind]
    cases a with
    | true => exact ⟨h', fp', rfl, R1, fr, gr⟩
    | false =>
      have z2 := k2 s' env h' fp' R1
      simp only [Bool.false_eq_true, if_false]
      cases hq : qt s' with
      | ok b s2 =>
        rw [hq] at z2
        obtain ⟨h2, fp2, e2, R2, fr2, gr2⟩ := z2
        exact ⟨h2, fp2, e2, R2, fr.trans gr fr2, gr.trans fr.len gr2⟩
      | exc C xs s2 =>
        rw [hq] at z2
        obtain ⟨h2, fp2, e2, R2, fr2, gr2⟩ := z2
        exact ⟨h2, fp2, e2, R2, fr.trans gr fr2, gr.trans fr.len gr2⟩
      | bad => trivial
  | exc C xs s' =>
    rw [hp] at z
    obtain ⟨h', fp', e1, R1, fr, gr⟩ := z
    exact ⟨h', fp', by rw [e1], R1, fr, gr⟩
  | bad => trivial
theorem txt_not (k1 : TXT tb N D t pt) : TXT tb N D (tNotM t) (xNot pt) := fun s env h fp R => by
  have z := k1 s env h fp R
  unfold tNotM xNot
  cases hp : pt s with
  | ok a s' =>
    rw [hp] at z
    obtain ⟨h', fp', e1, R1, fr, gr⟩ := z
    exact ⟨h', fp', by rw [e1], R1, fr, gr⟩
  | exc C xs s' =>
    rw [hp] at z
    obtain ⟨h', fp', e1, R1, fr, gr⟩ := z
    exact ⟨h', fp', by rw [e1], R1, fr, gr⟩
  | bad => trivial
theorem TXT.val {m : ME} (hm : ∀ env h, m env h = (t env h).bind fun c h => .ok (.bl c) h) (k : TXT tb N D t pt) : TX tb N D m pt (fz .bl) := fun s env h fp R => by
  have z := k s env h fp R
  rw [hm]
  cases hp : pt s with
  | ok a s' =>
    rw [hp] at z
    obtain ⟨h', fp', e1, R1, fr, gr⟩ := z
    exact ⟨_, h', [], fp', by rw [e1], R1, ⟨rfl, rfl⟩, List.nodup_nil, (fun n hn => nomatch hn), fr, gr.sub fun n q => q.elim id fun z => nomatch z⟩
  | exc C xs s' =>
    rw [hp] at z
    obtain ⟨h', fp', e1, R1, fr, gr⟩ := z
    exact ⟨h', fp', by rw [e1], R1, fr, gr⟩
  | bad => trivial
theorem tx_not (k1 : TX tb N D e pt (fz .bl)) : TX tb N D (mNot e) (xNot pt) (fz .bl) := (txt_not (txt_v k1)).val fun env h => by
  unfold mNot tNotM mT
  cases e env h with
  | ok x h => simp only [Out.bind]; cases boolOf x h <;> rfl
  | exc _ _ _ => rfl
  | stuck => rfl
theorem tx_and (k1 : TX tb N D e1 pt (fz .bl)) (k2 : TX tb N D e2 qt (fz .bl)) : TX tb N D (mAnd e1 e2) (xAnd pt qt) (fz .bl) := fun s env h fp R => by
  have z := k1 s env h fp R
  unfold mAnd xAnd
  cases hp : pt s with
  | ok a s' =>
    rw [hp] at z
    obtain ⟨v, h', f', fp', e1, R1, r, _, _, fr, gr⟩ := z
    have gr' : Grow (Wn D fp) (Wn D fp') h := gr.sub fun n q => .inl q
    simp only [X.bind]
    rw [e1, r.1]; simp only [Out.bind, boolOf]
    cases a with
    | false => exact ⟨_, h', [], fp', rfl, R1, ⟨rfl, rfl⟩, List.nodup_nil, (fun n hn => nomatch hn), fr, gr'.sub fun n q => q.elim id fun z => nomatch z⟩
    | true =>
      simp only [if_true]
      have z2 := k2 s' env h' fp' R1
      cases hq : qt s' with
      | ok b s2 =>
        rw [hq] at z2
        obtain ⟨w, h2, f2, fp2, e2, R2, r2, n2, d2, fr2, gr2⟩ := z2
        exact ⟨w, h2, f2, fp2, e2, R2, r2, n2, d2, fr.trans gr' fr2, gr'.trans fr.len gr2⟩
      | exc C xs s2 =>
        rw [hq] at z2
        obtain ⟨h2, fp2, e2, R2, fr2, gr2⟩ := z2
        exact ⟨h2, fp2, e2, R2, fr.trans gr' fr2, gr'.trans fr.len gr2⟩
      | bad => trivial
  | exc C xs s' =>
    rw [hp] at z
    obtain ⟨h', fp', e1, R1, fr, gr⟩ := z
    exact ⟨h', fp', by rw [e1], R1, fr, gr⟩
  | bad => trivial
@[irreducible] def xCh {γ : Type} (g : α → β → Option Bool) (g' : β → γ → Option Bool) (p : σ → X σ α) (q : σ → X σ β) (r : σ → X σ γ) : σ → X σ Bool := fun s => (p s).bind fun a s => (q s).bind fun b s => match g a b with
  | some true => (r s).bind fun c s => match g' b c with
    | some z => .ok z s
    | none => .bad
  | some false => .ok false s
  | none => .bad
theorem tx_ch {e3 : ME} {r : σ → X σ γ} {f f' : MV → MV → MH → Out MV} {g : α → β → Option Bool} {g' : β → γ → Option Bool} (o : Op2 f g va vb .bl) (o' : Op2 f' g' vb vc .bl) (k1 : TX tb N D e1 p (fz va)) (k2 : TX tb N D e2 q (fz vb)) (k3 : TX tb N D e3 r (fz vc)) : TX tb N D (mChain f f' e1 e2 e3) (xCh g g' p q r) (fz .bl) := fun s env h fp R => by
  have z := k1 s env h fp R
  unfold xCh mChain
  cases hp : p s with
  | ok a s' =>
    rw [hp] at z
    obtain ⟨v, h', f', fp', e1, R1, r1, _, _, fr, gr⟩ := z
    have gr' : Grow (Wn D fp) (Wn D fp') h := gr.sub fun n q => .inl q
    simp only [X.bind]
    rw [e1]
    simp only [Out.bind]
    have z2 := k2 s' env h' fp' R1
    cases hq : q s' with
    | ok b s2 =>
      rw [hq] at z2
      obtain ⟨w, h2, f2, fp2, e2, R2, r2, _, _, fr2, gr2⟩ := z2
      have frA := fr.trans gr' fr2
      have grA := gr'.trans fr.len (gr2.sub fun n q => .inl q)
      simp only
      rw [e2]
      simp only
      cases hg : g a b with
      | none => trivial
      | some c =>
        have ef : f v w h2 = .ok (.bl c) h2 := by rw [r1.1, r2.1]; exact o a b c h2 hg
        rw [ef]
        simp only
        cases c with
        | false => exact ⟨_, h2, [], fp2, rfl, R2, ⟨rfl, rfl⟩, List.nodup_nil, (fun n hn => nomatch hn), frA, grA.sub fun n q => q.elim id fun z => nomatch z⟩
        | true =>
          simp only
          have z3 := k3 s2 env h2 fp2 R2
          cases hr : r s2 with
          | ok d s3 =>
            rw [hr] at z3
            obtain ⟨x, h3, f3, fp3, e3, R3, r3, _, _, fr3, gr3⟩ := z3
            simp only
            rw [e3]
            simp only
            cases hg' : g' b d with
            | none => trivial
            | some y => exact ⟨_, h3, [], fp3, by rw [r2.1, r3.1]; exact o' b d y h3 hg', R3, ⟨rfl, rfl⟩, List.nodup_nil, (fun n hn => nomatch hn), frA.trans grA fr3, (grA.trans frA.len (gr3.sub fun n q => .inl q)).sub fun n q => q.elim id fun z => nomatch z⟩
          | exc C xs s3 =>
            rw [hr] at z3
            obtain ⟨h3, fp3, e3, R3, fr3, gr3⟩ := z3
            exact ⟨h3, fp3, by rw [e3], R3, frA.trans grA fr3, grA.trans frA.len gr3⟩
          | bad => trivial
    | exc C xs s2 =>
      rw [hq] at z2
      obtain ⟨h2, fp2, e2, R2, fr2, gr2⟩ := z2
      exact ⟨h2, fp2, by rw [e2], R2, fr.trans gr' fr2, gr'.trans fr.len gr2⟩
    | bad => trivial
  | exc C xs s' =>
    rw [hp] at z
    obtain ⟨h', fp', e1, R1, fr, gr⟩ := z
    exact ⟨h', fp', by rw [e1], R1, fr, gr⟩
  | bad => trivial
def TPI (tb : Nat → Slot σ) (N : Nat) (D : List Nat) (e : MI) (p : σ → X σ (Option Int)) : Prop := ∀ s env h fp, RS tb N D s env h fp → match p s with
  | .ok a s' => s' = s ∧ ∃ h', e env h = .ok a h' ∧ Mono h h'
  | .exc C xs s' => s' = s ∧ ∃ h', e env h = .exc C xs h' ∧ Mono h h'
  | .bad => True
theorem tpi_n : TPI tb N D moN (xC none) := by with_unfolding_all exact (fun s env h fp R => ⟨rfl, h, rfl, Mono.refl⟩)
theorem tpi_s {p : σ → X σ Int} (k : TP tb N D e p (fz .int)) : TPI tb N D (moS e) (x1 some p) := fun s env h fp R => by
  have z := k s env h fp R
  unfold moS x1
  cases hp : p s with
  | ok a s' =>
    rw [hp] at z
    obtain ⟨rfl, v, h', f', e1, m, r⟩ := z
    exact ⟨rfl, h', by rw [e1, r.1]; rfl, m⟩
  | exc C xs s' =>
    rw [hp] at z
    obtain ⟨rfl, h', e1, m⟩ := z
    exact ⟨rfl, h', by rw [e1], m⟩
  | bad => trivial
def gCut (xs : List α) (lo hi : Option Int) : List α := (xs.drop (HT.sIx xs.length 0 lo)).take (HT.sIx xs.length xs.length hi - HT.sIx xs.length 0 lo)
theorem cut_map {f : α → MV} {xs : List α} {lo hi : Option Int} : cutM (xs.map f) lo hi = (gCut xs lo hi).map f := by
  unfold cutM gCut
  rw [List.length_map, List.map_take, List.map_drop]
@[irreducible] def xSl (p : σ → X σ (List α)) (l r : σ → X σ (Option Int)) : σ → X σ (List α) := fun s => (p s).bind fun a s => (l s).bind fun lo s => (r s).bind fun hi s => .ok (gCut a lo hi) s
def OpSl (f : MV → Option Int → Option Int → MH → Out MV) (ea : Enc (List α)) (vc : List α → MV) : Prop := ∀ xs v fp h lo hi, (ea xs).r v h fp → f v lo hi h = .ok (vc (gCut xs lo hi)) h
theorem os_l : OpSl (α := α) (fSl false) (fz (lV va)) (lV va) := fun xs v fp h lo hi r => by
  rw [r.1, f_slF, cut_map]; rfl
theorem tp_sl {f : MV → Option Int → Option Int → MH → Out MV} {ea : Enc (List α)} {vc : List α → MV} {p : σ → X σ (List α)} {l r : MI} {pl pr : σ → X σ (Option Int)} (o : OpSl f ea vc) (k1 : TP tb N D e p ea) (k2 : TPI tb N D l pl) (k3 : TPI tb N D r pr) : TP tb N D (mSl f e l r) (xSl p pl pr) (fz vc) := fun s env h fp R => by
  have z := k1 s env h fp R
  unfold xSl mSl
  cases hp : p s with
  | ok a s' =>
    rw [hp] at z
    obtain ⟨rfl, v, h', f', e1, m, rr⟩ := z
    simp only [X.bind]
    rw [e1]
    simp only [Out.bind]
    have z2 := k2 s' env h' fp (R.mono m)
    cases hq : pl s' with
    | ok lo s2 =>
      rw [hq] at z2
      obtain ⟨rfl, h2, e2, m2⟩ := z2
      simp only
      rw [e2]; simp only
      have z3 := k3 s2 env h2 fp (R.mono (m.trans m2))
      cases hr : pr s2 with
      | ok hi s3 =>
        rw [hr] at z3
        obtain ⟨rfl, h3, e3, m3⟩ := z3
        refine ⟨rfl, _, h3, [], ?_, m.trans (m2.trans m3), rfl, rfl⟩
        rw [e3]
        exact o a v f' h3 lo hi ((ea a).frame rr fun n hn => (m2.trans m3).keep n ((ea a).dom rr n hn))
      | exc C xs s3 =>
        rw [hr] at z3
        obtain ⟨rfl, h3, e3, m3⟩ := z3
        exact ⟨rfl, h3, by rw [e3], m.trans (m2.trans m3)⟩
      | bad => trivial
    | exc C xs s2 =>
      rw [hq] at z2
      obtain ⟨rfl, h2, e2, m2⟩ := z2
      exact ⟨rfl, h2, by rw [e2], m.trans m2⟩
    | bad => trivial
  | exc C xs s' =>
    rw [hp] at z
    obtain ⟨rfl, h', e1, m⟩ := z
    exact ⟨rfl, h', by rw [e1], m⟩
  | bad => trivial
theorem tx_new {ys : β → List α} {m : ME} {q : σ → X σ β} (k : ∀ s env h fp, RS tb N D s env h fp → match q s with
  | .ok a s' => ∃ h' fp', m env h = retL true ((ys a).map va) h' ∧ RS tb N D s' env h' fp' ∧ Fr (Wn D fp) h h' ∧ Grow (Wn D fp) (Wn D fp') h
  | .exc C xs s' => ∃ h' fp', m env h = .exc C xs h' ∧ RS tb N D s' env h' fp' ∧ Fr (Wn D fp) h h' ∧ Grow (Wn D fp) (Wn D fp') h
  | .bad => True) : TX tb N D m (x1 ys q) (own1 va) := fun s env h fp R => by
  have z := k s env h fp R
  unfold x1
  cases hq : q s with
  | ok a s' =>
    rw [hq] at z
    obtain ⟨h', fp', e1, R1, fr, gr⟩ := z
    refine ⟨.ref h'.length, h' ++ [.lst ((ys a).map va)], [h'.length], fp', by rw [e1]; rfl, R1.mono Mono.app, ⟨_, rfl, app_same, rfl⟩, by simp, fun n hn => ?_, ⟨by rw [List.length_append]; have := fr.len; omega, fun n hn hA => ?_⟩, fun n hn => ?_⟩
    · have : n = h'.length := by simpa using hn
      subst this
      exact fun z => Nat.lt_irrefl _ (R1.dom _ z)
    · rw [List.getElem?_append_left (Nat.lt_of_lt_of_le hn fr.len)]
      exact fr.keep n hn hA
    · rcases hn with hn | hn
      · exact gr n hn
      · have : n = h'.length := by simpa using hn
        subst this
        exact .inr fr.len
  | exc C xs s' =>
    rw [hq] at z
    obtain ⟨h', fp', e1, R1, fr, gr⟩ := z
    exact ⟨h', fp', e1, R1, fr, gr⟩
  | bad => trivial
theorem tx_lst {ys : β → List α} {vs : β → List MV} (hv : ∀ a, vs a = (ys a).map va) (n : Nat) (hl : ∀ a, (vs a).length = n) (k : TXA tb N D ms q vs) (hn : n ≤ 1000 := by decide) : TX tb N D (mLst true ms) (x1 ys q) (own1 va) := tx_new fun s env h fp R => by
  have z := k s env h fp R
  unfold mLst
  cases hq : q s with
  | ok a s' =>
    rw [hq] at z
    obtain ⟨h', fp', e1, R1, fr, gr⟩ := z
    exact ⟨h', fp', by rw [e1]; simp only [Out.bind]; rw [if_pos (by rw [hl, sizeLine_eq]; omega), hv], R1, fr, gr⟩
  | exc C xs s' =>
    rw [hq] at z
    obtain ⟨h', fp', e1, R1, fr, gr⟩ := z
    exact ⟨h', fp', by rw [e1], R1, fr, gr⟩
  | bad => trivial
theorem tx_rdL {p : σ → X σ α} {f : MV → MH → Out MV} {ys : α → List γ} {m : ME} (hm : ∀ env h, m env h = (e env h).bind f) (o : ∀ a v h fp, (ea a).r v h fp → f v h = retL true ((ys a).map vc) h) (k : TP tb N D e p ea) : TX tb N D m (x1 ys p) (own1 vc) := tx_new fun s env h fp R => by
  have z := k s env h fp R
  cases hp : p s with
  | ok a s' =>
    rw [hp] at z
    obtain ⟨rfl, v, h', f', e1, mo, r⟩ := z
    exact ⟨h', fp, by rw [hm, e1]; exact o a v h' f' r, R.mono mo, mo.fr, Grow.refl⟩
  | exc C xs s' =>
    rw [hp] at z
    obtain ⟨rfl, h', e1, mo⟩ := z
    exact ⟨h', fp, by rw [hm, e1], R.mono mo, mo.fr, Grow.refl⟩
  | bad => trivial
theorem tx_listO {ea : Enc (List α)} {p : σ → X σ (List α)} (sq : SqV ea va) (k : TP tb N D e p ea) : TX tb N D (mF (fList true) (maC e maN)) (x1 id p) (own1 va) := tx_rdL (f := fun v h => fList true [v] h) (fun env h => by
    unfold mF maC maN
    cases e env h <;> rfl) (fun a v h fp r => by
    show fList true [v] h = _
    rw [f_listF (sq a v h fp r)]; rfl) k
end
end Ty
set_option Elab.async false
set_option linter.all false
set_option maxRecDepth 100000
namespace Ty
open PySem PySem.Spec PyProof.Rows L2 Mn

section
variable {σ α β ρ : Type}
@[irreducible] def yNil : σ → F σ ρ := fun s => .nx s
@[irreducible] def ySeq (p q : σ → F σ ρ) : σ → F σ ρ := fun s => (p s).bind q
@[irreducible] def ySet (st : σ → α → σ) (p : σ → X σ α) : σ → F σ ρ := fun s => (p s).toF fun a s => .nx (st s a)
@[irreducible] def yRet (p : σ → X σ ρ) : σ → F σ ρ := fun s => (p s).toF fun a s => .rt a s
@[irreducible] def yRetC (r : ρ) : σ → F σ ρ := fun s => .rt r s
@[irreducible] def yExpr (p : σ → X σ α) : σ → F σ ρ := fun s => (p s).toF fun _ s => .nx s
@[irreducible] def yIf (t : σ → X σ Bool) (p q : σ → F σ ρ) : σ → F σ ρ := fun s => (t s).toF fun c s => if c = true then p s else q s
@[irreducible] def yBreak : σ → F σ ρ := fun s => .bk s
@[irreducible] def yCont : σ → F σ ρ := fun s => .ct s
@[irreducible] def yRaise (C : Str) : σ → F σ ρ := fun s => .exc C [] s
def yForL (st : σ → α → σ) (b : σ → F σ ρ) : List α → σ → F σ ρ
  | [], s => .nx s
  | x :: xs, s => match b (st s x) with
    | .nx s' => yForL st b xs s'
    | .ct s' => yForL st b xs s'
    | .bk s' => .nx s'
    | o => o
@[irreducible] def yFor (p : σ → X σ (List α)) (st : σ → α → σ) (b : σ → F σ ρ) : σ → F σ ρ := fun s => (p s).toF fun xs s => yForL st b xs s
end

def Keep {σ α : Type} (tb : Nat → Slot σ) (st : σ → α → σ) (ix : Nat) : List Nat → Prop
  | [] => True
  | j :: r => ((tb j).ix ≠ ix ∧ ∀ s a, (tb j).rep (st s a) = (tb j).rep s) ∧ Keep tb st ix r
theorem kq {σ α : Type} {tb : Nat → Slot σ} {st : σ → α → σ} {j ix : Nat} (h : ((tb j).ix == ix) = false := by rfl) (k : ∀ s a, (tb j).rep (st s a) = (tb j).rep s := by intro _ _; rfl) : (tb j).ix ≠ ix ∧ ∀ s a, (tb j).rep (st s a) = (tb j).rep s := ⟨fun e => by rw [e] at h; simp at h, k⟩
theorem Keep.at {σ α : Type} {tb : Nat → Slot σ} {st : σ → α → σ} {ix : Nat} : ∀ {D : List Nat}, Keep tb st ix D → ∀ j ∈ D, (tb j).ix ≠ ix ∧ ∀ s a, (tb j).rep (st s a) = (tb j).rep s
  | _ :: _, k, j, hj => by
    rcases List.mem_cons.mp hj with rfl | hj
    · exact k.1
    · exact Keep.at k.2 j hj
  | [], _, _, hj => nomatch hj
theorem pin_set {pin : List Nat} {env : MEnv} {ix : Nat} {v : Option MV} (hp : pin.contains ix = false) : Pin pin env (env.set ix v) := fun k hk => by
  have : ix ≠ k := fun z => by
    subst z
    rw [List.contains_iff_mem.mpr hk] at hp; cases hp
  rw [List.getElem?_set_ne this]
theorem Pin.refl {pin : List Nat} {env : MEnv} : Pin pin env env := fun _ _ => rfl
theorem Pin.trans {pin : List Nat} {e1 e2 e3 : MEnv} (a : Pin pin e1 e2) (b : Pin pin e2 e3) : Pin pin e1 e3 := fun k hk => by rw [b k hk, a k hk]

section
variable {σ : Type} {tb : Nat → Slot σ} {N : Nat} {D D0 : List Nat} {s : σ} {env : MEnv} {h : MH} {fp : Nat → List Nat} {α : Type} {st : σ → α → σ} {a : α} {i ix : Nat} {v : MV} {f : List Nat}
theorem RS.set (R : RS tb N D s env h fp) (hs : subB D0 D = true) (k : Keep tb st ix D0) (hx : (tb i).ix = ix) (hN : ix < N) (hr : ((tb i).rep (st s a)).r v h f) (hn : f.Nodup) (hd : ∀ n ∈ f, ¬ Wn D fp n) :
    RS tb N (i :: D0) (st s a) (env.set ix (some v)) h (fun j => if j = i then f else fp j) ∧ (∀ n, Wn (i :: D0) (fun j => if j = i then f else fp j) n → Wn D fp n ∨ n ∈ f) := by
  have hs := subB_ok hs
  have ni : ∀ j ∈ D0, j ≠ i := fun j hj z => (k.at j hj).1 (by rw [z]; exact hx)
  refine ⟨⟨by rw [List.length_set]; exact R.len, fun j hj => ?_, fun j hj => ?_, fun j hj l hl hjl n hn1 hn2 => ?_⟩, fun n ⟨j, hj, hn⟩ => ?_⟩
  · rcases List.mem_cons.mp hj with rfl | hj
    · exact ⟨v, by rw [hx, List.getElem?_set_self (by rw [R.len]; exact hN)], by rw [if_pos rfl]; exact hr⟩
    · obtain ⟨k1, k2⟩ := k.at j hj
      obtain ⟨w, e1, e2⟩ := R.ok j (hs j hj)
      exact ⟨w, by rw [List.getElem?_set_ne (Ne.symm k1)]; exact e1, by rw [if_neg (ni j hj), k2]; exact e2⟩
  · rcases List.mem_cons.mp hj with rfl | hj
    · show (if _ = _ then f else _).Nodup
      rw [if_pos rfl]; exact hn
    · show (if _ = _ then f else _).Nodup
      rw [if_neg (ni j hj)]; exact R.nd j (hs j hj)
  · have hn1 : n ∈ if j = i then f else fp j := hn1
    have hn2 : n ∈ if l = i then f else fp l := hn2
    rcases List.mem_cons.mp hj with ej | hj'
    · rcases List.mem_cons.mp hl with el | hl'
      · exact hjl (ej.trans el.symm)
      · rw [if_pos ej] at hn1
        rw [if_neg (ni l hl')] at hn2
        exact hd n hn1 ⟨l, hs l hl', hn2⟩
    · rw [if_neg (ni j hj')] at hn1
      rcases List.mem_cons.mp hl with el | hl'
      · rw [if_pos el] at hn2
        exact hd n hn2 ⟨j, hs j hj', hn1⟩
      · rw [if_neg (ni l hl')] at hn2
        exact R.dj j (hs j hj') l (hs l hl') hjl n hn1 hn2
  · have hn : n ∈ if j = i then f else fp j := hn
    rcases List.mem_cons.mp hj with rfl | hj
    · rw [if_pos rfl] at hn; exact .inr hn
    · rw [if_neg (ni j hj)] at hn; exact .inl ⟨j, hs j hj, hn⟩
end

section
variable {σ ρ : Type} {c : Cx σ ρ} {D D' D0 D1 D2 : List Nat} {α β γ : Type} {e e1 e2 : ME} {a b m : MS} {pa pb : σ → F σ ρ} {p : σ → X σ α} {va : α → MV} {ea : Enc α} {st : σ → α → σ} {i ix : Nat}
theorem ts_nil : TS c D sNil yNil D := by with_unfolding_all exact (fun s env h fp R => ⟨env, h, fp, rfl, R, Fr.refl, Grow.refl, Pin.refl⟩)
theorem TS.after {s : σ} {env env1 : MEnv} {h h1 : MH} {fp fp1 : Nat → List Nat} (fr : Fr (Wn D fp) h h1) (gr : Grow (Wn D fp) (Wn D1 fp1) h) (pn : Pin c.pin env env1) {m : MS} {p : σ → F σ ρ} {x : OutS} (hx : x = m env1 h1) (R : RS c.tb c.N D1 s env1 h1 fp1) (k : TS c D1 m p D2) :
    match p s with
    | .nx s' => ∃ env' h' fp', x = .ok .nx env' h' ∧ RS c.tb c.N D2 s' env' h' fp' ∧ Fr (Wn D fp) h h' ∧ Grow (Wn D fp) (Wn D2 fp') h ∧ Pin c.pin env env'
    | .bk s' => ∃ env' h' fp', x = .ok .bk env' h' ∧ RS c.tb c.N c.Db s' env' h' fp' ∧ Fr (Wn D fp) h h' ∧ Grow (Wn D fp) (Wn c.Db fp') h ∧ Pin c.pin env env'
    | .ct s' => ∃ env' h' fp', x = .ok .ct env' h' ∧ RS c.tb c.N c.Db s' env' h' fp' ∧ Fr (Wn D fp) h h' ∧ Grow (Wn D fp) (Wn c.Db fp') h ∧ Pin c.pin env env'
    | .rt r s' => ∃ v env' h' f fp', x = .ok (.rt v) env' h' ∧ RS c.tb c.N c.Dr s' env' h' fp' ∧ (c.er r).r v h' f ∧ f.Nodup ∧ (∀ n ∈ f, ¬ Wn c.Dr fp' n) ∧ Fr (Wn D fp) h h' ∧ Grow (Wn D fp) (fun n => Wn c.Dr fp' n ∨ n ∈ f) h ∧ Pin c.pin env env'
    | .exc C xs s' => ∃ env' h' fp', x = .exc C xs env' h' ∧ RS c.tb c.N c.Dx s' env' h' fp' ∧ Fr (Wn D fp) h h' ∧ Grow (Wn D fp) (Wn c.Dx fp') h ∧ Pin c.pin env env'
    | .bad => True := by
  subst hx
  have z := k s env1 h1 fp1 R
  cases hp : p s with
  | nx s' =>
    rw [hp] at z
    obtain ⟨env', h', fp', e, R', fr', gr', pn'⟩ := z
    exact ⟨env', h', fp', e, R', fr.trans gr fr', gr.trans fr.len gr', pn.trans pn'⟩
  | bk s' =>
    rw [hp] at z
    obtain ⟨env', h', fp', e, R', fr', gr', pn'⟩ := z
    exact ⟨env', h', fp', e, R', fr.trans gr fr', gr.trans fr.len gr', pn.trans pn'⟩
  | ct s' =>
    rw [hp] at z
    obtain ⟨env', h', fp', e, R', fr', gr', pn'⟩ := z
    exact ⟨env', h', fp', e, R', fr.trans gr fr', gr.trans fr.len gr', pn.trans pn'⟩
  | rt r s' =>
    rw [hp] at z
    obtain ⟨v, env', h', f, fp', e, R', er, nd, dj, fr', gr', pn'⟩ := z
    exact ⟨v, env', h', f, fp', e, R', er, nd, dj, fr.trans gr fr', gr.trans fr.len gr', pn.trans pn'⟩
  | exc C xs s' =>
    rw [hp] at z
    obtain ⟨env', h', fp', e, R', fr', gr', pn'⟩ := z
    exact ⟨env', h', fp', e, R', fr.trans gr fr', gr.trans fr.len gr', pn.trans pn'⟩
  | bad => trivial
theorem ts_seq (k1 : TS c D a pa D1) (k2 : TS c D1 b pb D2) : TS c D (sSeq a b) (ySeq pa pb) D2 := fun s env h fp R => by
  have z := k1 s env h fp R
  unfold sSeq ySeq
  cases hp : pa s with
  | nx s' =>
    rw [hp] at z
    obtain ⟨env', h', fp', e, R', fr, gr, pn⟩ := z
    exact TS.after fr gr pn (by rw [e]) R' k2
  | bk s' => rw [hp] at z; obtain ⟨env', h', fp', e, q⟩ := z; exact ⟨env', h', fp', by rw [e], q⟩
  | ct s' => rw [hp] at z; obtain ⟨env', h', fp', e, q⟩ := z; exact ⟨env', h', fp', by rw [e], q⟩
  | rt r s' => rw [hp] at z; obtain ⟨v, env', h', f, fp', e, q⟩ := z; exact ⟨v, env', h', f, fp', by rw [e], q⟩
  | exc C xs s' => rw [hp] at z; obtain ⟨env', h', fp', e, q⟩ := z; exact ⟨env', h', fp', by rw [e], q⟩
  | bad => trivial
theorem ts_ex {en : Enc α} {f : MV → MH → MEnv → OutS} {m : MS} {g : α → σ → F σ ρ} (hm : ∀ env h, m env h = (e env h).andS env fun v h => f v h env) (k : TX c.tb c.N D e p en) (hx : subB c.Dx D = true)
    (kk : ∀ a s v env h0 h fp0 fp fv, RS c.tb c.N D s env h fp → (en a).r v h fv → fv.Nodup → (∀ n ∈ fv, ¬ Wn D fp n) → Fr (Wn D fp0) h0 h → Grow (Wn D fp0) (fun n => Wn D fp n ∨ n ∈ fv) h0 → match g a s with
      | .nx s' => ∃ env' h' fp', f v h env = .ok .nx env' h' ∧ RS c.tb c.N D2 s' env' h' fp' ∧ Fr (Wn D fp0) h0 h' ∧ Grow (Wn D fp0) (Wn D2 fp') h0 ∧ Pin c.pin env env'
      | .bk s' => ∃ env' h' fp', f v h env = .ok .bk env' h' ∧ RS c.tb c.N c.Db s' env' h' fp' ∧ Fr (Wn D fp0) h0 h' ∧ Grow (Wn D fp0) (Wn c.Db fp') h0 ∧ Pin c.pin env env'
      | .ct s' => ∃ env' h' fp', f v h env = .ok .ct env' h' ∧ RS c.tb c.N c.Db s' env' h' fp' ∧ Fr (Wn D fp0) h0 h' ∧ Grow (Wn D fp0) (Wn c.Db fp') h0 ∧ Pin c.pin env env'
      | .rt r s' => ∃ w env' h' f' fp', f v h env = .ok (.rt w) env' h' ∧ RS c.tb c.N c.Dr s' env' h' fp' ∧ (c.er r).r w h' f' ∧ f'.Nodup ∧ (∀ n ∈ f', ¬ Wn c.Dr fp' n) ∧ Fr (Wn D fp0) h0 h' ∧ Grow (Wn D fp0) (fun n => Wn c.Dr fp' n ∨ n ∈ f') h0 ∧ Pin c.pin env env'
      | .exc C xs s' => ∃ env' h' fp', f v h env = .exc C xs env' h' ∧ RS c.tb c.N c.Dx s' env' h' fp' ∧ Fr (Wn D fp0) h0 h' ∧ Grow (Wn D fp0) (Wn c.Dx fp') h0 ∧ Pin c.pin env env'
      | .bad => True) : TS c D m (fun s => (p s).toF g) D2 := fun s env h fp R => by
  have z := k s env h fp R
  simp only
  cases hp : p s with
  | ok a s' =>
    rw [hp] at z
    obtain ⟨v, h', f', fp', e1, R1, r, nd, dj, fr, gr⟩ := z
    have hm' : m env h = f v h' env := by rw [hm, e1]
    rw [hm']
    exact kk a s' v env h h' fp fp' f' R1 r nd dj fr gr
  | exc C xs s' =>
    rw [hp] at z
    obtain ⟨h', fp', e1, R1, fr, gr⟩ := z
    exact ⟨env, h', fp', by rw [hm, e1], R1.sub (subB_ok hx), fr, gr.sub fun n q => Wn.sub (subB_ok hx) q, Pin.refl⟩
  | bad => trivial
theorem ts_set {en : Enc α} (i : Nat) (k : TX c.tb c.N D e p en) (kp : Keep c.tb st ix D0) (hr : ∀ s a, (c.tb i).rep (st s a) = en a) (hs : subB D0 D = true := by rfl) (hx : (c.tb i).ix = ix := by rfl) (hN : ix < c.N := by decide) (hp : c.pin.contains ix = false := by rfl) (hxx : subB c.Dx D = true := by rfl) :
    TS c D (sSet ix e) (ySet st p) (i :: D0) := by with_unfolding_all exact (ts_ex (f := fun v h env => .ok .nx (env.set ix (some v)) h) (fun env h => rfl) k hxx fun a s v env h0 h fp0 fp fv R r nd dj fr gr => by
  obtain ⟨q1, q2⟩ := R.set hs kp hx hN (by rw [hr]; exact r) nd dj
  exact ⟨_, h, _, rfl, q1, fr, fun n hn => gr n (q2 n hn), pin_set hp⟩)
theorem ts_ret {p : σ → X σ ρ} (k : TX c.tb c.N D e p c.er) (hd : subB c.Dr D = true := by rfl) (hxx : subB c.Dx D = true := by rfl) : TS c D (sRet e) (yRet p) D' := by with_unfolding_all exact (ts_ex (f := fun v h env => .ok (.rt v) env h) (fun env h => rfl) k hxx fun a s v env h0 h fp0 fp fv R r nd dj fr gr =>
  ⟨v, env, h, fv, fp, rfl, R.sub (subB_ok hd), r, nd, fun n hn z => dj n hn (Wn.sub (subB_ok hd) z), fr, gr.sub fun n q => q.imp (Wn.sub (subB_ok hd)) id, Pin.refl⟩)
theorem ts_expr {en : Enc α} (k : TX c.tb c.N D e p en) (hxx : subB c.Dx D = true := by rfl) : TS c D (sExpr e) (yExpr p) D := by with_unfolding_all exact (ts_ex (f := fun v h env => .ok .nx env h) (fun env h => rfl) k hxx fun a s v env h0 h fp0 fp fv R r nd dj fr gr =>
  ⟨env, h, fp, rfl, R, fr, gr.sub fun n q => .inl q, Pin.refl⟩)
theorem ts_raise {C : Str} (hd : subB c.Dx D = true := by rfl) : TS c D (sRaise C) (yRaise C) D' := by with_unfolding_all exact (fun s env h fp R => ⟨env, h, fp, rfl, R.sub (subB_ok hd), Fr.refl, fun n q => .inl (Wn.sub (subB_ok hd) q), Pin.refl⟩)
theorem ts_sub (k : TS c D m pa D1) (hs : subB D2 D1 = true := by rfl) : TS c D m pa D2 := fun s env h fp R => by
  have z := k s env h fp R
  cases hp : pa s with
  | nx s' =>
    rw [hp] at z
    obtain ⟨env', h', fp', e, R', fr, gr, pn⟩ := z
    exact ⟨env', h', fp', e, R'.sub (subB_ok hs), fr, gr.sub fun n q => Wn.sub (subB_ok hs) q, pn⟩
  | bk s' => rw [hp] at z; exact z
  | ct s' => rw [hp] at z; exact z
  | rt r s' => rw [hp] at z; exact z
  | exc C xs s' => rw [hp] at z; exact z
  | bad => trivial
theorem ts_if {t : MT} {pt : σ → X σ Bool} (kt : TXT c.tb c.N D t pt) (k1 : TS c D a pa D1) (k2 : TS c D b pb D2) (h1 : subB D' D1 = true := by rfl) (h2 : subB D' D2 = true := by rfl) (hxx : subB c.Dx D = true := by rfl) : TS c D (sIf t a b) (yIf pt pa pb) D' := fun s env h fp R => by
  have z := kt s env h fp R
  unfold sIf yIf
  cases hp : pt s with
  | ok v s' =>
    rw [hp] at z
    obtain ⟨h', fp', e1, R1, fr, gr⟩ := z
    simp only [X.toF]
    cases v with
    | true =>
      simp only [if_true]
      exact TS.after (m := a) fr gr Pin.refl (by rw [e1]; rfl) R1 (ts_sub k1 h1)
    | false =>
      simp only [Bool.false_eq_true, if_false]
      exact TS.after (m := b) fr gr Pin.refl (by rw [e1]; rfl) R1 (ts_sub k2 h2)
  | exc C xs s' =>
    rw [hp] at z
    obtain ⟨h', fp', e1, R1, fr, gr⟩ := z
    exact ⟨env, h', fp', by rw [e1], R1.sub (subB_ok hxx), fr, gr.sub fun n q => Wn.sub (subB_ok hxx) q, Pin.refl⟩
  | bad => trivial
def TG (c : Cx σ ρ) {α : Type} (D : List Nat) (g : MG) (st : σ → α → σ) (va : α → MV) (D1 : List Nat) : Prop := ∀ s env h fp a, RS c.tb c.N D s env h fp → ∃ env' fp', g (va a) env h = .ok env' h ∧ RS c.tb c.N D1 (st s a) env' h fp' ∧ (∀ n, Wn D1 fp' n → Wn D fp n) ∧ Pin c.pin env env'
def TGs (c : Cx σ ρ) {α : Type} (D : List Nat) (g : List MG) (st : σ → α → σ) (va : α → List MV) (D1 : List Nat) : Prop := ∀ s env h fp a, RS c.tb c.N D s env h fp → ∃ env' fp', gTp g (va a) env h = .ok env' h ∧ RS c.tb c.N D1 (st s a) env' h fp' ∧ (∀ n, Wn D1 fp' n → Wn D fp n) ∧ Pin c.pin env env'
theorem tg_nm (i : Nat) (kp : Keep c.tb st ix D0) (hr : ∀ s a, (c.tb i).rep (st s a) = fz va a) (hs : subB D0 D = true := by rfl) (hx : (c.tb i).ix = ix := by rfl) (hN : ix < c.N := by decide) (hp : c.pin.contains ix = false := by rfl) : TG c D (gNm ix) st va (i :: D0) := fun s env h fp a R => by
  obtain ⟨q1, q2⟩ := R.set (v := va a) (f := []) (a := a) hs kp hx hN (by rw [hr]; exact ⟨rfl, rfl⟩) List.nodup_nil (fun n hn => nomatch hn)
  exact ⟨_, _, rfl, q1, (fun n hn => (q2 n hn).elim id fun z => nomatch z), pin_set hp⟩
theorem tgs_one {g : MG} (k : TG c D g st va D1) : TGs c D [g] st (fun a => [va a]) D1 := fun s env h fp a R => by
  obtain ⟨env', fp', e, q⟩ := k s env h fp a R
  exact ⟨env', fp', by unfold gTp; rw [e]; rfl, q⟩
theorem tgs_cons {g : MG} {gs : List MG} {stb : σ → β → σ} {vs : β → List MV} (k1 : TG c D g st va D1) (k2 : TGs c D1 gs stb vs D2) : TGs c D (g :: gs) (fun s (x : α × β) => stb (st s x.1) x.2) (fun x => va x.1 :: vs x.2) D2 := fun s env h fp x R => by
  obtain ⟨env', fp', e, R1, w1, p1⟩ := k1 s env h fp x.1 R
  obtain ⟨env2, fp2, e2, R2, w2, p2⟩ := k2 _ env' h fp' x.2 R1
  exact ⟨env2, fp2, by unfold gTp; rw [e]; exact e2, R2, fun n q => w1 n (w2 n q), p1.trans p2⟩
theorem tg_tup {gs : List MG} {vs : α → List MV} (k : TGs c D gs st vs D1) (hv : ∀ a, va a = .tup (vs a) := by intro _; rfl) : TG c D (gTup gs) st va D1 := fun s env h fp a R => by
  obtain ⟨env', fp', e, q⟩ := k s env h fp a R
  exact ⟨env', fp', by rw [hv]; exact e, q⟩
theorem ts_asg {g : MG} (k : TX c.tb c.N D e p (fz va)) (kg : TG c D g st va D1) (hxx : subB c.Dx D = true := by rfl) : TS c D (sAsg e g) (ySet st p) D1 := by with_unfolding_all exact (ts_ex (f := fun v h env => (g v env h).andS env fun env' h => .ok .nx env' h) (fun env h => rfl) k hxx fun a s v env h0 h fp0 fp fv R r nd dj fr gr => by
  obtain ⟨env', fp', e, R1, w1, p1⟩ := kg s env h fp a R
  exact ⟨env', h, fp', by rw [r.1, e], R1, fr, fun n q => gr n (.inl (w1 n q)), p1⟩)
abbrev Cx.lp (c : Cx σ ρ) (Dl : List Nat) : Cx σ ρ := { c with Db := Dl }
def TXI (tb : Nat → Slot σ) (N : Nat) (D : List Nat) (it : MIt) (p : σ → X σ (List α)) (va : α → MV) : Prop := ∀ s env h fp, RS tb N D s env h fp → match p s with
  | .ok a s' => ∃ h' fp', it env h = .ok (.st (a.map va)) h' ∧ RS tb N D s' env h' fp' ∧ Fr (Wn D fp) h h' ∧ Grow (Wn D fp) (Wn D fp') h
  | .exc C xs s' => ∃ h' fp', it env h = .exc C xs h' ∧ RS tb N D s' env h' fp' ∧ Fr (Wn D fp) h h' ∧ Grow (Wn D fp) (Wn D fp') h
  | .bad => True
theorem ti_seq {va' : List α → MV} {tb : Nat → Slot σ} {N : Nat} {p : σ → X σ (List α)} (hs : ∀ xs env h, iSeq (mC (va' xs)) env h = .ok (.st (xs.map va)) h) (k : TX tb N D e p (fz va')) : TXI tb N D (iSeq e) p va := fun s env h fp R => by
  have z := k s env h fp R
  cases hp : p s with
  | ok a s' =>
    rw [hp] at z
    obtain ⟨v, h', f', fp', e1, R1, r, _, _, fr, gr⟩ := z
    refine ⟨h', fp', ?_, R1, fr, gr.sub fun n q => .inl q⟩
    have := hs a env h'
    unfold iSeq mC at this
    unfold iSeq
    rw [e1, r.1]
    exact this
  | exc C xs s' =>
    rw [hp] at z
    obtain ⟨h', fp', e1, R1, fr, gr⟩ := z
    exact ⟨h', fp', by unfold iSeq; rw [e1], R1, fr, gr⟩
  | bad => trivial
theorem ti_t {tb : Nat → Slot σ} {N : Nat} {p : σ → X σ (List α)} (k : TX tb N D e p (fz (tV va))) : TXI tb N D (iSeq e) p va := ti_seq (fun _ _ _ => rfl) k
theorem ti_l {tb : Nat → Slot σ} {N : Nat} {p : σ → X σ (List α)} (k : TX tb N D e p (fz (lV va))) : TXI tb N D (iSeq e) p va := ti_seq (fun _ _ _ => rfl) k
theorem ti_parts {γ : Type} {vg : γ → MV} {tb : Nat → Slot σ} {N : Nat} {p : σ → X σ γ} {ps : γ → List α} (hs : ∀ x env h, iSeq (mC (vg x)) env h = .ok (.st ((ps x).map va)) h) (k : TX tb N D e p (fz vg)) : TXI tb N D (iSeq e) (x1 ps p) va := fun s env h fp R => by
  have z := k s env h fp R
  unfold x1
  cases hp : p s with
  | ok a s' =>
    rw [hp] at z
    obtain ⟨v, h', f', fp', e1, R1, r, _, _, fr, gr⟩ := z
    refine ⟨h', fp', ?_, R1, fr, gr.sub fun n q => .inl q⟩
    have := hs a env h'
    unfold iSeq mC at this
    unfold iSeq
    rw [e1, r.1]
    exact this
  | exc C xs s' =>
    rw [hp] at z
    obtain ⟨h', fp', e1, R1, fr, gr⟩ := z
    exact ⟨h', fp', by unfold iSeq; rw [e1], R1, fr, gr⟩
  | bad => trivial
def rng (lo : Int) (n : Nat) : List Int := (List.range n).map fun k : Nat => lo + (k : Int)
theorem rng_map {lo : Int} {n : Nat} : rangeM lo n = (rng lo n).map .int := by
  unfold rangeM rng; rw [List.map_map]; rfl
@[irreducible] def gRng1 (x : Int × Unit) : Option (List Int) := if -(2 ^ 62) ≤ x.1 ∧ x.1 < 2 ^ 62 then some (rng 0 x.1.toNat) else none
theorem ti_args {tb : Nat → Slot σ} {N : Nat} {ms : MA} {it : MA → MIt} {β : Type} {vs : β → List MV} {g : β → Option (List α)} {q : σ → X σ β} (o : ∀ ms env h, (∀ b xs h', ms env h = .ok (vs b) h' → g b = some xs → it ms env h = .ok (.st (xs.map va)) h') ∧ ∀ C xs h', ms env h = .exc C xs h' → it ms env h = .exc C xs h') (k : TXA tb N D ms q vs) : TXI tb N D (it ms) (x1o g q) va := fun s env h fp R => by
  have z := k s env h fp R
  unfold x1o
  cases hq : q s with
  | ok a s' =>
    rw [hq] at z
    obtain ⟨h', fp', e1, R1, fr, gr⟩ := z
    simp only [X.bind]
    cases hg : g a with
    | none => trivial
    | some b => exact ⟨h', fp', (o ms env h).1 a b h' e1 hg, R1, fr, gr⟩
  | exc C xs s' =>
    rw [hq] at z
    obtain ⟨h', fp', e1, R1, fr, gr⟩ := z
    exact ⟨h', fp', (o ms env h).2 C xs h' e1, R1, fr, gr⟩
  | bad => trivial
theorem ti_range1 {tb : Nat → Slot σ} {N : Nat} {ms : MA} {q : σ → X σ (Int × Unit)} (k : TXA tb N D ms q (fun x => .int x.1 :: [])) : TXI tb N D (iRange1 ms) (x1o gRng1 q) .int := ti_args (fun ms env h => ⟨(fun b xs h' e g => by
  unfold gRng1 at g
  by_cases c : -(2 ^ 62) ≤ b.1 ∧ b.1 < 2 ^ 62
  · rw [if_pos c] at g; cases g
    rw [it_range1 e c, rng_map]
  · rw [if_neg c] at g; cases g), fun C xs h' e => by unfold iRange1; rw [e]⟩) k
theorem tsl_for {Dl : List Nat} {g : MG} {va : α → MV} (kg : TG (c.lp Dl) Dl g st va D1) (kb : TS (c.lp Dl) D1 m pa D2) (h2 : subB Dl D2 = true) : ∀ xs : List α, TS c Dl (sForL g m (xs.map va)) (yForL st pa xs) Dl
  | [] => by with_unfolding_all exact ts_nil
  | x :: xs => fun s env h fp R => by
    obtain ⟨env1, fp1, e1, R1, w1, p1⟩ := kg s env h fp x R
    have fr1 : Fr (Wn Dl fp) h h := Fr.refl
    have gr1 : Grow (Wn Dl fp) (Wn D1 fp1) h := fun n q => .inl (w1 n q)
    have z := TS.after (c := c.lp Dl) (x := m env1 h) fr1 gr1 p1 rfl R1 (ts_sub kb h2)
    have ih := tsl_for kg kb h2 xs
    have hm : sForL g m ((x :: xs).map va) env h = match m env1 h with
        | .ok .nx env' h' => sForL g m (xs.map va) env' h'
        | .ok .ct env' h' => sForL g m (xs.map va) env' h'
        | .ok .bk env' h' => .ok .nx env' h'
        | o => o := by
      show ((g (va x) env h).andS env _) = _
      rw [e1] <;> rfl
    rw [hm]
    unfold yForL
    cases hp : pa (st s x) with
    | nx s' =>
      rw [hp] at z
      obtain ⟨env', h', fp', e, R', fr, gr, pn⟩ := z
      exact TS.after (c := c) (m := sForL g m (xs.map va)) fr gr pn (by rw [e]) R' ih
    | ct s' =>
      rw [hp] at z
      obtain ⟨env', h', fp', e, R', fr, gr, pn⟩ := z
      exact TS.after (c := c) (m := sForL g m (xs.map va)) fr gr pn (by rw [e]) R' ih
    | bk s' => rw [hp] at z; obtain ⟨env', h', fp', e, q⟩ := z; exact ⟨env', h', fp', by rw [e], q⟩
    | rt r s' => rw [hp] at z; obtain ⟨v, env', h', f, fp', e, q⟩ := z; exact ⟨v, env', h', f, fp', by rw [e], q⟩
    | exc C xs s' => rw [hp] at z; obtain ⟨env', h', fp', e, q⟩ := z; exact ⟨env', h', fp', by rw [e], q⟩
    | bad => trivial
theorem ts_for {Dl : List Nat} {it : MIt} {g : MG} {va : α → MV} {pi : σ → X σ (List α)} (ki : TXI c.tb c.N D it pi va) (kg : TG (c.lp Dl) Dl g st va D1) (kb : TS (c.lp Dl) D1 m pa D2) (h0 : subB Dl D = true := by rfl) (h2 : subB Dl D2 = true := by rfl) (hxx : subB c.Dx D = true := by rfl) : TS c D (sFor it g m) (yFor pi st pa) Dl := fun s env h fp R => by
  have z := ki s env h fp R
  unfold sFor yFor
  cases hp : pi s with
  | ok xs s' =>
    rw [hp] at z
    obtain ⟨h', fp', e1, R1, fr, gr⟩ := z
    simp only [X.toF]
    rw [e1]
    exact TS.after (m := sForL g m (xs.map va)) fr (gr.sub fun n q => Wn.sub (subB_ok h0) q) Pin.refl rfl (R1.sub (subB_ok h0)) (tsl_for kg kb h2 xs)
  | exc C xs s' =>
    rw [hp] at z
    obtain ⟨h', fp', e1, R1, fr, gr⟩ := z
    exact ⟨env, h', fp', by rw [e1], R1.sub (subB_ok hxx), fr, gr.sub fun n q => Wn.sub (subB_ok hxx) q, Pin.refl⟩
  | bad => trivial
end
end Ty
set_option Elab.async false
set_option linter.all false
set_option maxRecDepth 100000
namespace Ty
open PySem PySem.Spec PyProof.Rows L2 Mn

inductive PSpec : Type → Type → Type 1 where
  | nil : PSpec Unit Unit
  | fr {I A α : Type} (va : α → MV) (r : PSpec I A) : PSpec I (α × A)
  | io {I A α : Type} (e : Enc α) (r : PSpec I A) : PSpec (α × I) A
def PSpec.rep : {I A : Type} → PSpec I A → I → A → List MV → MH → List (List Nat) → Prop
  | _, _, .nil, _, _, ds, _, fps => ds = [] ∧ fps = []
  | _, _, .fr va r, i, a, ds, h, fps => ∃ ds', ds = va a.1 :: ds' ∧ r.rep i a.2 ds' h fps
  | _, _, .io e r, i, a, ds, h, fps => ∃ v ds' f fps', ds = v :: ds' ∧ fps = f :: fps' ∧ (e i.1).r v h f ∧ r.rep i.2 a ds' h fps'
def PSpec.len : {I A : Type} → PSpec I A → Nat
  | _, _, .nil => 0
  | _, _, .fr _ r => r.len + 1
  | _, _, .io _ r => r.len + 1
theorem PSpec.rep_len : ∀ {I A : Type} (ps : PSpec I A) {i : I} {a : A} {ds : List MV} {h : MH} {fps : List (List Nat)}, ps.rep i a ds h fps → ds.length = ps.len
  | _, _, .nil, _, _, _, _, _, q => by rw [q.1]; rfl
  | _, _, .fr _ r, _, _, _, _, _, q => by obtain ⟨_, e, q⟩ := q; rw [e, List.length_cons, r.rep_len q]; rfl
  | _, _, .io _ r, _, _, _, _, _, q => by obtain ⟨_, _, _, _, e, _, _, q⟩ := q; rw [e, List.length_cons, r.rep_len q]; rfl
theorem PSpec.frame : ∀ {I A : Type} (ps : PSpec I A) {i : I} {a : A} {ds : List MV} {h h' : MH} {fps : List (List Nat)}, ps.rep i a ds h fps → (∀ n ∈ fps.flatten, h'[n]? = h[n]?) → ps.rep i a ds h' fps
  | _, _, .nil, _, _, _, _, _, _, q, _ => q
  | _, _, .fr _ r, _, _, _, _, _, _, q, k => by obtain ⟨_, e, q⟩ := q; exact ⟨_, e, r.frame q k⟩
  | _, _, .io ee r, _, _, _, _, _, _, q, k => by
    obtain ⟨v, ds', f, fps', e, e2, q1, q2⟩ := q
    subst e2
    rw [List.flatten_cons] at k
    exact ⟨v, ds', f, fps', e, rfl, (ee _).frame q1 fun n hn => k n (List.mem_append_left _ hn), r.frame q2 fun n hn => k n (List.mem_append_right _ hn)⟩
def TFun {I A ρ : Type} (ps : PSpec I A) (m : MF) (fn : I → A → X I ρ) (er : Enc ρ) : Prop := ∀ i a ds h fps, ps.rep i a ds h fps → fps.flatten.Nodup → match fn i a with
  | .ok r i' => ∃ v h' fps' f, m ds h = .ok v h' ∧ ps.rep i' a ds h' fps' ∧ (er r).r v h' f ∧ (f ++ fps'.flatten).Nodup ∧ Fr (· ∈ fps.flatten) h h' ∧ Grow (· ∈ fps.flatten) (fun n => n ∈ fps'.flatten ∨ n ∈ f) h
  | .exc C xs i' => ∃ h' fps', m ds h = .exc C xs h' ∧ ps.rep i' a ds h' fps' ∧ fps'.flatten.Nodup ∧ Fr (· ∈ fps.flatten) h h' ∧ Grow (· ∈ fps.flatten) (· ∈ fps'.flatten) h
  | .bad => True

section
variable {σ : Type}
def PIn (tb : Nat → Slot σ) : {I A : Type} → PSpec I A → Nat → σ → I → A → Prop
  | _, _, .nil, _, _, _, _ => True
  | _, _, .fr va r, k, s, i, a => ((tb k).ix = k ∧ (tb k).rep s = fz va a.1) ∧ PIn tb r (k + 1) s i a.2
  | _, _, .io e r, k, s, i, a => ((tb k).ix = k ∧ (tb k).rep s = e i.1) ∧ PIn tb r (k + 1) s i.2 a
def POut (tb : Nat → Slot σ) : {I A : Type} → PSpec I A → Nat → σ → I → Prop
  | _, _, .nil, _, _, _ => True
  | _, _, .fr va r, k, s, i => POut tb r (k + 1) s i
  | _, _, .io e r, k, s, i => ((tb k).ix = k ∧ (tb k).rep s = e i.1) ∧ POut tb r (k + 1) s i.2
def PSpec.ios : {I A : Type} → PSpec I A → Nat → List Nat
  | _, _, .nil, _ => []
  | _, _, .fr _ r, k => r.ios (k + 1)
  | _, _, .io _ r, k => k :: r.ios (k + 1)
def PSpec.fpp : {I A : Type} → PSpec I A → Nat → List (List Nat) → Nat → List Nat
  | _, _, .nil, _, _ => fun _ => []
  | _, _, .fr _ r, k, fps => fun j => if j = k then [] else r.fpp (k + 1) fps j
  | _, _, .io _ r, k, fps => fun j => if j = k then fps.headD [] else r.fpp (k + 1) fps.tail j
theorem fpp_mem : ∀ {I A : Type} (ps : PSpec I A) (k : Nat) {i : I} {a : A} {ds : List MV} {h : MH} {fps : List (List Nat)}, ps.rep i a ds h fps → ∀ j n, n ∈ ps.fpp k fps j → n ∈ fps.flatten
  | _, _, .nil, _, _, _, _, _, _, _, _, _, hn => nomatch hn
  | _, _, .fr _ r, k, _, _, _, _, _, q, j, n, hn => by
    obtain ⟨_, _, q⟩ := q
    unfold PSpec.fpp at hn
    split at hn
    · cases hn
    · exact fpp_mem r (k + 1) q j n hn
  | _, _, .io _ r, k, _, _, _, _, _, q, j, n, hn => by
    obtain ⟨_, _, f, fps', _, e, _, q⟩ := q
    subst e
    unfold PSpec.fpp at hn
    rw [List.flatten_cons]
    split at hn
    · exact List.mem_append_left _ hn
    · exact List.mem_append_right _ (fpp_mem r (k + 1) q j n hn)
theorem fpp_nd : ∀ {I A : Type} (ps : PSpec I A) (k : Nat) {i : I} {a : A} {ds : List MV} {h : MH} {fps : List (List Nat)}, ps.rep i a ds h fps → fps.flatten.Nodup → (∀ j, (ps.fpp k fps j).Nodup) ∧ ∀ j l, j ≠ l → ∀ n ∈ ps.fpp k fps j, n ∉ ps.fpp k fps l
  | _, _, .nil, _, _, _, _, _, _, _, _ => ⟨fun _ => List.nodup_nil, fun _ _ _ _ hn => nomatch hn⟩
  | _, _, .fr _ r, k, _, _, _, _, _, q, nd => by
    obtain ⟨_, _, q⟩ := q
    obtain ⟨i1, i2⟩ := fpp_nd r (k + 1) q nd
    refine ⟨fun j => ?_, fun j l hjl n hn hm => ?_⟩
    · unfold PSpec.fpp; split
      · exact List.nodup_nil
      · exact i1 j
    · unfold PSpec.fpp at hn hm
      split at hn
      · cases hn
      · split at hm
        · cases hm
        · exact i2 j l hjl n hn hm
  | _, _, .io _ r, k, _, _, _, _, _, q, nd => by
    obtain ⟨_, _, f, fps', _, e, _, q⟩ := q
    subst e
    rw [List.flatten_cons, List.nodup_append] at nd
    obtain ⟨i1, i2⟩ := fpp_nd r (k + 1) q nd.2.1
    refine ⟨fun j => ?_, fun j l hjl n hn hm => ?_⟩
    · unfold PSpec.fpp; split
      · exact nd.1
      · exact i1 j
    · unfold PSpec.fpp at hn hm
      split at hn
      · rename_i ej
        rw [if_neg (fun z => hjl (ej.trans z.symm))] at hm
        exact nd.2.2 n hn n (fpp_mem r (k + 1) q l n hm) rfl
      · split at hm
        · exact nd.2.2 n hm n (fpp_mem r (k + 1) q j n hn) rfl
        · exact i2 j l hjl n hn hm
theorem pin_ok {tb : Nat → Slot σ} {s : σ} {N : Nat} : ∀ {I A : Type} (ps : PSpec I A) (k : Nat) {i : I} {a : A} {ds pre : List MV} {h : MH} {fps : List (List Nat)}, PIn tb ps k s i a → ps.rep i a ds h fps → pre.length = k → ∀ j, k ≤ j → j < k + ps.len → ∃ v, ((pre ++ ds).map some ++ List.replicate N none)[(tb j).ix]? = some (some v) ∧ ((tb j).rep s).r v h (ps.fpp k fps j)
  | _, _, .nil, k, _, _, _, _, _, _, _, _, _, j, h1, h2 => by unfold PSpec.len at h2; omega
  | _, _, .fr va r, k, _, a, _, pre, _, _, p, q, hl, j, h1, h2 => by
    obtain ⟨ds', e, q⟩ := q
    subst e
    unfold PSpec.len at h2
    by_cases hj : j = k
    · subst hj
      obtain ⟨⟨p1, p2⟩, _⟩ := p
      refine ⟨va a.1, ?_, ?_⟩
      · rw [p1, ← hl]; simp
      · rw [p2]; unfold PSpec.fpp; rw [if_pos rfl]; exact ⟨rfl, rfl⟩
    · obtain ⟨_, p3⟩ := p
      have := pin_ok (tb := tb) (s := s) (N := N) r (k + 1) (pre := pre ++ [va a.1]) p3 q (by simp [hl]) j (by omega) (by omega)
      unfold PSpec.fpp; rw [if_neg hj]
      simpa using this
  | _, _, .io ee r, k, i, a, _, pre, _, _, p, q, hl, j, h1, h2 => by
    obtain ⟨v, ds', f, fps', e, e2, q1, q2⟩ := q
    subst e; subst e2
    unfold PSpec.len at h2
    by_cases hj : j = k
    · subst hj
      obtain ⟨⟨p1, p2⟩, _⟩ := p
      refine ⟨v, ?_, ?_⟩
      · rw [p1, ← hl]; simp
      · rw [p2]; unfold PSpec.fpp; rw [if_pos rfl]; exact q1
    · obtain ⟨_, p3⟩ := p
      have := pin_ok (tb := tb) (s := s) (N := N) r (k + 1) (pre := pre ++ [v]) p3 q2 (by simp [hl]) j (by omega) (by omega)
      unfold PSpec.fpp; rw [if_neg hj]
      simpa using this
theorem ios_ge : ∀ {I A : Type} (ps : PSpec I A) (k : Nat), ∀ j ∈ ps.ios k, k ≤ j
  | _, _, .nil, _, _, h => nomatch h
  | _, _, .fr _ r, k, j, h => Nat.le_of_succ_le (ios_ge r (k + 1) j h)
  | _, _, .io _ r, k, j, h => by
    rcases List.mem_cons.mp h with rfl | h
    · exact Nat.le_refl _
    · exact Nat.le_of_succ_le (ios_ge r (k + 1) j h)
theorem pout_ok {tb : Nat → Slot σ} {N : Nat} {s : σ} {env : MEnv} {h : MH} {fp : Nat → List Nat} {D : List Nat} (R : RS tb N D s env h fp) : ∀ {I A : Type} (ps : PSpec I A) (k : Nat) {i0 i : I} {a : A} {ds : List MV} {h0 : MH} {fps0 : List (List Nat)}, POut tb ps k s i → ps.rep i0 a ds h0 fps0 → (∀ j ∈ ps.ios k, j ∈ D) → (∀ j ∈ ps.ios k, env[j]? = (ds[j - k]?).map some) → ps.rep i a ds h ((ps.ios k).map fp)
  | _, _, .nil, _, _, _, _, _, _, _, _, q, _, _ => ⟨q.1, rfl⟩
  | _, _, .fr va r, k, i0, i, a, _, h0, fps0, p, q, hd, hp => by
    obtain ⟨ds', e, q⟩ := q
    subst e
    refine ⟨ds', rfl, pout_ok R r (k + 1) p q hd fun j hj => ?_⟩
    have g := ios_ge r (k + 1) j hj
    rw [hp j hj, show j - k = (j - (k + 1)) + 1 by omega]; rfl
  | _, _, .io ee r, k, i0, i, a, _, h0, fps0, p, q, hd, hp => by
    obtain ⟨⟨p1, p2⟩, p3⟩ := p
    obtain ⟨v, ds', f, fps', e, e2, q1, q2⟩ := q
    subst e; subst e2
    obtain ⟨w, w1, w2⟩ := R.ok k (hd k (List.mem_cons_self ..))
    have e0 := hp k (List.mem_cons_self ..)
    rw [p1] at w1
    rw [w1, Nat.sub_self] at e0
    have e0 : some (some w) = some (some v) := e0
    have e0 : w = v := Option.some.inj (Option.some.inj e0)
    subst e0
    refine ⟨w, ds', fp k, _, rfl, rfl, by rw [← p2]; exact w2, pout_ok R r (k + 1) p3 q2 (fun j hj => hd j (List.mem_cons_of_mem _ hj)) fun j hj => ?_⟩
    have g := ios_ge r (k + 1) j hj
    rw [hp j (List.mem_cons_of_mem _ hj), show j - k = (j - (k + 1)) + 1 by omega]; rfl
theorem ios_nd : ∀ {I A : Type} (ps : PSpec I A) (k : Nat), (ps.ios k).Nodup
  | _, _, .nil, _ => List.nodup_nil
  | _, _, .fr _ r, k => ios_nd r (k + 1)
  | _, _, .io _ r, k => List.nodup_cons.mpr ⟨fun h => by have := ios_ge r (k + 1) k h; omega, ios_nd r (k + 1)⟩
theorem map_nd {tb : Nat → Slot σ} {N : Nat} {s : σ} {env : MEnv} {h : MH} {fp : Nat → List Nat} {D : List Nat} (R : RS tb N D s env h fp) : ∀ L : List Nat, L.Nodup → (∀ j ∈ L, j ∈ D) → (L.map fp).flatten.Nodup
  | [], _, _ => List.nodup_nil
  | j :: L, nd, hd => by
    obtain ⟨n1, n2⟩ := List.nodup_cons.mp nd
    rw [List.map_cons, List.flatten_cons, List.nodup_append]
    refine ⟨R.nd j (hd j (List.mem_cons_self ..)), map_nd R L n2 fun l hl => hd l (List.mem_cons_of_mem _ hl), fun n hn m hm e => ?_⟩
    subst e
    obtain ⟨q, hq, hm⟩ := List.mem_flatten.mp hm
    obtain ⟨l, hl, rfl⟩ := List.mem_map.mp hq
    exact R.dj j (hd j (List.mem_cons_self ..)) l (hd l (List.mem_cons_of_mem _ hl)) (fun z => n1 (z ▸ hl)) n hn hm
theorem mem_map_fp {fp : Nat → List Nat} {L : List Nat} {n : Nat} : n ∈ (L.map fp).flatten ↔ Wn L fp n := by
  constructor
  · intro h
    obtain ⟨q, hq, hm⟩ := List.mem_flatten.mp h
    obtain ⟨l, hl, rfl⟩ := List.mem_map.mp hq
    exact ⟨l, hl, hm⟩
  · rintro ⟨l, hl, hm⟩
    exact List.mem_flatten.mpr ⟨_, List.mem_map.mpr ⟨l, hl, rfl⟩, hm⟩
end

@[irreducible] def yRun {σ I A ρ : Type} (init : I → A → σ) (out : σ → I) (d : Option ρ) (b : σ → F σ ρ) : I → A → X I ρ := fun i a => match b (init i a) with
  | .rt r s => .ok r (out s)
  | .nx s => match d with
    | some r => .ok r (out s)
    | none => .bad
  | .exc C xs s => .exc C xs (out s)
  | _ => .bad
theorem tf_mk {σ I A ρ : Type} {c : Cx σ ρ} {ps : PSpec I A} {D0 D1 : List Nat} {m : MS} {b : σ → F σ ρ} {init : I → A → σ} {out : σ → I} {d : Option ρ} (kb : TS c D0 m b D1)
    (hin : ∀ i a, PIn c.tb ps 0 (init i a) i a) (hout : ∀ s, POut c.tb ps 0 s (out s)) (hd : ∀ r, d = some r → ∀ h, (c.er r).r .non h []) (h0 : D0 = List.range ps.len := by rfl) (hN : ps.len ≤ c.N := by decide) (hr : c.Dr = ps.ios 0 := by rfl) (hx : c.Dx = ps.ios 0 := by rfl) (hp : c.pin = ps.ios 0 := by rfl) (h1 : subB (ps.ios 0) D1 = true := by rfl) :
    TFun ps (runF c.N m) (yRun init out d b) c.er := fun i a ds h fps q nd => by
  have hl := ps.rep_len q
  have R0 : RS c.tb c.N D0 (init i a) (ds.map some ++ List.replicate (c.N - ds.length) none) h (ps.fpp 0 fps) := by
    obtain ⟨n1, n2⟩ := fpp_nd ps 0 q nd
    refine ⟨by simp; omega, fun j hj => ?_, fun j _ => n1 j, fun j _ l _ hjl => n2 j l hjl⟩
    rw [h0] at hj
    have := pin_ok (N := c.N - ds.length) ps 0 (pre := []) (hin i a) q rfl j (Nat.zero_le _) (by simpa using List.mem_range.mp hj)
    simpa using this
  have w0 : ∀ n, Wn D0 (ps.fpp 0 fps) n → n ∈ fps.flatten := fun n ⟨j, _, hn⟩ => fpp_mem ps 0 q j n hn
  have z := kb _ _ h _ R0
  have ge0 : ∀ j ∈ ps.ios 0, j < ds.length := by
    have gen : ∀ {I A : Type} (ps : PSpec I A) (k : Nat), ∀ j ∈ ps.ios k, j < k + ps.len := by
      intro I A ps
      induction ps with
      | nil => intro k j hj; cases hj
      | fr va r ih => intro k j hj; have := ih (k + 1) j hj; unfold PSpec.len; omega
      | io e r ih =>
        intro k j hj
        unfold PSpec.len
        rcases List.mem_cons.mp hj with rfl | hj
        · omega
        · have := ih (k + 1) j hj; omega
    intro j hj
    have := gen ps 0 j hj
    omega
  have fin : ∀ {s' : σ} {env' : MEnv} {h' : MH} {fp' : Nat → List Nat} {D : List Nat}, RS c.tb c.N D s' env' h' fp' → (∀ j ∈ ps.ios 0, j ∈ D) → Pin c.pin (ds.map some ++ List.replicate (c.N - ds.length) none) env' → ps.rep (out s') a ds h' ((ps.ios 0).map fp') := fun R hD pn => by
    refine pout_ok R ps 0 (hout _) q hD fun j hj => ?_
    rw [pn j (by rw [hp]; exact hj), List.getElem?_append_left (by simpa using ge0 j hj)]
    simp
  unfold yRun runF
  cases hb : b (init i a) with
  | rt r s' =>
    rw [hb] at z
    obtain ⟨v, env', h', f, fp', e, R', er, n1, n2, fr, gr, pn⟩ := z
    rw [hr] at R' n2 gr
    refine ⟨v, h', _, f, by rw [e], fin R' (fun _ h => h) pn, er, ?_, fr.weak w0, ?_⟩
    · rw [List.nodup_append]
      refine ⟨n1, map_nd R' _ (ios_nd ps 0) fun _ h => h, fun n hn m hm e => ?_⟩
      subst e
      exact n2 n hn (mem_map_fp.mp hm)
    · intro n hn
      rcases gr n (hn.imp mem_map_fp.mp id) with g | g
      · exact .inl (w0 n g)
      · exact .inr g
  | nx s' =>
    rw [hb] at z
    obtain ⟨env', h', fp', e, R', fr, gr, pn⟩ := z
    cases d with
    | none => trivial
    | some r =>
      refine ⟨.non, h', _, [], by rw [e], fin R' (subB_ok h1) pn, hd r rfl h', ?_, fr.weak w0, ?_⟩
      · rw [List.nil_append]
        exact map_nd R' _ (ios_nd ps 0) (subB_ok h1)
      · intro n hn
        rcases hn with hn | hn
        · rcases gr n (Wn.sub (subB_ok h1) (mem_map_fp.mp hn)) with g | g
          · exact .inl (w0 n g)
          · exact .inr g
        · cases hn
  | exc C xs s' =>
    rw [hb] at z
    obtain ⟨env', h', fp', e, R', fr, gr, pn⟩ := z
    rw [hx] at R' gr
    refine ⟨h', _, by rw [e], fin R' (fun _ h => h) pn, map_nd R' _ (ios_nd ps 0) fun _ h => h, fr.weak w0, ?_⟩
    intro n hn
    rcases gr n (mem_map_fp.mp hn) with g | g
    · exact .inl (w0 n g)
    · exact .inr g
  | bk s' => trivial
  | ct s' => trivial
  | bad => trivial

section
variable {σ : Type} {tb : Nat → Slot σ} {N : Nat} {D : List Nat}
def Mat (tb : Nat → Slot σ) : {I A : Type} → PSpec I A → List Nat → MEnv → A → List MV → Prop
  | _, _, .nil, ids, _, _, ds => ids = [] ∧ ds = []
  | _, _, .fr va r, ids, env, a, ds => ∃ ds', ds = va a.1 :: ds' ∧ Mat tb r ids env a.2 ds'
  | _, _, .io _ r, ids, env, a, ds => ∃ i ids' v ds', ids = i :: ids' ∧ ds = v :: ds' ∧ env[(tb i).ix]? = some (some v) ∧ Mat tb r ids' env a ds'
def TXP {I A : Type} (tb : Nat → Slot σ) (N : Nat) (D : List Nat) (ms : MA) (ps : PSpec I A) (ids : List Nat) (p : σ → X σ A) : Prop := ∀ s env h fp, RS tb N D s env h fp → match p s with
  | .ok a s' => ∃ ds h' fp', ms env h = .ok ds h' ∧ Mat tb ps ids env a ds ∧ RS tb N D s' env h' fp' ∧ Fr (Wn D fp) h h' ∧ Grow (Wn D fp) (Wn D fp') h
  | .exc C xs s' => ∃ h' fp', ms env h = .exc C xs h' ∧ RS tb N D s' env h' fp' ∧ Fr (Wn D fp) h h' ∧ Grow (Wn D fp) (Wn D fp') h
  | .bad => True
theorem txp_n : TXP tb N D maN .nil [] (xC ()) := by with_unfolding_all exact (fun s env h fp R => ⟨[], h, fp, rfl, ⟨rfl, rfl⟩, R, Fr.refl, Grow.refl⟩)
theorem txp_f {I A α : Type} {e : ME} {p : σ → X σ α} {va : α → MV} {ms : MA} {ps : PSpec I A} {ids : List Nat} {q : σ → X σ A} (k1 : TX tb N D e p (fz va)) (k2 : TXP tb N D ms ps ids q) : TXP tb N D (maC e ms) (.fr va ps) ids (xCs p q) := fun s env h fp R => by
  have z := k1 s env h fp R
  unfold xCs maC
  cases hp : p s with
  | ok a s' =>
    rw [hp] at z
    obtain ⟨v, h', f', fp', e1, R1, r, _, _, fr, gr⟩ := z
    have gr' : Grow (Wn D fp) (Wn D fp') h := gr.sub fun n q => .inl q
    simp only [X.bind]
    rw [e1]
    simp only [Out.bind]
    have z2 := k2 s' env h' fp' R1
    cases hq : q s' with
    | ok b s2 =>
      rw [hq] at z2
      obtain ⟨ds, h2, fp2, e2, M, R2, fr2, gr2⟩ := z2
      exact ⟨va a :: ds, h2, fp2, by rw [e2, r.1], ⟨ds, rfl, M⟩, R2, fr.trans gr' fr2, gr'.trans fr.len gr2⟩
    | exc C xs s2 =>
      rw [hq] at z2
      obtain ⟨h2, fp2, e2, R2, fr2, gr2⟩ := z2
      exact ⟨h2, fp2, by rw [e2], R2, fr.trans gr' fr2, gr'.trans fr.len gr2⟩
    | bad => trivial
  | exc C xs s' =>
    rw [hp] at z
    obtain ⟨h', fp', e1, R1, fr, gr⟩ := z
    exact ⟨h', fp', by rw [e1], R1, fr, gr⟩
  | bad => trivial
theorem txp_i {I A α : Type} {en : Enc α} {ms : MA} {ps : PSpec I A} {i ix : Nat} {ids : List Nat} {q : σ → X σ A} (k2 : TXP tb N D ms ps ids q) (hi : D.contains i = true := by rfl) (hx : (tb i).ix = ix := by rfl) : TXP tb N D (maC (mV ix) ms) (.io en ps) (i :: ids) q := fun s env h fp R => by
  obtain ⟨v, e1, e2⟩ := R.ok i (by simpa using hi)
  have e1' := e1
  rw [hx] at e1
  unfold maC
  rw [ev_V e1]
  simp only [Out.bind]
  have z2 := k2 s env h fp R
  cases hq : q s with
  | ok b s2 =>
    rw [hq] at z2
    obtain ⟨ds, h2, fp2, e2, M, R2, fr2, gr2⟩ := z2
    exact ⟨v :: ds, h2, fp2, by rw [e2], ⟨i, ids, v, ds, rfl, rfl, e1', M⟩, R2, fr2, gr2⟩
  | exc C xs s2 =>
    rw [hq] at z2
    obtain ⟨h2, fp2, e2, R2, fr2, gr2⟩ := z2
    exact ⟨h2, fp2, by rw [e2], R2, fr2, gr2⟩
  | bad => trivial
def IoOk (tb : Nat → Slot σ) : {I A : Type} → PSpec I A → List Nat → σ → I → Prop
  | _, _, .nil, _, _, _ => True
  | _, _, .fr _ r, ids, s, i => IoOk tb r ids s i
  | _, _, .io e r, ids, s, i => (tb (ids.headD 0)).rep s = e i.1 ∧ IoOk tb r ids.tail s i.2
theorem mat_rep {s : σ} {env : MEnv} {h : MH} {fp : Nat → List Nat} (R : RS tb N D s env h fp) : ∀ {I A : Type} (ps : PSpec I A) {ids : List Nat} {i : I} {a : A} {ds : List MV}, Mat tb ps ids env a ds → (∀ j ∈ ids, j ∈ D) → IoOk tb ps ids s i → ps.rep i a ds h (ids.map fp)
  | _, _, .nil, _, _, _, _, M, _, _ => by obtain ⟨e1, e2⟩ := M; subst e1; exact ⟨e2, rfl⟩
  | _, _, .fr _ r, _, _, _, _, M, hd, q => by obtain ⟨ds', e, M⟩ := M; exact ⟨ds', e, mat_rep R r M hd q⟩
  | _, _, .io _ r, _, _, _, _, M, hd, q => by
    obtain ⟨i, ids', v, ds', e1, e2, e3, M⟩ := M
    subst e1
    obtain ⟨w, w1, w2⟩ := R.ok i (hd i (List.mem_cons_self ..))
    rw [e3] at w1
    cases w1
    obtain ⟨q1, q2⟩ := q
    have q1 : (tb i).rep s = _ := q1
    rw [q1] at w2
    exact ⟨v, ds', fp i, _, e2, rfl, w2, mat_rep R r M (fun j hj => hd j (List.mem_cons_of_mem _ hj)) q2⟩
def newFp : List Nat → List (List Nat) → (Nat → List Nat) → Nat → List Nat
  | i :: ids, f :: fps, fp => fun j => if j = i then f else newFp ids fps fp j
  | _, _, fp => fp
theorem newFp_no : ∀ {ids : List Nat} {fps : List (List Nat)} {fp : Nat → List Nat} {j : Nat}, j ∉ ids → newFp ids fps fp j = fp j
  | [], _, _, _, _ => by unfold newFp; rfl
  | _ :: _, [], _, _, _ => by unfold newFp; rfl
  | i :: ids, f :: fps, fp, j, h => by
    unfold newFp
    rw [if_neg (fun z => h (by rw [z]; exact List.mem_cons_self ..))]
    exact newFp_no fun z => h (List.mem_cons_of_mem _ z)
theorem newFp_mem : ∀ {ids : List Nat} {fps : List (List Nat)} {fp : Nat → List Nat} {j : Nat}, ids.length = fps.length → j ∈ ids → ∀ n ∈ newFp ids fps fp j, n ∈ fps.flatten
  | i :: ids, f :: fps, fp, j, hl, hj, n, hn => by
    unfold newFp at hn
    rw [List.flatten_cons]
    split at hn
    · exact List.mem_append_left _ hn
    · rename_i hne
      refine List.mem_append_right _ (newFp_mem (by simpa using hl) ?_ n hn)
      rcases List.mem_cons.mp hj with h | h
      · exact absurd h hne
      · exact h
  | [], _, _, _, _, hj, _, _ => nomatch hj
  | _ :: _, [], _, _, hl, _, _, _ => nomatch hl
theorem newFp_nd : ∀ {ids : List Nat} {fps : List (List Nat)} {fp : Nat → List Nat}, ids.length = fps.length → fps.flatten.Nodup → (∀ j ∈ ids, (newFp ids fps fp j).Nodup) ∧ ∀ j ∈ ids, ∀ l ∈ ids, j ≠ l → ∀ n ∈ newFp ids fps fp j, n ∉ newFp ids fps fp l
  | [], [], _, _, _ => ⟨fun _ h => (nomatch h), fun _ h => (nomatch h)⟩
  | i :: ids, f :: fps, fp, hl, nd => by
    rw [List.flatten_cons, List.nodup_append] at nd
    obtain ⟨i1, i2⟩ := newFp_nd (fp := fp) (by simpa using hl) nd.2.1
    have hl' : ids.length = fps.length := by simpa using hl
    refine ⟨fun j hj => ?_, fun j hj l hl2 hjl n hn hm => ?_⟩
    · unfold newFp; split
      · exact nd.1
      · rename_i hne
        exact i1 j ((List.mem_cons.mp hj).resolve_left hne)
    · unfold newFp at hn hm
      split at hn
      · rename_i ej
        have hli : l ≠ i := fun z => hjl (ej.trans z.symm)
        rw [if_neg hli] at hm
        exact nd.2.2 n hn n (newFp_mem hl' ((List.mem_cons.mp hl2).resolve_left hli) n hm) rfl
      · rename_i hne
        have hj' := (List.mem_cons.mp hj).resolve_left hne
        split at hm
        · exact nd.2.2 n hm n (newFp_mem hl' hj' n hn) rfl
        · rename_i hli
          exact i2 j hj' l ((List.mem_cons.mp hl2).resolve_left hli) hjl n hn hm
  | [], _ :: _, _, hl, _ => nomatch hl
  | _ :: _, [], _, hl, _ => nomatch hl
theorem rep_back {env : MEnv} {h : MH} {s : σ} : ∀ {I A : Type} (ps : PSpec I A) {ids : List Nat} {i : I} {a : A} {ds : List MV} {fps : List (List Nat)} {fp : Nat → List Nat}, Mat tb ps ids env a ds → ps.rep i a ds h fps → IoOk tb ps ids s i → ids.Nodup → ids.length = fps.length ∧ ∀ j ∈ ids, ∃ v, env[(tb j).ix]? = some (some v) ∧ ((tb j).rep s).r v h (newFp ids fps fp j)
  | _, _, .nil, _, _, _, _, _, _, M, q, _, _ => by obtain ⟨e1, _⟩ := M; subst e1; rw [q.2]; exact ⟨rfl, fun _ h => nomatch h⟩
  | _, _, .fr _ r, _, _, _, _, _, _, M, q, io, nd => by
    obtain ⟨ds', e, M⟩ := M
    obtain ⟨ds2, e2, q⟩ := q
    rw [e] at e2; cases e2
    exact rep_back r M q io nd
  | _, _, .io _ r, _, _, _, _, _, fp, M, q, io, nd => by
    obtain ⟨i, ids', v, ds', e1, e2, e3, M⟩ := M
    obtain ⟨v2, ds2, f, fps', e4, e5, q1, q2⟩ := q
    obtain ⟨io1, io2⟩ := io
    subst e1; subst e5
    rw [e2] at e4; cases e4
    obtain ⟨n1, n2⟩ := List.nodup_cons.mp nd
    obtain ⟨l, k⟩ := rep_back (fp := fp) r M q2 io2 n2
    refine ⟨by simp [l], fun j hj => ?_⟩
    unfold newFp
    by_cases hji : j = i
    · subst hji
      rw [if_pos rfl]
      have io1 : (tb j).rep s = _ := io1
      exact ⟨v, e3, by rw [io1]; exact q1⟩
    · rw [if_neg hji]
      exact k j ((List.mem_cons.mp hj).resolve_left hji)
@[irreducible] def xCall {I A ρ : Type} (fn : I → A → X I ρ) (get : σ → I) (put : σ → I → σ) (p : σ → X σ A) : σ → X σ ρ := fun s => (p s).bind fun a s => match fn (get s) a with
  | .ok r i => .ok r (put s i)
  | .exc C xs i => .exc C xs (put s i)
  | .bad => .bad
theorem tx_callG {I A ρ : Type} {ps : PSpec I A} {m : MF} {fn : I → A → X I ρ} {er : Enc ρ} {ids : List Nat} {me : ME} {ms : MA} {p : σ → X σ A} {get : σ → I} {put : σ → I → σ} (hm : ∀ env h, (∀ ds h', ms env h = .ok ds h' → ds.length = ps.len → (∀ a, Mat tb ps ids env a ds → me env h = m ds h')) ∧ ∀ C xs h', ms env h = .exc C xs h' → me env h = .exc C xs h') (kf : TFun ps m fn er) (kp : TXP tb N D ms ps ids p)
    (hg : ∀ s, IoOk tb ps ids s (get s)) (hp : ∀ s i, IoOk tb ps ids (put s i) i) (ho : ∀ j ∈ D, j ∉ ids → ∀ s i, (tb j).rep (put s i) = (tb j).rep s) (hs : ∀ j ∈ ids, j ∈ D) (hn : ids.Nodup) : TX tb N D me (xCall fn get put p) er := fun s env h fp R => by
  have z := kp s env h fp R
  unfold xCall
  cases hps : p s with
  | ok a s' =>
    rw [hps] at z
    obtain ⟨ds, h', fp', e1, M, R1, fr, gr⟩ := z
    simp only [X.bind]
    have rp := mat_rep R1 ps M hs (hg s')
    have em := (hm env h).1 ds h' e1 (ps.rep_len rp) a M
    rw [em]
    have wid : ∀ n, n ∈ (ids.map fp').flatten → Wn D fp' n := fun n hn => Wn.sub hs (mem_map_fp.mp hn)
    have z2 := kf (get s') a ds h' (ids.map fp') rp (map_nd R1 ids hn hs)
    have mk : ∀ {i' : I} {h2 : MH} {fps' : List (List Nat)}, ps.rep i' a ds h2 fps' → fps'.flatten.Nodup → Fr (· ∈ (ids.map fp').flatten) h' h2 → Grow (· ∈ (ids.map fp').flatten) (· ∈ fps'.flatten) h' → RS tb N D (put s' i') env h2 (newFp ids fps' fp') ∧ (∀ n, Wn D (newFp ids fps' fp') n → (Wn D fp' n ∧ ∀ j ∈ ids, n ∉ fp' j) ∨ n ∈ fps'.flatten) := fun {i' h2 fps'} rp2 nd2 fr2 gr2 => by
      obtain ⟨ll, back⟩ := rep_back (fp := fp') ps M rp2 (hp s' i') hn
      obtain ⟨n1, n2⟩ := newFp_nd (fp := fp') ll nd2
      have old : ∀ j ∈ D, j ∉ ids → ∀ n ∈ fp' j, n ∉ (ids.map fp').flatten := fun j hj hji n hn hm => by
        obtain ⟨l, hl, hm⟩ := mem_map_fp.mp hm
        exact R1.dj j hj l (hs l hl) (fun z => hji (z ▸ hl)) n hn hm
      refine ⟨⟨R1.len, fun j hj => ?_, fun j hj => ?_, fun j hj l hl hjl n hn hm => ?_⟩, fun n ⟨j, hj, hn⟩ => ?_⟩
      · by_cases hji : j ∈ ids
        · exact back j hji
        · obtain ⟨v, e1, e2⟩ := R1.ok j hj
          refine ⟨v, e1, ?_⟩
          rw [newFp_no hji, ho j hj hji]
          exact ((tb j).rep s').frame e2 fun n hn => fr2.keep n (((tb j).rep s').dom e2 n hn) (old j hj hji n hn)
      · by_cases hji : j ∈ ids
        · exact n1 j hji
        · rw [newFp_no hji]; exact R1.nd j hj
      · by_cases hji : j ∈ ids
        · by_cases hli : l ∈ ids
          · exact n2 j hji l hli hjl n hn hm
          · rw [newFp_no hli] at hm
            rcases gr2 n (newFp_mem ll hji n hn) with q | q
            · exact old l hl hli n hm q
            · have := R1.dom n ⟨l, hl, hm⟩; omega
        · rw [newFp_no hji] at hn
          by_cases hli : l ∈ ids
          · rcases gr2 n (newFp_mem ll hli n hm) with q | q
            · exact old j hj hji n hn q
            · have := R1.dom n ⟨j, hj, hn⟩; omega
          · rw [newFp_no hli] at hm
            exact R1.dj j hj l hl hjl n hn hm
      · by_cases hji : j ∈ ids
        · exact .inr (newFp_mem ll hji n hn)
        · rw [newFp_no hji] at hn
          exact .inl ⟨⟨j, hj, hn⟩, fun l hl hm => R1.dj j hj l (hs l hl) (fun z => hji (z ▸ hl)) n hn hm⟩
    cases hf : fn (get s') a with
    | ok r i' =>
      rw [hf] at z2
      obtain ⟨v, h2, fps', f, e2, rp2, er2, nd2, fr2, gr2⟩ := z2
      rw [List.nodup_append] at nd2
      obtain ⟨R2, w2⟩ := mk rp2 nd2.2.1 fr2 (gr2.sub fun n q => .inl q)
      refine ⟨v, h2, f, _, e2, R2, er2, nd2.1, fun n hn hw => ?_, fr.trans gr (fr2.weak wid), fun n hn => ?_⟩
      · rcases w2 n hw with ⟨⟨j, hj, q⟩, q2⟩ | q
        · rcases gr2 n (.inr hn) with g | g
          · obtain ⟨l, hl, g⟩ := mem_map_fp.mp g
            exact q2 l hl g
          · have := R1.dom n ⟨j, hj, q⟩; omega
        · exact nd2.2.2 n hn n q rfl
      · have : Wn D fp' n ∨ h'.length ≤ n := by
          rcases hn with hn | hn
          · rcases w2 n hn with q | q
            · exact .inl q.1
            · rcases gr2 n (.inl q) with g | g
              · exact .inl (wid n g)
              · exact .inr g
          · rcases gr2 n (.inr hn) with g | g
            · exact .inl (wid n g)
            · exact .inr g
        rcases this with q | q
        · exact gr n q
        · exact .inr (Nat.le_trans fr.len q)
    | exc C xs i' =>
      rw [hf] at z2
      obtain ⟨h2, fps', e2, rp2, nd2, fr2, gr2⟩ := z2
      obtain ⟨R2, w2⟩ := mk rp2 nd2 fr2 gr2
      refine ⟨h2, _, e2, R2, fr.trans gr (fr2.weak wid), fun n hn => ?_⟩
      have : Wn D fp' n ∨ h'.length ≤ n := by
        rcases w2 n hn with q | q
        · exact .inl q.1
        · rcases gr2 n q with g | g
          · exact .inl (wid n g)
          · exact .inr g
      rcases this with q | q
      · exact gr n q
      · exact .inr (Nat.le_trans fr.len q)
    | bad => trivial
  | exc C xs s' =>
    rw [hps] at z
    obtain ⟨h', fp', e1, R1, fr, gr⟩ := z
    exact ⟨h', fp', (hm env h).2 C xs h' e1, R1, fr, gr⟩
  | bad => trivial
theorem mCall_hm {I A : Type} {ps : PSpec I A} {ids : List Nat} {m : MF} {ms : MA} {n : Nat} (hn : ps.len = n) : ∀ env h, (∀ ds h', ms env h = .ok ds h' → ds.length = ps.len → (∀ a, Mat tb ps ids env a ds → mCall n m ms env h = m ds h')) ∧ ∀ C xs h', ms env h = .exc C xs h' → mCall n m ms env h = .exc C xs h' := fun env h =>
  ⟨fun ds h' e l a _ => by unfold mCall; rw [e]; show (if ds.length = n then _ else _) = _; rw [if_pos (by omega)], fun C xs h' e => by unfold mCall; rw [e]⟩
theorem tx_call {A ρ : Type} {ps : PSpec Unit A} {m : MF} {fn : Unit → A → X Unit ρ} {er : Enc ρ} {ms : MA} {p : σ → X σ A} {n : Nat} (kf : TFun ps m fn er) (kp : TXP tb N D ms ps [] p) (hg : ∀ s : σ, IoOk tb ps [] s () := by intro _; trivial) (hn : ps.len = n := by rfl) : TX tb N D (mCall n m ms) (xCall fn (fun _ => ()) (fun s _ => s) p) er :=
  tx_callG (mCall_hm hn) kf kp hg (fun s _ => hg s) (fun _ _ _ _ _ => rfl) (fun _ h => nomatch h) List.nodup_nil
theorem tx_call1 {A α ρ : Type} {ps : PSpec (α × Unit) A} {m : MF} {fn : α × Unit → A → X (α × Unit) ρ} {er : Enc ρ} {ms : MA} {p : σ → X σ A} {i n : Nat} {get : σ → α} {put : σ → α → σ} (kf : TFun ps m fn er) (kp : TXP tb N D ms ps [i] p)
    (hg : ∀ s : σ, IoOk tb ps [i] s (get s, ())) (hp : ∀ (s : σ) a, IoOk tb ps [i] (put s a.1) a) (ho : ∀ j ∈ D, j ∉ [i] → ∀ s (a : α × Unit), (tb j).rep (put s a.1) = (tb j).rep s) (hi : D.contains i = true := by rfl) (hn : ps.len = n := by rfl) : TX tb N D (mCall n m ms) (xCall fn (fun s => (get s, ())) (fun s a => put s a.1) p) er :=
  tx_callG (mCall_hm hn) kf kp hg hp ho (fun j hj => by
    rw [List.mem_singleton.mp hj]; simpa using hi) (by simp)
end
end Ty
set_option Elab.async false
set_option linter.all false
set_option maxRecDepth 100000
namespace Ty
open PySem PySem.Spec PyProof.Rows L2 Mn

section
variable {σ ρ : Type} {tb : Nat → Slot σ} {N : Nat} {c : Cx σ ρ} {D D' D0 D1 D2 : List Nat} {α β γ : Type} {e e1 e2 : ME} {m : MS} {pa : σ → F σ ρ} {p : σ → X σ α} {q : σ → X σ β} {va : α → MV} {vb : β → MV} {vc : γ → MV} {ea : Enc α} {st : σ → α → σ} {i ix : Nat} {ms : MA}
theorem Keep.sub {st : σ → α → σ} (k : Keep tb st ix D) (h : subB D' D = true := by rfl) : Keep tb st ix D' := by
  have := subB_ok h
  clear h
  induction D' with
  | nil => trivial
  | cons j r ih => exact ⟨k.at j (this j (List.mem_cons_self ..)), ih fun i hi => this i (List.mem_cons_of_mem _ hi)⟩
def butB (i : Nat) (D D0 : List Nat) : Bool := D.all fun j => j == i || D0.contains j
theorem butB_ok {i : Nat} {D D0 : List Nat} (k : butB i D D0 = true) : ∀ j ∈ D, j ≠ i → j ∈ D0 := fun j hj hn => by
  have := (List.all_eq_true.mp k) j hj
  simp only [Bool.or_eq_true, beq_iff_eq] at this
  rcases this with h | h
  · exact absurd h hn
  · simpa using h
theorem RS.write {s : σ} {env : MEnv} {h : MH} {fp : Nat → List Nat} {put : σ → List α → σ} {ys : List α} {n : Nat} (R : RS tb N D s env h fp) (hi : i ∈ D) (hn : env[(tb i).ix]? = some (some (.ref n))) (hf : fp i = [n]) (hl : n < h.length) (hp : (tb i).rep (put s ys) = own1 va ys) (k : Keep tb put ix D0) (hb : butB i D D0 = true) : RS tb N D (put s ys) env (h.set n (.lst (ys.map va))) fp :=
  ⟨R.len, fun j hj => by
    by_cases hji : j = i
    · subst hji
      exact ⟨.ref n, hn, by rw [hp]; exact ⟨n, rfl, List.getElem?_set_self hl, hf⟩⟩
    · obtain ⟨v, e1, e2⟩ := R.ok j hj
      refine ⟨v, e1, ?_⟩
      rw [(k.at j (butB_ok hb j hj hji)).2]
      refine ((tb j).rep s).frame e2 fun m hm => ?_
      have : n ≠ m := fun z => by
        subst z
        exact R.dj j hj i hi hji n hm (by rw [hf]; exact List.mem_singleton.mpr rfl)
      rw [List.getElem?_set_ne this], R.nd, R.dj⟩
def MOp (f : MV → List MV → MH → Out MV) (g : List α → β → Option (γ × List α)) (va : α → MV) (vs : β → List MV) (vc : γ → MV) : Prop := ∀ xs b n h ys c, h[n]? = some (.lst (xs.map va)) → g xs b = some (c, ys) → f (.ref n) (vs b) h = .ok (vc c) (h.set n (.lst (ys.map va)))
@[irreducible] def xMeth (get : σ → List α) (put : σ → List α → σ) (g : List α → β → Option (γ × List α)) (q : σ → X σ β) : σ → X σ γ := fun s => (q s).bind fun b s => match g (get s) b with
  | some (c, ys) => .ok c (put s ys)
  | none => .bad
theorem tx_meth {f : MV → List MV → MH → Out MV} {g : List α → β → Option (γ × List α)} {get : σ → List α} {put : σ → List α → σ} {vs : β → List MV} (i : Nat) (o : MOp f g va vs vc) (kq : TXA tb N D ms q vs) (hg : ∀ s, (tb i).rep s = own1 va (get s)) (hp : ∀ s ys, (tb i).rep (put s ys) = own1 va ys) (k : Keep tb put ix D0) (hb : butB i D D0 = true := by rfl) (hi : D.contains i = true := by rfl) (hx : (tb i).ix = ix := by rfl) :
    TX tb N D (mM "list" f (mV ix) ms) (xMeth get put g q) (fz vc) := fun s env h fp R => by
  have hi : i ∈ D := by simpa using hi
  obtain ⟨v, w1, w2⟩ := R.ok i hi
  rw [hg] at w2
  obtain ⟨n, rfl, w3, w4⟩ := rd_own w2
  have w1' := w1
  rw [hx] at w1
  unfold xMeth mM
  rw [ev_V w1]
  simp only [Out.bind]
  rw [if_pos (tyc_R w3)]
  have z := kq s env h fp R
  cases hq : q s with
  | ok b s' =>
    rw [hq] at z
    obtain ⟨h', fp', e1, R1, fr, gr⟩ := z
    simp only [X.bind]
    cases hgg : g (get s') b with
    | none => trivial
    | some r =>
      obtain ⟨y, ys⟩ := r
      obtain ⟨v2, y1, y2⟩ := R1.ok i hi
      rw [w1'] at y1
      cases y1
      rw [hg] at y2
      obtain ⟨n2, e3, y3, y4⟩ := rd_own y2
      cases e3
      have hl := (List.getElem?_eq_some_iff.mp y3).1
      refine ⟨vc y, h'.set n (.lst (ys.map va)), [], fp', by rw [e1]; exact o _ _ _ _ _ _ y3 hgg, R1.write hi w1' y4 hl (hp _ _) k hb, ⟨rfl, rfl⟩, List.nodup_nil, (fun n hn => nomatch hn), ⟨by rw [List.length_set]; exact fr.len, fun m hm hA => ?_⟩, gr.sub fun n q => q.elim id fun z => nomatch z⟩
      have : n ≠ m := fun z => by
        subst z
        exact hA ⟨i, hi, by rw [w4]; exact List.mem_singleton.mpr rfl⟩
      rw [List.getElem?_set_ne this]
      exact fr.keep m hm hA
  | exc C xs s' =>
    rw [hq] at z
    obtain ⟨h', fp', e1, R1, fr, gr⟩ := z
    exact ⟨h', fp', by rw [e1], R1, fr, gr⟩
  | bad => trivial
@[reducible] def gApp (xs : List α) (b : α × Unit) : Option (Unit × List α) := if xs.length < sizeLine then some ((), xs ++ [b.1]) else none
@[reducible] def gPop (xs : List α) (_ : Unit) : Option (α × List α) := match xs.getLast? with
  | some y => some (y, xs.dropLast)
  | none => none
@[reducible] def gRev (xs : List α) (_ : Unit) : Option (Unit × List α) := some ((), xs.reverse)
theorem mo_app : MOp (γ := Unit) fAppend gApp va (fun b : α × Unit => va b.1 :: []) nV := fun xs b n h ys c e g => by
  unfold gApp at g
  by_cases q : xs.length < sizeLine
  · rw [if_pos q] at g
    cases g
    rw [f_app e (by simpa using q)]
    simp
  · rw [if_neg q] at g; cases g
theorem mo_pop : MOp fPop gPop va (fun _ : Unit => []) va := fun xs b n h ys c e g => by
  unfold gPop at g
  cases hx : xs.getLast? with
  | none => rw [hx] at g; cases g
  | some y =>
    rw [hx] at g
    cases g
    obtain ⟨zs, rfl⟩ := List.getLast?_eq_some_iff.mp hx
    rw [List.map_append] at e
    rw [f_pop e, List.dropLast_concat]
theorem mo_rev : MOp (γ := Unit) fReverse gRev va (fun _ : Unit => []) nV := fun xs b n h ys c e g => by
  cases g
  rw [f_rev e, List.map_reverse]
theorem mM0_eq {f : MV → List MV → MH → Out MV} {T : String} : mM0 T f e = mM T f e maN := by
  funext env h
  unfold mM0 mM maN
  cases e env h <;> rfl
@[reducible] def gSetI (xs : List α) (k : Int) (b : α) : Option (List α) := match ixN xs.length k with
  | some j => some (xs.set j b)
  | none => none
@[irreducible] def ySetI (get : σ → List α) (put : σ → List α → σ) (p : σ → X σ α) (q : σ → X σ Int) : σ → F σ ρ := fun s => (p s).toF fun b s => (q s).toF fun k s => match gSetI (get s) k b with
  | some ys => .nx (put s ys)
  | none => .bad
theorem ts_setI {get : σ → List α} {put : σ → List α → σ} {q : σ → X σ Int} (i : Nat) (kp : TX c.tb c.N D e p (fz va)) (kq : TP c.tb c.N D e2 q (fz .int)) (hg : ∀ s, (c.tb i).rep s = own1 va (get s)) (hp : ∀ s ys, (c.tb i).rep (put s ys) = own1 va ys) (k : Keep c.tb put ix D0) (hb : butB i D D0 = true := by rfl) (hi : D.contains i = true := by rfl) (hx : (c.tb i).ix = ix := by rfl) (hxx : subB c.Dx D = true := by rfl) :
    TS c D (sAsg e (gSb (mV ix) e2 fSetL)) (ySetI get put p q) D := by with_unfolding_all exact (ts_ex (f := fun v h env => (gSb (mV ix) e2 fSetL v env h).andS env fun env' h => .ok .nx env' h) (fun env h => rfl) kp hxx fun a s v env h0 h fp0 fp fv R r nd dj fr gr => by
  have hi : i ∈ D := by simpa using hi
  have z := kq s env h fp R
  obtain ⟨w, w1, w2⟩ := R.ok i hi
  rw [hg] at w2
  obtain ⟨n, rfl, w3, w4⟩ := rd_own w2
  have w1' := w1
  rw [hx] at w1
  unfold gSb
  rw [ev_V w1]
  simp only [Out.bind]
  cases hq : q s with
  | ok b s' =>
    rw [hq] at z
    obtain ⟨rfl, u, h', f', e1, mo, r2⟩ := z
    rw [e1, r2.1, r.1]
    simp only [X.toF]
    have R1 := R.mono mo
    have y3 : h'[n]? = some (.lst ((get s').map va)) := by rw [mo.keep n (List.getElem?_eq_some_iff.mp w3).1]; exact w3
    cases hs : gSetI (get s') b a with
    | none => trivial
    | some ys =>
      have ef : fSetL (.ref n) (.int b) (va a) h' = .ok .non (h'.set n (.lst (ys.map va))) := by
        unfold fSetL; simp only
        rw [y3]; simp only
        rw [List.length_map]
        unfold gSetI at hs
        cases hj : ixN (get s').length b with
        | none => rw [hj] at hs; cases hs
        | some j =>
          rw [hj] at hs
          cases hs
          simp [List.map_set]
      rw [ef]
      have hl := (List.getElem?_eq_some_iff.mp y3).1
      refine ⟨env, _, fp, rfl, R1.write hi w1' w4 hl (hp _ _) k hb, ⟨by rw [List.length_set]; exact Nat.le_trans fr.len mo.len, fun m hm hA => ?_⟩, gr.sub fun n q => .inl q, Pin.refl⟩
      have : n ≠ m := fun z => by
        subst z
        rcases gr n (.inl ⟨i, hi, by rw [w4]; exact List.mem_singleton.mpr rfl⟩) with g | g
        · exact hA g
        · omega
      rw [List.getElem?_set_ne this, mo.keep m (Nat.lt_of_lt_of_le hm fr.len)]
      exact fr.keep m hm hA
  | exc C xs s' =>
    rw [hq] at z
    obtain ⟨rfl, h', e1, mo⟩ := z
    rw [e1]
    exact ⟨env, h', fp, rfl, (R.mono mo).sub (subB_ok hxx), ⟨Nat.le_trans fr.len mo.len, fun m hm hA => by rw [mo.keep m (Nat.lt_of_lt_of_le hm fr.len)]; exact fr.keep m hm hA⟩, gr.sub fun n q => .inl (Wn.sub (subB_ok hxx) q), Pin.refl⟩
  | bad => trivial)
@[irreducible] def yAugI {β : Type} (get : σ → List α) (put : σ → List α → σ) (g : α → β → Option α) (q : σ → X σ Int) (p : σ → X σ β) : σ → F σ ρ := fun s => (q s).toF fun k s => match gIx (get s) k with
  | some x => (p s).toF fun b s => match g x b with
    | some y => match gSetI (get s) k y with
      | some ys => .nx (put s ys)
      | none => .bad
    | none => .bad
  | none => .bad
def Fix (k : Nat) (va : α → MV) : Prop := ∀ a h, frzV k (va a) h = some (va a, h)
theorem fix_int {k : Nat} : Fix (k + 1) MV.int := fun _ _ => rfl
theorem fix_l {k : Nat} : Fix (k + 1) (lV va) := fun _ _ => rfl
theorem fix_L {k : Nat} (f : Fix k va) : ∀ (xs : List α) h, frzL (frzV k) (xs.map va) h = some (xs.map va, h)
  | [], _ => rfl
  | x :: xs, h => by
    rw [List.map_cons]
    unfold frzL
    rw [f x h]
    simp only
    rw [fix_L f xs h]
theorem fix_p2 {k : Nat} (f : Fix k va) (g : Fix k vb) : Fix (k + 1) (p2 va vb) := fun x h => by
  show frzV (k + 1) (.tup [va x.1, vb x.2]) h = _
  unfold frzV frzL frzL frzL
  have e1 := f x.1 h
  have e2 := g x.2 h
  simp only [e1, e2]
def FrzP (P Q : Pr) : Prop := ∀ v h f, P.r v h f → f.Nodup → ∃ v' h', frzV 8 v h = some (v', h') ∧ Q.r v' h' [] ∧ h'.length = h.length ∧ ∀ n, n ∉ f → h'[n]? = h[n]?
theorem frz_1 (k : Fix 7 va) {xs : List α} : FrzP (own1 va xs) (fz (lV va) xs) := fun v h f r nd => by
  obtain ⟨n, rfl, e, rfl⟩ := rd_own r
  refine ⟨.fl (xs.map va), h.set n .dead, ?_, ⟨rfl, rfl⟩, List.length_set .., fun m hm => ?_⟩
  · unfold frzV
    rw [e]
    simp only
    rw [fix_L k]
    simp only
    rw [e]
  · have : n ≠ m := fun z => hm (by rw [z]; exact List.mem_singleton.mpr rfl)
    rw [List.getElem?_set_ne this]
def sameB (tb : Nat → Slot σ) (ix : Nat) : List Nat → Prop
  | [] => True
  | j :: r => (tb j).ix ≠ ix ∧ sameB tb ix r
theorem sameB_at {ix : Nat} : ∀ {D : List Nat}, sameB tb ix D → ∀ j ∈ D, (tb j).ix ≠ ix
  | _ :: _, k, j, hj => by
    rcases List.mem_cons.mp hj with rfl | hj
    · exact k.1
    · exact sameB_at k.2 j hj
theorem Keep.same {st : σ → α → σ} : ∀ {D : List Nat}, Keep tb st ix D → sameB tb ix D
  | [], _ => trivial
  | _ :: _, k => ⟨k.1.1, Keep.same k.2⟩
theorem ts_frz (i i' : Nat) (kb : TS c (i' :: D0) m pa D1) (hf : ∀ s, FrzP ((c.tb i).rep s) ((c.tb i').rep s)) (hx : (c.tb i).ix = ix) (hx' : (c.tb i').ix = ix) (hs : sameB c.tb ix D0) (h0 : subB D0 D = true := by rfl) (hi : D.contains i = true := by rfl) (hN : ix < c.N := by decide) (hp : c.pin.contains ix = false := by rfl) :
    TS c D (sFrz ix m) pa D1 := fun s env h fp R => by
  have hi : i ∈ D := by simpa using hi
  obtain ⟨v, w1, w2⟩ := R.ok i hi
  rw [hx] at w1
  obtain ⟨v', h', e1, q1, l1, o1⟩ := hf s v h (fp i) w2 (R.nd i hi)
  have hsub := subB_ok h0
  have ni : ∀ j ∈ D0, j ≠ i := fun j hj z => sameB_at hs j hj (by rw [z]; exact hx)
  have ni' : ∀ j ∈ D0, j ≠ i' := fun j hj z => sameB_at hs j hj (by rw [z]; exact hx')
  have R1 : RS c.tb c.N (i' :: D0) s (env.set ix (some v')) h' (fun j => if j = i' then [] else fp j) := by
    refine ⟨by rw [List.length_set]; exact R.len, fun j hj => ?_, fun j hj => ?_, fun j hj l hl hjl n hn hm => ?_⟩
    · rcases List.mem_cons.mp hj with rfl | hj
      · exact ⟨v', by rw [hx', List.getElem?_set_self (by rw [R.len]; exact hN)], by rw [if_pos rfl]; exact q1⟩
      · obtain ⟨w, a1, a2⟩ := R.ok j (hsub j hj)
        refine ⟨w, by rw [List.getElem?_set_ne (Ne.symm (sameB_at hs j hj))]; exact a1, ?_⟩
        rw [if_neg (ni' j hj)]
        exact ((c.tb j).rep s).frame a2 fun n hn => o1 n (R.dj j (hsub j hj) i hi (ni j hj) n hn)
    · show (if _ = _ then [] else _).Nodup
      split
      · exact List.nodup_nil
      · rename_i hne
        exact R.nd j (hsub j ((List.mem_cons.mp hj).resolve_left hne))
    · have hn : n ∈ if j = i' then [] else fp j := hn
      have hm : n ∈ if l = i' then [] else fp l := hm
      split at hn
      · cases hn
      · rename_i h1
        split at hm
        · cases hm
        · rename_i h2
          exact R.dj j (hsub j ((List.mem_cons.mp hj).resolve_left h1)) l (hsub l ((List.mem_cons.mp hl).resolve_left h2)) hjl n hn hm
  have hgr : Grow (Wn D fp) (Wn (i' :: D0) (fun j => if j = i' then [] else fp j)) h := fun n ⟨j, hj, hn⟩ => by
    have hn : n ∈ if j = i' then [] else fp j := hn
    split at hn
    · cases hn
    · rename_i h1
      exact .inl ⟨j, hsub j ((List.mem_cons.mp hj).resolve_left h1), hn⟩
  have hxx : sFrz ix m env h = m (env.set ix (some v')) h' := by
    unfold sFrz
    rw [w1]
    simp only
    rw [e1]
  exact TS.after (m := m) (x := sFrz ix m env h) ⟨by rw [l1]; exact Nat.le_refl _, fun n hn hA => o1 n fun z => hA ⟨i, hi, z⟩⟩ hgr (pin_set hp) hxx R1 kb
theorem ts_retO (i : Nat) {get : σ → ρ} (hr : ∀ s, (c.tb i).rep s = c.er (get s)) (hi : D.contains i = true := by rfl) (hx : (c.tb i).ix = ix := by rfl) (hn : c.Dr.contains i = false := by rfl) (hd : subB c.Dr D = true := by rfl) : TS c D (sRet (mV ix)) (yRet (xV get)) D' := by with_unfolding_all exact (fun s env h fp R => by
  have hi : i ∈ D := by simpa using hi
  have hn : i ∉ c.Dr := by simpa using hn
  obtain ⟨v, w1, w2⟩ := R.ok i hi
  rw [hx] at w1
  rw [hr] at w2
  refine ⟨v, env, h, fp i, fp, ?_, R.sub (subB_ok hd), w2, R.nd i hi, fun n hn1 ⟨j, hj, hm⟩ => ?_, Fr.refl, fun n q => ?_, Pin.refl⟩
  · unfold sRet; rw [ev_V w1]
  · exact R.dj i hi j (subB_ok hd j hj) (fun z => hn (z ▸ hj)) n hn1 hm
  · rcases q with q | q
    · exact .inl (Wn.sub (subB_ok hd) q)
    · exact .inl ⟨i, hi, q⟩)
end
end Ty
set_option Elab.async false
set_option linter.all false
set_option maxRecDepth 100000
namespace Ty
open PySem PySem.Spec PyProof.Rows L2 Mn

section
variable {σ ρ : Type} {tb : Nat → Slot σ} {N : Nat} {c : Cx σ ρ} {D D' D0 D1 D2 : List Nat} {α β γ : Type} {e e1 e2 : ME} {m : MS} {pa : σ → F σ ρ} {p : σ → X σ α} {q : σ → X σ β} {va : α → MV} {vb : β → MV} {vc : γ → MV} {ea : Enc α} {st : σ → α → σ} {i ix : Nat} {ms : MA}
@[irreducible] def xUn (p : σ → X σ (Option α)) : σ → X σ α := fun s => (p s).bind fun a s => match a with
  | some a => .ok a s
  | none => .bad
theorem tp_un {p : σ → X σ (Option α)} (k : TP tb N D e p (fz (oV va))) : TP tb N D e (xUn p) (fz va) := fun s env h fp R => by
  have z := k s env h fp R
  unfold xUn
  cases hp : p s with
  | ok a s' =>
    rw [hp] at z
    obtain ⟨rfl, v, h', f', e1, m, r⟩ := z
    cases a with
    | none => trivial
    | some a => exact ⟨rfl, v, h', f', e1, m, r⟩
  | exc C xs s' => rw [hp] at z; exact z
  | bad => trivial
theorem tx_un {p : σ → X σ (Option α)} (k : TX tb N D e p (fz (oV va))) : TX tb N D e (xUn p) (fz va) := fun s env h fp R => by
  have z := k s env h fp R
  unfold xUn
  cases hp : p s with
  | ok a s' =>
    rw [hp] at z
    cases a with
    | none => trivial
    | some a => exact z
  | exc C xs s' => rw [hp] at z; exact z
  | bad => trivial
theorem tx_some (k : TX tb N D e p (fz va)) : TX tb N D e (x1 some p) (fz (oV va)) := fun s env h fp R => by
  have z := k s env h fp R
  unfold x1
  cases hp : p s with
  | ok a s' => rw [hp] at z; exact z
  | exc C xs s' => rw [hp] at z; exact z
  | bad => trivial
theorem tx_as {g : α → β} (hv : ∀ a, va a = vb (g a)) (k : TX tb N D e p (fz va)) : TX tb N D e (x1 g p) (fz vb) := fun s env h fp R => by
  have z := k s env h fp R
  unfold x1
  cases hp : p s with
  | ok a s' =>
    rw [hp] at z
    obtain ⟨v, h', f, fp', e1, R1, r, q⟩ := z
    exact ⟨v, h', f, fp', e1, R1, ⟨r.1.trans (hv a), r.2⟩, q⟩
  | exc C xs s' => rw [hp] at z; exact z
  | bad => trivial
theorem tp_as {g : α → β} (hv : ∀ a, va a = vb (g a)) (k : TP tb N D e p (fz va)) : TP tb N D e (x1 g p) (fz vb) := fun s env h fp R => by
  have z := k s env h fp R
  unfold x1
  cases hp : p s with
  | ok a s' =>
    rw [hp] at z
    obtain ⟨es, v, h', f, e1, m, r⟩ := z
    exact ⟨es, v, h', f, e1, m, ⟨r.1.trans (hv a), r.2⟩⟩
  | exc C xs s' => rw [hp] at z; exact z
  | bad => trivial
theorem tx_isN (hn : NoN va) {neg : Bool} {p : σ → X σ (Option α)} (k : TX tb N D e p (fz (oV va))) : TX tb N D (m2 (fIsN neg) e (mC .non)) (x1 (fun o => if neg then o.isSome else o.isNone) p) (fz .bl) := tx_1 (f := fun x h => fIsN neg x .non h) (o_isN hn) k
def xCompL (st : σ → α → σ) (pt : σ → X σ Bool) (pe : σ → X σ β) : List α → List β → σ → Option (List β × σ)
  | [], acc, s => some (acc, s)
  | x :: xs, acc, s => match pt (st s x) with
    | .ok c s1 => if c = true then (match pe s1 with
      | .ok y s2 => if acc.length < sizeLine then xCompL st pt pe xs (acc ++ [y]) s2 else none
      | _ => none) else xCompL st pt pe xs acc s1
    | _ => none
@[irreducible] def xComp (pi : σ → X σ (List α)) (st : σ → α → σ) (pt : σ → X σ Bool) (pe : σ → X σ β) : σ → X σ (List β) := fun s => (pi s).bind fun xs s => match xCompL st pt pe xs [] s with
  | some (ys, s) => .ok ys s
  | none => .bad
@[irreducible] def xYes : σ → X σ Bool := fun s => .ok true s
theorem txt_yes : TXT tb N D tYesM xYes := by with_unfolding_all exact (fun s env h fp R => ⟨h, fp, rfl, R, Fr.refl, Grow.refl⟩)
theorem wipe_len : ∀ (vs : List Nat) (env : MEnv), (wipeM env vs).length = env.length
  | [], _ => rfl
  | v :: vs, env => by unfold wipeM; rw [List.length_set]; exact wipe_len vs env
theorem wipe_get {k : Nat} : ∀ (vs : List Nat) (env : MEnv), k ∉ vs → (wipeM env vs)[k]? = env[k]?
  | [], _, _ => rfl
  | v :: vs, env, h => by
    unfold wipeM
    have : v ≠ k := fun z => h (by rw [z]; exact List.mem_cons_self ..)
    rw [List.getElem?_set_ne this]
    exact wipe_get vs env fun z => h (List.mem_cons_of_mem _ z)
def farB (tb : Nat → Slot σ) (D vs : List Nat) : Bool := D.all fun j => !vs.contains (tb j).ix
theorem farB_ok {vs : List Nat} (k : farB tb D vs = true) : ∀ j ∈ D, (tb j).ix ∉ vs := fun j hj => by
  have := (List.all_eq_true.mp k) j hj
  simpa using this
theorem RS.env {s : σ} {env env' : MEnv} {h : MH} {fp : Nat → List Nat} (R : RS tb N D s env h fp) (hl : env'.length = env.length) (k : ∀ j ∈ D, env'[(tb j).ix]? = env[(tb j).ix]?) : RS tb N D s env' h fp :=
  ⟨by rw [hl]; exact R.len, fun j hj => let ⟨v, e1, e2⟩ := R.ok j hj; ⟨v, by rw [k j hj]; exact e1, e2⟩, R.nd, R.dj⟩
abbrev cxC (tb : Nat → Slot σ) (N : Nat) (D : List Nat) : Cx σ Unit := ⟨tb, N, [], [], [], D.map fun j => (tb j).ix, fz nV⟩
theorem comp_in {g : MG} {vs : List Nat} (kg : TG (cxC tb N D) D g st va D1) (hv : farB tb D vs = true) {s : σ} {env : MEnv} {h : MH} {fp : Nat → List Nat} (R : RS tb N D s env h fp) (x : α) :
    ∃ env1 fp1, g (va x) (wipeM env vs) h = .ok env1 h ∧ RS tb N D1 (st s x) env1 h fp1 ∧ (∀ n, Wn D1 fp1 n → Wn D fp n) ∧ ∀ (s2 : σ) (h2 : MH) (fp2 : Nat → List Nat), (∀ j ∈ D, j ∈ D1) → RS tb N D1 s2 env1 h2 fp2 → RS tb N D s2 env h2 fp2 := by
  have R0 : RS tb N D s (wipeM env vs) h fp := R.env (wipe_len vs env) fun j hj => wipe_get vs env (farB_ok hv j hj)
  obtain ⟨env1, fp1, e1, R1, w1, p1⟩ := kg s _ h fp x R0
  refine ⟨env1, fp1, e1, R1, w1, fun s2 h2 fp2 hD R2 => ?_⟩
  refine (R2.sub hD).env (by rw [R.len]; exact R2.len.symm) fun j hj => ?_
  rw [← wipe_get vs env (farB_ok hv j hj)]
  exact (p1 _ (List.mem_map.mpr ⟨j, hj, rfl⟩)).symm
theorem comp_l {g : MG} {vs : List Nat} {t : MT} {pt : σ → X σ Bool} {pe : σ → X σ β} (kg : TG (cxC tb N D) D g st va D1) (hv : farB tb D vs = true) (hD : subB D D1 = true) (kt : TXT tb N D1 t pt) (ke : TX tb N D1 e pe (fz vb)) : ∀ (xs : List α) (acc : List β) s env h fp, RS tb N D s env h fp → match xCompL st pt pe xs acc s with
    | some (ys, s') => ∃ h' fp', compL g t e (wipeM env vs) (xs.map va) (acc.map vb) h = .ok (ys.map vb) h' ∧ RS tb N D s' env h' fp' ∧ Fr (Wn D fp) h h' ∧ Grow (Wn D fp) (Wn D fp') h
    | none => True
  | [], acc, s, env, h, fp, R => ⟨h, fp, rfl, R, Fr.refl, Grow.refl⟩
  | x :: xs, acc, s, env, h, fp, R => by
    have hD := subB_ok hD
    obtain ⟨env1, fp1, e1, R1, w1, back⟩ := comp_in kg hv R x
    unfold xCompL
    rw [List.map_cons]
    unfold compL compT
    rw [e1]
    simp only [Out.nox, Out.bind]
    have z := kt (st s x) env1 h fp1 R1
    cases hp : pt (st s x) with
    | ok cc s1 =>
      rw [hp] at z
      obtain ⟨h1, fp2, e2, R2, fr2, gr2⟩ := z
      rw [e2]
      simp only
      have fr2' : Fr (Wn D fp) h h1 := fr2.weak w1
      have gr2' : Grow (Wn D fp) (Wn D1 fp2) h := fun n q => (gr2 n q).imp (w1 n) id
      cases cc with
      | false =>
        simp only [Bool.false_eq_true, if_false]
        have ih := comp_l kg hv (by assumption) kt ke xs acc s1 env h1 fp2 (back s1 h1 fp2 hD R2)
        cases hc : xCompL st pt pe xs acc s1 with
        | none => trivial
        | some r =>
          obtain ⟨ys, s'⟩ := r
          rw [hc] at ih
          obtain ⟨h', fp', e3, R3, fr3, gr3⟩ := ih
          have g4 : Grow (Wn D fp) (Wn D fp2) h := gr2'.sub fun n q => Wn.sub hD q
          exact ⟨h', fp', e3, R3, fr2'.trans g4 fr3, g4.trans fr2'.len gr3⟩
      | true =>
        simp only [if_true]
        have z2 := ke s1 env1 h1 fp2 R2
        cases hpe : pe s1 with
        | ok y s2 =>
          rw [hpe] at z2
          obtain ⟨v, h2, f, fp3, e3, R3, r3, _, _, fr3, gr3⟩ := z2
          simp only
          by_cases hz : acc.length < sizeLine
          · rw [if_pos hz]
            have g4 : Grow (Wn D fp) (Wn D1 fp3) h := gr2'.trans fr2'.len (gr3.sub fun n q => .inl q)
            have f4 : Fr (Wn D fp) h h2 := fr2'.trans gr2' fr3
            have ih := comp_l kg hv (by assumption) kt ke xs (acc ++ [y]) s2 env h2 fp3 (back s2 h2 fp3 hD R3)
            cases hc : xCompL st pt pe xs (acc ++ [y]) s2 with
            | none => trivial
            | some r =>
              obtain ⟨ys, s'⟩ := r
              rw [hc] at ih
              obtain ⟨h', fp', e4, R4, fr4, gr4⟩ := ih
              have g5 : Grow (Wn D fp) (Wn D fp3) h := g4.sub fun n q => Wn.sub hD q
              refine ⟨h', fp', ?_, R4, f4.trans g5 fr4, g5.trans f4.len gr4⟩
              rw [e3, r3.1]
              simp only
              rw [if_pos (by simpa using hz)]
              rw [List.map_append] at e4
              exact e4
          · rw [if_neg hz]; trivial
        | exc C xs s2 => trivial
        | bad => trivial
    | exc C xs s1 => trivial
    | bad => trivial
theorem tx_comp {it : MIt} {pi : σ → X σ (List α)} {g : MG} {vs : List Nat} {t : MT} {pt : σ → X σ Bool} {pe : σ → X σ β} (ki : TXI tb N D it pi va) (kg : TG (cxC tb N D) D g st va D1) (kt : TXT tb N D1 t pt) (ke : TX tb N D1 e pe (fz vb)) (hv : farB tb D vs = true := by rfl) (hD : subB D D1 = true := by rfl) : TX tb N D (mComp false it g t e vs) (xComp pi st pt pe) (fz (lV vb)) := fun s env h fp R => by
  have z := ki s env h fp R
  unfold xComp mComp
  cases hp : pi s with
  | ok xs s' =>
    rw [hp] at z
    obtain ⟨h', fp', e1, R1, fr, gr⟩ := z
    simp only [X.bind]
    rw [e1]
    simp only [Out.bind]
    have w := comp_l kg hv hD kt ke xs [] s' env h' fp' R1
    cases hc : xCompL st pt pe xs [] s' with
    | none => trivial
    | some r =>
      obtain ⟨ys, s2⟩ := r
      rw [hc] at w
      obtain ⟨h2, fp2, e2, R2, fr2, gr2⟩ := w
      have e2' : compL g t e (wipeM env vs) (xs.map va) [] h' = .ok (ys.map vb) h2 := e2
      refine ⟨_, h2, [], fp2, by rw [e2']; rfl, R2, ⟨rfl, rfl⟩, List.nodup_nil, (fun n hn => nomatch hn), fr.trans gr fr2, (gr.trans fr.len gr2).sub fun n q => q.elim id fun z => nomatch z⟩
  | exc C xs s' =>
    rw [hp] at z
    obtain ⟨h', fp', e1, R1, fr, gr⟩ := z
    exact ⟨h', fp', by rw [e1], R1, fr, gr⟩
  | bad => trivial
def yHds : List (List (Str × Bool) × (σ → F σ ρ)) → Str → List MV → σ → F σ ρ
  | [], C, xs, s => .exc C xs s
  | (tab, su) :: r, C, xs, s => match tab.lookup C with
    | some true => (match su s with
      | .exc _ _ _ => .bad
      | o => o)
    | some false => yHds r C xs s
    | none => .bad
@[irreducible] def yTry (b : σ → F σ ρ) (hds : List (List (Str × Bool) × (σ → F σ ρ))) : σ → F σ ρ := fun s => match b s with
  | .exc C xs s' => yHds hds C xs s'
  | o => o
def insP (C : Str) (ks : List Str) (xs : List MV) : Pr := ⟨fun v h fp => ∃ n, v = .ref n ∧ h[n]? = some (.ins C ks xs) ∧ fp = [n],
  fun {v h h' fp} q k => by
    obtain ⟨n, e1, e2, e3⟩ := q
    exact ⟨n, e1, by rw [k n (by rw [e3]; exact List.mem_singleton.mpr rfl)]; exact e2, e3⟩,
  fun {v h fp} q n hn => by
    obtain ⟨m, e1, e2, e3⟩ := q
    rw [e3] at hn
    rw [List.mem_singleton.mp hn]
    exact (List.getElem?_eq_some_iff.mp e2).1⟩
theorem ts_fld {tab : CTab} {x : Str} {C : Str} {ks ks' : List Str} {xs : σ → List MV} (i i' : Nat) (kp : TX c.tb c.N D e p (fz va)) (hg : ∀ s, (c.tb i).rep s = insP C ks (xs s)) (hp : ∀ s a, (c.tb i').rep (st s a) = insP C ks' (putXs x (va a) ks (xs s))) (hks : putKs x ks = ks') (hok : okF tab C x = true) (hlen : ks.length < 1000) (k : Keep c.tb st jx D0) (hs : sameB c.tb ix D0) (hx : (c.tb i).ix = ix := by rfl) (hx' : (c.tb i').ix = ix := by rfl) (h0 : subB D0 D = true := by rfl) (hi : D.contains i = true := by rfl) (hxx : subB c.Dx D = true := by rfl) :
    TS c D (sFldM tab x (mV ix) e) (ySet st p) (i' :: D0) := by with_unfolding_all exact (ts_ex (f := fun v h env => (mV ix env h).andS env fun o h => match o with
      | .ref n => match h[n]? with
        | some (.ins C ks xs) => if okF tab C x = true ∧ ks.length < 1000 then .ok .nx env (h.set n (.ins C (putKs x ks) (putXs x v ks xs))) else .stuck
        | _ => .stuck
      | _ => .stuck) (fun env h => rfl) kp hxx fun a s v env h0' h fp0 fp fv R r nd dj fr gr => by
  have hi : i ∈ D := by simpa using hi
  obtain ⟨w, w1, w2⟩ := R.ok i hi
  rw [hg] at w2
  obtain ⟨n, rfl, w3, w4⟩ := w2
  have w1' := w1
  rw [hx] at w1
  rw [ev_V w1]
  simp only [Out.andS]
  rw [w3]
  simp only
  rw [if_pos ⟨hok, hlen⟩, hks, r.1]
  have hl := (List.getElem?_eq_some_iff.mp w3).1
  have hsub := subB_ok h0
  have ni : ∀ j ∈ D0, j ≠ i := fun j hj z => sameB_at hs j hj (by rw [z]; exact hx)
  have ni' : ∀ j ∈ D0, j ≠ i' := fun j hj z => sameB_at hs j hj (by rw [z]; exact hx')
  refine ⟨env, _, fun j => if j = i' then [n] else fp j, rfl, ⟨R.len, fun j hj => ?_, fun j hj => ?_, fun j hj l hl2 hjl m hm hm2 => ?_⟩, ⟨by rw [List.length_set]; exact fr.len, fun m hm hA => ?_⟩, fun m ⟨j, hj, hm⟩ => ?_, Pin.refl⟩
  · rcases List.mem_cons.mp hj with rfl | hj
    · exact ⟨.ref n, by rw [hx']; exact w1, by rw [if_pos rfl, hp]; exact ⟨n, rfl, List.getElem?_set_self hl, rfl⟩⟩
    · obtain ⟨u, u1, u2⟩ := R.ok j (hsub j hj)
      refine ⟨u, u1, ?_⟩
      rw [if_neg (ni' j hj), (k.at j hj).2]
      refine ((c.tb j).rep s).frame u2 fun m hm => ?_
      have : n ≠ m := fun z => by
        subst z
        exact R.dj j (hsub j hj) i hi (ni j hj) n hm (by rw [w4]; exact List.mem_singleton.mpr rfl)
      rw [List.getElem?_set_ne this]
  · show (if _ = _ then _ else _ : List Nat).Nodup
    split
    · simp
    · rename_i hne
      exact R.nd j (hsub j ((List.mem_cons.mp hj).resolve_left hne))
  · have hm : m ∈ if j = i' then [n] else fp j := hm
    have hm2 : m ∈ if l = i' then [n] else fp l := hm2
    split at hm
    · rename_i h1
      rw [if_neg (fun z => hjl (h1.trans z.symm))] at hm2
      have hl3 := (List.mem_cons.mp hl2).resolve_left (fun z => hjl (h1.trans z.symm))
      rw [List.mem_singleton.mp hm] at hm2
      exact R.dj l (hsub l hl3) i hi (ni l hl3) n hm2 (by rw [w4]; exact List.mem_singleton.mpr rfl)
    · rename_i h1
      have hj3 := (List.mem_cons.mp hj).resolve_left h1
      split at hm2
      · rw [List.mem_singleton.mp hm2] at hm
        exact R.dj j (hsub j hj3) i hi (ni j hj3) n hm (by rw [w4]; exact List.mem_singleton.mpr rfl)
      · rename_i h2
        exact R.dj j (hsub j hj3) l (hsub l ((List.mem_cons.mp hl2).resolve_left h2)) hjl m hm hm2
  · have : n ≠ m := fun z => by
      subst z
      rcases gr n (.inl ⟨i, hi, by rw [w4]; exact List.mem_singleton.mpr rfl⟩) with g | g
      · exact hA g
      · omega
    rw [List.getElem?_set_ne this]
    exact fr.keep m hm hA
  · have hm : m ∈ if j = i' then [n] else fp j := hm
    split at hm
    · exact gr m (.inl ⟨i, hi, by rw [w4]; exact hm⟩)
    · rename_i h1
      exact gr m (.inl ⟨j, hsub j ((List.mem_cons.mp hj).resolve_left h1), hm⟩))
end
def TMk {A α : Type} (C : Str) (m : MF) (vs : A → List MV) (fn : A → X Unit α) (vo : α → MV) : Prop := ∀ a h, match fn a with
  | .ok r _ => ∃ h' ks xs, m (.ref h.length :: vs a) (h ++ [.ins C [] []]) = .ok .non h' ∧ h'[h.length]? = some (.ins C ks xs) ∧ vo r = .ob C ks xs ∧ Mono h h'
  | .exc D xs _ => ∃ h', m (.ref h.length :: vs a) (h ++ [.ins C [] []]) = .exc D xs h' ∧ Mono h h'
  | .bad => True
@[irreducible] def yInit {σ A α : Type} (init : A → σ) (out : σ → α) (b : σ → F σ Unit) : A → X Unit α := fun a => match b (init a) with
  | .nx s => .ok (out s) ()
  | .exc C xs _ => .exc C xs ()
  | _ => .bad
theorem tmk_mk {σ A α : Type} {c : Cx σ Unit} {C : Str} {ps : PSpec Unit A} {D0 D1 : List Nat} {m : MS} {b : σ → F σ Unit} {init : A → σ} {out : σ → α} {vs : A → List MV} {vo : α → MV} {ks : List Str} {xs : σ → List MV} (il : Nat) (kb : TS c D0 m b D1)
    (hin : ∀ a, PIn c.tb (.io (fun _ : Unit => insP C [] []) ps) 0 (init a) ((), ()) a) (hvs : ∀ a h, ps.rep () a (vs a) h []) (hout : ∀ s, (c.tb il).rep s = insP C ks (xs s)) (hvo : ∀ s, vo (out s) = .ob C ks (xs s)) (h0 : D0 = List.range (ps.len + 1) := by rfl) (hN : ps.len + 1 ≤ c.N := by decide) (hp : c.pin = [0] := by rfl) (hi : D1.contains il = true := by rfl) (hx : (c.tb il).ix = 0 := by rfl) :
    TMk C (runF c.N m) vs (yInit init out b) vo := fun a h => by
  let ps1 : PSpec (Unit × Unit) A := .io (fun _ : Unit => insP C [] []) ps
  have q : ps1.rep ((), ()) a (.ref h.length :: vs a) (h ++ [.ins C [] []]) [[h.length]] := ⟨_, _, _, _, rfl, rfl, ⟨_, rfl, app_same, rfl⟩, hvs a _⟩
  have nd : [[h.length]].flatten.Nodup := by simp
  have hl := ps1.rep_len q
  have hl1 : ps1.len = ps.len + 1 := rfl
  have R0 : RS c.tb c.N D0 (init a) ((MV.ref h.length :: vs a).map some ++ List.replicate (c.N - (MV.ref h.length :: vs a).length) none) (h ++ [.ins C [] []]) (ps1.fpp 0 [[h.length]]) := by
    obtain ⟨n1, n2⟩ := fpp_nd ps1 0 q nd
    refine ⟨?_, fun j hj => ?_, fun j _ => n1 j, fun j _ l _ hjl => n2 j l hjl⟩
    · rw [List.length_append, List.length_map, List.length_replicate]; omega
    · rw [h0] at hj
      have := pin_ok (N := c.N - (MV.ref h.length :: vs a).length) ps1 0 (pre := []) (hin a) q rfl j (Nat.zero_le _) (by rw [hl1]; have := List.mem_range.mp hj; omega)
      simpa using this
  have w0 : ∀ n, Wn D0 (ps1.fpp 0 [[h.length]]) n → n = h.length := fun n ⟨j, _, hn⟩ => by simpa using fpp_mem ps1 0 q j n hn
  have mo : ∀ {h' : MH}, Fr (Wn D0 (ps1.fpp 0 [[h.length]])) (h ++ [.ins C [] []]) h' → Mono h h' := fun {h'} fr => ⟨by have := fr.len; rw [List.length_append] at this; omega, fun n hn => by
    rw [fr.keep n (by rw [List.length_append]; omega) (fun z => by have := w0 n z; omega), List.getElem?_append_left hn]⟩
  have z := kb _ _ _ _ R0
  unfold yInit runF
  cases hb : b (init a) with
  | nx s' =>
    rw [hb] at z
    obtain ⟨env', h', fp', e, R', fr, gr, pn⟩ := z
    obtain ⟨v, v1, v2⟩ := R'.ok il (by simpa using hi)
    rw [hx, pn 0 (by rw [hp]; exact List.mem_singleton.mpr rfl)] at v1
    have v1 : some (some (MV.ref h.length)) = some (some v) := v1
    have v1 := Option.some.inj (Option.some.inj v1)
    subst v1
    rw [hout] at v2
    obtain ⟨n, e1, e2, e3⟩ := v2
    cases e1
    exact ⟨h', ks, xs s', by rw [e], e2, hvo s', mo fr⟩
  | exc D xs s' =>
    rw [hb] at z
    obtain ⟨env', h', fp', e, R', fr, gr, pn⟩ := z
    exact ⟨h', by rw [e], mo fr⟩
  | rt r s' => trivial
  | bk s' => trivial
  | ct s' => trivial
  | bad => trivial
section
variable {σ : Type} {tb : Nat → Slot σ} {N : Nat} {D : List Nat} {A α ρ : Type} {ms : MA} {p : σ → X σ A} {vs : A → List MV} {vo : α → MV}
@[irreducible] def xMake (fn : A → X Unit α) (p : σ → X σ A) : σ → X σ α := fun s => (p s).bind fun a s => match fn a with
  | .ok r _ => .ok r s
  | .exc C xs _ => .exc C xs s
  | .bad => .bad
theorem tx_make {C : Str} {m : MF} {fn : A → X Unit α} {n : Nat} (km : TMk C m vs fn vo) (kp : TXA tb N D ms p vs) (hn : ∀ a, (vs a).length + 1 = n) : TX tb N D (mMake C true n m ms) (xMake fn p) (fz vo) := fun s env h fp R => by
  have z := kp s env h fp R
  unfold xMake mMake
  cases hp : p s with
  | ok a s' =>
    rw [hp] at z
    obtain ⟨h', fp', e1, R1, fr, gr⟩ := z
    simp only [X.bind]
    rw [e1]
    simp only [Out.bind]
    rw [if_pos (hn a)]
    have z2 := km a h'
    cases hf : fn a with
    | ok r u =>
      rw [hf] at z2
      obtain ⟨h2, ks, xs, e2, e3, e4, mo⟩ := z2
      rw [e2]
      simp only [if_true]
      rw [e3]
      simp only
      have mo2 : Mono h' (h2.set h'.length .dead) := ⟨by rw [List.length_set]; exact mo.len, fun k hk => by rw [List.getElem?_set_ne (by omega)]; exact mo.keep k hk⟩
      exact ⟨_, _, [], fp', rfl, R1.mono mo2, ⟨e4.symm, rfl⟩, List.nodup_nil, (fun n hn => nomatch hn), fr.trans gr mo2.fr, gr.sub fun n q => q.elim id fun z => nomatch z⟩
    | exc C xs u =>
      rw [hf] at z2
      obtain ⟨h2, e2, mo⟩ := z2
      rw [e2]
      exact ⟨h2, fp', rfl, R1.mono mo, fr.trans gr mo.fr, gr⟩
    | bad => trivial
  | exc C xs s' =>
    rw [hp] at z
    obtain ⟨h', fp', e1, R1, fr, gr⟩ := z
    exact ⟨h', fp', by rw [e1], R1, fr, gr⟩
  | bad => trivial
end
end Ty
set_option Elab.async false
set_option linter.all false
set_option maxRecDepth 100000
namespace Ty
open PySem PySem.Spec PyProof.Rows L2 Mn

section
variable {σ ρ : Type} {tb : Nat → Slot σ} {N : Nat} {c : Cx σ ρ} {D D' D0 D1 D2 : List Nat} {α β γ : Type} {e e1 e2 : ME} {m : MS} {pa : σ → F σ ρ} {p : σ → X σ α} {q : σ → X σ β} {va : α → MV} {vb : β → MV} {vc : γ → MV} {ea : Enc α} {eb : Enc β} {st : σ → α → σ} {i ix : Nat} {ms : MA}
theorem f_fldT {y : MV} {h : MH} {C : Str} {ks : List Str} {xs : List MV} {tab : CTab} {f : Str} {d : MV} (hi : insAt h y = some (C, ks, xs)) (ok : okF tab C f = true) (hd : fldOf ks xs f = some d) : fFld tab f y h = .ok d h := by
  unfold fFld
  rw [hi]
  simp only
  rw [if_pos ok, hd]
theorem tp_pr {d : MV} {f : MV → MV → MH → Out MV} {pr : α → γ} (hv : ∀ a h, f (va a) d h = .ok (vc (pr a)) h) (k : TP tb N D e p (fz va)) : TP tb N D (m2 f e (mC d)) (x1 pr p) (fz vc) :=
  tp_1 (f := fun x h => f x d h) (Op1.rd fun a c h e => by cases e; exact hv a h) k
theorem tx_pr {d : MV} {f : MV → MV → MH → Out MV} {pr : α → γ} (hv : ∀ a h, f (va a) d h = .ok (vc (pr a)) h) (k : TX tb N D e p (fz va)) : TX tb N D (m2 f e (mC d)) (x1 pr p) (fz vc) :=
  tx_1 (f := fun x h => f x d h) (fun a c h e => by cases e; exact hv a h) k
def LsW (ea : Enc (List α)) (va : α → MV) : Prop := ∀ xs v h f, (ea xs).r v h f → (∃ ys, v = .fl ys ∧ ys = xs.map va) ∨ ∃ n, v = .ref n ∧ h[n]? = some (.lst (xs.map va))
theorem lw_l : LsW (fz (lV va)) va := fun xs v h f r => .inl ⟨_, r.1, rfl⟩
theorem wl_l {ys : List MV} {h : MH} : wlst h (.fl ys) = some ys := rfl
theorem wl_r {ys : List MV} {h : MH} {n : Nat} (e : h[n]? = some (.lst ys)) : wlst h (.ref n) = some ys := by unfold wlst; simp only; rw [e]
theorem add_gen {b : Bool} {x y : MV} {xs ys : List MV} {h : MH} (hx : x = .fl xs ∨ ∃ n, x = .ref n ∧ h[n]? = some (.lst xs)) (hy : y = .fl ys ∨ ∃ n, y = .ref n ∧ h[n]? = some (.lst ys)) (hz : xs.length + ys.length ≤ sizeLine) : fAdd b x y h = retL b (xs ++ ys) h := by
  rcases hx with rfl | ⟨n, rfl, e1⟩
  · rcases hy with rfl | ⟨m, rfl, e2⟩
    · unfold fAdd; simp only [wl_l]; rw [if_pos hz]
    · unfold fAdd; simp only [wl_l, wl_r e2]; rw [if_pos hz]
  · rcases hy with rfl | ⟨m, rfl, e2⟩
    · unfold fAdd; simp only [wl_l, wl_r e1]; rw [if_pos hz]
    · unfold fAdd; simp only [wl_r e1, wl_r e2]; rw [if_pos hz]
theorem o_addG {ea eb : Enc (List α)} (wa : LsW ea va) (wb : LsW eb va) {b : Bool} : ∀ xs ys c u v f1 f2 h, (ea xs).r u h f1 → (eb ys).r v h f2 → gCat xs ys = some c → fAdd b u v h = retL b (c.map va) h := fun xs ys c u v f1 f2 h r1 r2 e => by
  unfold gCat at e
  by_cases q : xs.length + ys.length ≤ sizeLine
  · rw [if_pos q] at e; cases e
    rw [add_gen (xs := xs.map va) (ys := ys.map va) ((wa xs u h f1 r1).imp (fun ⟨_, a, b⟩ => by rw [a, b]) id) ((wb ys v h f2 r2).imp (fun ⟨_, a, b⟩ => by rw [a, b]) id) (by simpa using q), List.map_append]
  · rw [if_neg q] at e; cases e
theorem o_addL {ea eb : Enc (List α)} (wa : LsW ea va) (wb : LsW eb va) : Rd2 (fAdd false) gCat ea eb (lV va) := fun xs ys c u v f1 f2 h r1 r2 e => o_addG wa wb xs ys c u v f1 f2 h r1 r2 e
theorem o_addLF : Op2 (fAdd false) gCat (lV va) (lV va) (lV va) := fun xs ys c h e => o_addL lw_l lw_l xs ys c _ _ [] [] h ⟨rfl, rfl⟩ ⟨rfl, rfl⟩ e
@[reducible] def gRep (xs : List α) (k : Int) : Option (List α) := if -(2 ^ 63) ≤ k ∧ k < 2 ^ 63 ∧ xs.length * k.toNat ≤ sizeLine then some (List.replicate k.toNat xs).flatten else none
theorem tx_callK1 {A α ρ : Type} {ps : PSpec (α × Unit) A} {m : MF} {fn : α × Unit → A → X (α × Unit) ρ} {er : Enc ρ} {ms : MA} {p : σ → X σ A} {n : Nat} {get : σ → α} {put : σ → α → σ} (i : Nat) (kf : TFun ps m fn er) (kp : TXP tb N D ms ps [i] p)
    (hg : ∀ s : σ, IoOk tb ps [i] s (get s, ())) (hp : ∀ (s : σ) a, IoOk tb ps [i] (put s a) (a, ())) (k : Keep tb put ix D0) (hb : butB i D D0 = true := by rfl) (hi : D.contains i = true := by rfl) (hn : ps.len = n := by rfl) : TX tb N D (mCall n m ms) (xCall fn (fun s => (get s, ())) (fun s a => put s a.1) p) er :=
  tx_call1 kf kp hg (fun s a => hp s a.1) (fun j hj hn s a => (k.at j (butB_ok hb j hj fun z => hn (by rw [z]; exact List.mem_singleton.mpr rfl))).2 s a.1) hi hn
end
end Ty
set_option Elab.async false
set_option linter.all false
set_option maxRecDepth 100000
namespace Ty
open PySem PySem.Spec PyProof.Rows L2 Mn

section
variable {σ ρ : Type} {tb : Nat → Slot σ} {N : Nat} {c : Cx σ ρ} {D D' D0 D1 D2 : List Nat} {α β γ : Type} {e e1 e2 : ME} {m : MS} {pa : σ → F σ ρ} {p : σ → X σ α} {q : σ → X σ β} {va : α → MV} {vb : β → MV} {vc : γ → MV} {ea : Enc α} {eb : Enc β} {st : σ → α → σ} {i ix : Nat} {ms : MA}
theorem All2.at {h : MH} : ∀ {xss : List (List α)} {ns : List Nat} {j : Nat} {xs : List α}, All2 va h xss ns → xss[j]? = some xs → ∃ m, ns[j]? = some m ∧ h[m]? = some (.lst (xs.map va))
  | x :: xss, n :: ns, 0, xs, a, e => by
    have : x = xs := by simpa using e
    subst this
    exact ⟨n, rfl, a.1⟩
  | _ :: xss, _ :: ns, j + 1, xs, a, e => by
    obtain ⟨m, e1, e2⟩ := All2.at (j := j) a.2 (by simpa using e)
    exact ⟨m, by simpa using e1, e2⟩
  | [], [], _, _, _, e => by simp at e
  | [], _ :: _, _, _, a, _ => a.elim
  | _ :: _, [], _, _, a, _ => a.elim
theorem All2.set {h : MH} {ys : List α} {m : Nat} : ∀ {xss : List (List α)} {ns : List Nat} {j : Nat}, All2 va h xss ns → ns[j]? = some m → ns.Nodup → m < h.length → All2 va (h.set m (.lst (ys.map va))) (xss.set j ys) ns
  | x :: xss, n :: ns, 0, a, e, nd, hl => by
    have : n = m := by simpa using e
    subst this
    obtain ⟨n1, _⟩ := List.nodup_cons.mp nd
    refine ⟨List.getElem?_set_self hl, a.2.frame fun k hk => ?_⟩
    have : n ≠ k := fun z => n1 (by rw [z]; exact hk)
    rw [List.getElem?_set_ne this]
  | x :: xss, n :: ns, j + 1, a, e, nd, hl => by
    obtain ⟨n1, n2⟩ := List.nodup_cons.mp nd
    have e' : ns[j]? = some m := by simpa using e
    have hne : m ≠ n := fun z => n1 (z ▸ List.mem_of_getElem? e')
    exact ⟨by rw [List.getElem?_set_ne hne]; exact a.1, All2.set a.2 e' n2 hl⟩
  | [], [], _, _, e, _, _ => by simp at e
  | [], _ :: _, _, a, _, _, _ => a.elim
  | _ :: _, [], _, a, _, _, _ => a.elim
end
end Ty
set_option Elab.async false
set_option linter.all false
set_option maxRecDepth 100000
namespace Ty
open PySem PySem.Spec PyProof.Rows L2 Mn
@[irreducible] def xIxV {σ α : Type} (g : σ → List α) (p : σ → X σ Int) : σ → X σ α := fun s => (p s).bind fun i s' => match gIx (g s') i with
  | some a => .ok a s'
  | none => .bad
end Ty
set_option Elab.async false
set_option linter.all false
set_option maxRecDepth 100000
namespace Ty
open PySem PySem.Spec PyProof.Rows L2 Mn
section
variable {σ α β γ δ ρ I A : Type}
def Ev (x : X σ α) (k : α → σ → Prop) (e : Str → σ → Prop) : Prop := match x with
  | .ok a s => k a s
  | .exc C _ s => e C s
  | .bad => False
def Os (o : Option α) (k : α → Prop) : Prop := match o with
  | some a => k a
  | none => False
def Po (o : F σ ρ) (n : σ → Prop) (r : ρ → σ → Prop) (b c : σ → Prop) (e : Str → σ → Prop) : Prop := match o with
  | .nx s => n s
  | .rt a s => r a s
  | .bk s => b s
  | .ct s => c s
  | .exc C _ s => e C s
  | .bad => False
theorem Ev_ok {a : α} {s : σ} {k : α → σ → Prop} {e : Str → σ → Prop} : Ev (.ok a s) k e = k a s := propext Iff.rfl
theorem Ev_exc {C : Str} {xs : List MV} {s : σ} {k : α → σ → Prop} {e : Str → σ → Prop} : Ev (.exc C xs s) k e = e C s := propext Iff.rfl
theorem Os_some {a : α} {k : α → Prop} : Os (some a) k = k a := propext Iff.rfl
theorem Os_if {p : Prop} [Decidable p] {a : α} {k : α → Prop} : Os (if p then some a else none) k = (p ∧ k a) := by
  by_cases h : p
  · rw [if_pos h]; simp [Os, h]
  · rw [if_neg h]; simp [Os, h]
theorem Os_intro {o : Option α} {k : α → Prop} {a : α} (h : o = some a) (hk : k a) : Os o k := by rw [h]; exact hk
theorem Ev.mono {x : X σ α} {k k' : α → σ → Prop} {e e' : Str → σ → Prop} (h : Ev x k e) (h1 : ∀ a s, k a s → k' a s) (h2 : ∀ C s, e C s → e' C s := by intro _ _ h; exact h.elim) : Ev x k' e' := by
  cases x with
  | ok a s => exact h1 _ _ h
  | exc C xs s => exact h2 _ _ h
  | bad => exact h
variable {s : σ} {k : α → σ → Prop} {e : Str → σ → Prop} {p : σ → X σ α} {q : σ → X σ β} {t u : σ → X σ Bool}
theorem Ev_bind {x : X σ β} {f : β → σ → X σ α} : Ev (x.bind f) k e = Ev x (fun b s => Ev (f b s) k e) e := by cases x <;> rfl
theorem Ev_xC {a : α} : Ev (xC a s) k e = k a s := by unfold xC; rfl
theorem Ev_xV {g : σ → α} : Ev (xV g s) k e = k (g s) s := by unfold xV; rfl
theorem Ev_xN {k : Unit → σ → Prop} : Ev (xN s) k e = k () s := by unfold xN; rfl
theorem Ev_xYes {k : Bool → σ → Prop} : Ev (xYes s) k e = k true s := by unfold xYes; rfl
theorem Ev_x1 {g : α → β} {k : β → σ → Prop} : Ev (x1 g p s) k e = Ev (p s) (fun a s => k (g a) s) e := by unfold x1; rw [Ev_bind]; rfl
theorem Ev_x1o {g : α → Option β} {k : β → σ → Prop} : Ev (x1o g p s) k e = Ev (p s) (fun a s => Os (g a) (fun b => k b s)) e := by
  unfold x1o; rw [Ev_bind]; congr; funext a s; cases g a <;> rfl
theorem Ev_x2 {g : α → β → γ} {k : γ → σ → Prop} : Ev (x2 g p q s) k e = Ev (p s) (fun a s => Ev (q s) (fun b s => k (g a b) s) e) e := by unfold x2; simp only [Ev_bind]; rfl
theorem Ev_x2o {g : α → β → Option γ} {k : γ → σ → Prop} : Ev (x2o g p q s) k e = Ev (p s) (fun a s => Ev (q s) (fun b s => Os (g a b) (fun c => k c s)) e) e := by
  unfold x2o; simp only [Ev_bind]; congr; funext a s; congr; funext b s; cases g a b <;> rfl
theorem Ev_xIxV {g : σ → List α} {q : σ → X σ Int} {k : α → σ → Prop} : Ev (xIxV g q s) k e = Ev (q s) (fun i s => Os (gIx (g s) i) (fun a => k a s)) e := by
  unfold xIxV; rw [Ev_bind]; congr; funext i s; cases gIx (g s) i <;> rfl
theorem Ev_xIf {p p' : σ → X σ α} : Ev (xIf t p p' s) k e = Ev (t s) (fun v s => if v = true then Ev (p s) k e else Ev (p' s) k e) e := by
  unfold xIf; rw [Ev_bind]; congr; funext v s; cases v <;> rfl
theorem Ev_xAnd {k : Bool → σ → Prop} : Ev (xAnd t u s) k e = Ev (t s) (fun v s => if v = true then Ev (u s) k e else k false s) e := by
  unfold xAnd; rw [Ev_bind]; congr; funext v s; cases v <;> rfl
theorem Ev_xOr {k : Bool → σ → Prop} : Ev (xOr t u s) k e = Ev (t s) (fun v s => if v = true then k true s else Ev (u s) k e) e := by
  unfold xOr; rw [Ev_bind]; congr; funext v s; cases v <;> rfl
theorem Ev_xNot {k : Bool → σ → Prop} : Ev (xNot t s) k e = Ev (t s) (fun v s => k (!v) s) e := by unfold xNot; rw [Ev_bind]; rfl
theorem Ev_xCs {k : α × β → σ → Prop} : Ev (xCs p q s) k e = Ev (p s) (fun a s => Ev (q s) (fun b s => k (a, b) s) e) e := by unfold xCs; simp only [Ev_bind]; rfl
theorem Ev_xUn {p : σ → X σ (Option α)} : Ev (xUn p s) k e = Ev (p s) (fun a s => Os a (fun a => k a s)) e := by
  unfold xUn; rw [Ev_bind]; congr; funext a s; cases a <;> rfl
theorem Ev_xCh {r : σ → X σ γ} {g : α → β → Option Bool} {g' : β → γ → Option Bool} {k : Bool → σ → Prop} : Ev (xCh g g' p q r s) k e = Ev (p s) (fun a s => Ev (q s) (fun b s => Os (g a b) (fun v => if v = true then Ev (r s) (fun c s => Os (g' b c) (fun z => k z s)) e else k false s)) e) e := by
  unfold xCh; simp only [Ev_bind]; congr; funext a s; congr; funext b s
  cases g a b with
  | none => rfl
  | some v => cases v with
    | false => rfl
    | true =>
      show Ev ((r s).bind _) k e = _
      rw [Ev_bind]; show Ev (r s) _ e = Ev (r s) _ e
      congr; funext c s; cases g' b c <;> rfl
theorem Ev_xSl {p : σ → X σ (List α)} {l r : σ → X σ (Option Int)} {k : List α → σ → Prop} : Ev (xSl p l r s) k e = Ev (p s) (fun a s => Ev (l s) (fun lo s => Ev (r s) (fun hi s => k (gCut a lo hi) s) e) e) e := by unfold xSl; simp only [Ev_bind]; rfl
theorem Ev_xMeth {get : σ → List α} {put : σ → List α → σ} {g : List α → β → Option (γ × List α)} {k : γ → σ → Prop} : Ev (xMeth get put g q s) k e = Ev (q s) (fun b s => Os (g (get s) b) (fun r => k r.1 (put s r.2))) e := by
  unfold xMeth; rw [Ev_bind]; congr; funext b s; cases g (get s) b <;> rfl
theorem Ev_xCall {fn : I → A → X I ρ} {get : σ → I} {put : σ → I → σ} {p : σ → X σ A} {k : ρ → σ → Prop} : Ev (xCall fn get put p s) k e = Ev (p s) (fun a s => Ev (fn (get s) a) (fun r i => k r (put s i)) (fun C i => e C (put s i))) e := by
  unfold xCall; rw [Ev_bind]; congr; funext a s; cases fn (get s) a <;> rfl
theorem Ev_xMake {fn : A → X Unit α} {p : σ → X σ A} : Ev (xMake fn p s) k e = Ev (p s) (fun a s => Ev (fn a) (fun r _ => k r s) (fun C _ => e C s)) e := by
  unfold xMake; rw [Ev_bind]; congr; funext a s; cases fn a <;> rfl
theorem Ev_xComp {pi : σ → X σ (List α)} {st : σ → α → σ} {pt : σ → X σ Bool} {pe : σ → X σ β} {k : List β → σ → Prop} : Ev (xComp pi st pt pe s) k e = Ev (pi s) (fun xs s => Os (xCompL st pt pe xs [] s) (fun r => k r.1 r.2)) e := by
  unfold xComp; rw [Ev_bind]; congr; funext xs s; cases xCompL st pt pe xs [] s <;> rfl
variable {n b c : σ → Prop} {r : ρ → σ → Prop} {pa pb : σ → F σ ρ}
theorem Po_nx : Po (.nx s : F σ ρ) n r b c e = n s := propext Iff.rfl
theorem Po_toF {x : X σ α} {f : α → σ → F σ ρ} : Po (x.toF f) n r b c e = Ev x (fun a s => Po (f a s) n r b c e) e := by cases x <;> rfl
theorem Po_yNil : Po (yNil s : F σ ρ) n r b c e = n s := by unfold yNil; rfl
theorem Po_ySeq : Po (ySeq pa pb s) n r b c e = Po (pa s) (fun s => Po (pb s) n r b c e) r b c e := by unfold ySeq; cases pa s <;> rfl
theorem Po_ySet {st : σ → α → σ} : Po (ySet st p s : F σ ρ) n r b c e = Ev (p s) (fun a s => n (st s a)) e := by unfold ySet; rw [Po_toF]; rfl
theorem Po_yRet {p : σ → X σ ρ} : Po (yRet p s) n r b c e = Ev (p s) r e := by unfold yRet; rw [Po_toF]; rfl
theorem Po_yRetC {a : ρ} : Po (yRetC a s : F σ ρ) n r b c e = r a s := by unfold yRetC; rfl
theorem Po_yExpr : Po (yExpr p s : F σ ρ) n r b c e = Ev (p s) (fun _ s => n s) e := by unfold yExpr; rw [Po_toF]; rfl
theorem Po_yIf : Po (yIf t pa pb s) n r b c e = Ev (t s) (fun v s => if v = true then Po (pa s) n r b c e else Po (pb s) n r b c e) e := by
  unfold yIf; rw [Po_toF]; congr; funext v s; cases v <;> rfl
theorem Po_yBreak : Po (yBreak s : F σ ρ) n r b c e = b s := by unfold yBreak; rfl
theorem Po_yCont : Po (yCont s : F σ ρ) n r b c e = c s := by unfold yCont; rfl
theorem Po_yRaise {C : Str} : Po (yRaise C s : F σ ρ) n r b c e = e C s := by unfold yRaise; rfl
theorem Po_yFor {pi : σ → X σ (List α)} {st : σ → α → σ} : Po (yFor pi st pa s) n r b c e = Ev (pi s) (fun xs s => Po (yForL st pa xs s) n r b c e) e := by unfold yFor; rw [Po_toF]
theorem Po_ySetI {get : σ → List α} {put : σ → List α → σ} {q : σ → X σ Int} : Po (ySetI get put p q s : F σ ρ) n r b c e = Ev (p s) (fun a s => Ev (q s) (fun k s => Os (gSetI (get s) k a) (fun ys => n (put s ys))) e) e := by
  unfold ySetI; rw [Po_toF]; congr; funext a s; rw [Po_toF]; congr; funext k s; cases gSetI (get s) k a <;> rfl
theorem Po_yAugI {get : σ → List α} {put : σ → List α → σ} {g : α → β → Option α} {q : σ → X σ Int} {p : σ → X σ β} : Po (yAugI get put g q p s : F σ ρ) n r b c e = Ev (q s) (fun k s => Os (gIx (get s) k) (fun x => Ev (p s) (fun b s => Os (g x b) (fun y => Os (gSetI (get s) k y) (fun ys => n (put s ys)))) e)) e := by
  unfold yAugI; rw [Po_toF]; congr; funext k s
  cases gIx (get s) k with
  | none => rfl
  | some x =>
    simp only [Os]
    rw [Po_toF]; congr; funext bb s
    cases g x bb with
    | none => rfl
    | some y => simp only; cases gSetI (get s) k y <;> rfl
theorem Po.mono {o : F σ ρ} {n' b' c' : σ → Prop} {r' : ρ → σ → Prop} {e' : Str → σ → Prop} (h : Po o n r b c e) (h1 : ∀ s, n s → n' s) (h2 : ∀ a s, r a s → r' a s) (h3 : ∀ s, b s → b' s) (h4 : ∀ s, c s → c' s) (h5 : ∀ C s, e C s → e' C s) : Po o n' r' b' c' e' := by
  cases o with
  | nx s => exact h1 _ h
  | rt a s => exact h2 _ _ h
  | bk s => exact h3 _ h
  | ct s => exact h4 _ h
  | exc C xs s => exact h5 _ _ h
  | bad => exact h
def PoH (hds : List (List (Str × Bool) × (σ → F σ ρ))) (C : Str) (s : σ) (n : σ → Prop) (r : ρ → σ → Prop) (b c : σ → Prop) (e : Str → σ → Prop) : Prop := match hds with
  | [] => e C s
  | (tab, su) :: l => match tab.lookup C with
    | some true => Po (su s) n r b c (fun _ _ => False)
    | some false => PoH l C s n r b c e
    | none => False
theorem Po_yHds {C : Str} {xs : List MV} : ∀ {hds : List (List (Str × Bool) × (σ → F σ ρ))}, Po (yHds hds C xs s) n r b c e = PoH hds C s n r b c e
  | [] => rfl
  | (tab, su) :: l => by
    unfold yHds PoH
    cases tab.lookup C with
    | none => rfl
    | some v =>
      cases v with
      | false => exact Po_yHds
      | true => simp only; cases su s <;> rfl
theorem Po_yTry {hds : List (List (Str × Bool) × (σ → F σ ρ))} {bd : σ → F σ ρ} : Po (yTry bd hds s) n r b c e = Po (bd s) n r b c (fun C s => PoH hds C s n r b c e) := by
  unfold yTry
  cases bd s with
  | exc C xs s' => exact Po_yHds
  | _ => rfl
theorem po_forL {st : σ → α → σ} {xs : List α} (J : Nat → σ → Prop) (h0 : J 0 s) (step : ∀ (j : Nat) (x : α) s, xs[j]? = some x → J j s → Po (pa (st s x)) (J (j + 1)) r n (J (j + 1)) e) (fin : ∀ s, J xs.length s → n s) : Po (yForL st pa xs s) n r b c e := by
  have gen : ∀ (m j : Nat) s, xs.length - j = m → j ≤ xs.length → J j s → Po (yForL st pa (xs.drop j) s) n r b c e := by
    intro m
    induction m with
    | zero =>
      intro j s e1 e2 hj
      have : j = xs.length := by omega
      subst this
      rw [List.drop_length]
      exact fin s hj
    | succ m ih =>
      intro j s e1 e2 hj
      have hlt : j < xs.length := by omega
      rw [List.drop_eq_getElem_cons hlt]
      have st' := step j xs[j] s (List.getElem?_eq_getElem hlt) hj
      unfold yForL
      cases z : pa (st s xs[j]) with
      | nx s' => rw [z] at st'; exact ih (j + 1) s' (by omega) hlt st'
      | ct s' => rw [z] at st'; exact ih (j + 1) s' (by omega) hlt st'
      | bk s' => rw [z] at st'; exact st'
      | rt a s' => rw [z] at st'; exact st'
      | exc C ys s' => rw [z] at st'; exact st'
      | bad => rw [z] at st'; exact st'
  have := gen xs.length 0 s (by omega) (Nat.zero_le _) h0
  rwa [List.drop_zero] at this
theorem po_forP {st : σ → α → σ} {xs : List α} (J : List α → σ → Prop) (h0 : J [] s) (step : ∀ (ys zs : List α) (x : α) s, xs = ys ++ x :: zs → J ys s → Po (pa (st s x)) (J (ys ++ [x])) r n (J (ys ++ [x])) e) (fin : ∀ s, J xs s → n s) : Po (yForL st pa xs s) n r b c e :=
  po_forL (fun j s => J (xs.take j) s) (by simpa using h0) (fun j x s hx hj => by
    have hl := (List.getElem?_eq_some_iff.mp hx).1
    have e1 : xs = xs.take j ++ x :: xs.drop (j + 1) := by
      conv => lhs; rw [← List.take_append_drop j xs]
      rw [List.drop_eq_getElem_cons hl, (List.getElem?_eq_some_iff.mp hx).2]
    have e2 : xs.take (j + 1) = xs.take j ++ [x] := by rw [List.take_succ, hx]; rfl
    have := step _ _ x s e1 hj
    rw [e2]; exact this) (fun s h => by rw [List.take_length] at h; exact fin s h)
theorem comp_inv {st : σ → α → σ} {pt : σ → X σ Bool} {pe : σ → X σ β} {xs : List α} {s : σ} {k : List β × σ → Prop} (J : List α → List β → σ → Prop) (h0 : J [] [] s)
    (step : ∀ (ys zs : List α) (x : α) (acc : List β) s, xs = ys ++ x :: zs → J ys acc s → Ev (pt (st s x)) (fun v s => if v = true then Ev (pe s) (fun y s => acc.length < PySem.sizeLine ∧ J (ys ++ [x]) (acc ++ [y]) s) (fun _ _ => False) else J (ys ++ [x]) acc s) (fun _ _ => False)) (fin : ∀ acc s, J xs acc s → k (acc, s)) : Os (xCompL st pt pe xs [] s) k := by
  have gen : ∀ (zs ys : List α) (acc : List β) s, xs = ys ++ zs → J ys acc s → Os (xCompL st pt pe zs acc s) k := by
    intro zs
    induction zs with
    | nil =>
      intro ys acc s e1 hj
      rw [List.append_nil] at e1
      subst e1
      exact fin acc s hj
    | cons x zs ih =>
      intro ys acc s e1 hj
      have st' := step ys zs x acc s e1 hj
      unfold xCompL
      cases hp : pt (st s x) with
      | bad => rw [hp] at st'; exact st'.elim
      | exc C xs s' => rw [hp] at st'; exact st'.elim
      | ok v s1 =>
        rw [hp] at st'
        have st' : if v = true then _ else _ := st'
        simp only
        cases v with
        | false => exact ih (ys ++ [x]) acc s1 (by simp [e1]) st'
        | true =>
          rw [if_pos rfl] at st' ⊢
          cases hq : pe s1 with
          | bad => rw [hq] at st'; exact st'.elim
          | exc C xs s' => rw [hq] at st'; exact st'.elim
          | ok y s2 =>
            rw [hq] at st'
            obtain ⟨z1, z2⟩ := st'
            simp only
            rw [if_pos z1]
            exact ih (ys ++ [x]) (acc ++ [y]) s2 (by simp [e1]) z2
  exact gen xs [] [] s rfl h0
theorem comp_pure {st : σ → α → σ} {pt : σ → X σ Bool} {pe : σ → X σ β} {xs : List α} {s : σ} {k : List β × σ → Prop} (J : σ → Prop) (f : α → Bool) (g : α → β) (h0 : J s) (hz : xs.length ≤ 16777216)
    (step : ∀ x ∈ xs, ∀ s, J s → Ev (pt (st s x)) (fun v s' => v = f x ∧ if v = true then Ev (pe s') (fun y s2 => y = g x ∧ J s2) (fun _ _ => False) else J s') (fun _ _ => False)) (fin : ∀ s, J s → k ((xs.filter f).map g, s)) : Os (xCompL st pt pe xs [] s) k :=
  comp_inv (fun ys acc s => acc = (ys.filter f).map g ∧ J s) ⟨rfl, h0⟩ (fun ys zs x acc s e1 hj => by
    obtain ⟨rfl, hj⟩ := hj
    refine (step x (by rw [e1]; simp) s hj).mono ?_
    rintro v s' ⟨rfl, p2⟩
    cases hf : f x with
    | false =>
      rw [hf] at p2
      simp at p2 ⊢
      refine ⟨by simp [hf], p2⟩
    | true =>
      rw [hf] at p2
      rw [if_pos rfl] at p2 ⊢
      refine p2.mono ?_
      rintro y s2 ⟨rfl, p5⟩
      refine ⟨?_, ?_, p5⟩
      · rw [sizeLine_eq, List.length_map]
        have := List.length_filter_le f ys
        have : xs.length = ys.length + zs.length + 1 := by rw [e1]; simp; omega
        omega
      · rw [List.filter_append, List.map_append]; simp [hf]) (fun acc s ⟨h1, h2⟩ => by subst h1; exact fin s h2)
theorem comp_mapP {st : σ → α → σ} {pe : σ → X σ β} {xs : List α} {s : σ} {k : List β × σ → Prop} (J : σ → Prop) (g : α → β) (h0 : J s) (hz : xs.length ≤ 16777216)
    (step : ∀ x ∈ xs, ∀ s, J s → Ev (pe (st s x)) (fun y s2 => y = g x ∧ J s2) (fun _ _ => False)) (fin : ∀ s, J s → k (xs.map g, s)) : Os (xCompL st xYes pe xs [] s) k :=
  comp_pure J (fun _ => true) g h0 hz (fun x hx s hs => by
    rw [Ev_xYes]; exact ⟨rfl, by rw [if_pos rfl]; exact step x hx s hs⟩) (fun s hs => by
    have := fin s hs
    rwa [List.filter_eq_self.mpr (fun _ _ => rfl)])
variable {init : I → A → σ} {out : σ → I} {d : Option ρ} {bd : σ → F σ ρ} {i : I} {a : A}
theorem Ev_yRun {k : ρ → I → Prop} {e : Str → I → Prop} : Po (bd (init i a)) (fun s => Os d (fun r => k r (out s))) (fun r s => k r (out s)) (fun _ => False) (fun _ => False) (fun C s => e C (out s)) → Ev (yRun init out d bd i a) k e := by
  intro h
  unfold yRun
  cases hb : bd (init i a) with
  | nx s => rw [hb] at h; cases d with
    | none => exact h
    | some r => exact h
  | rt r s => rw [hb] at h; exact h
  | bk s => rw [hb] at h; exact h
  | ct s => rw [hb] at h; exact h
  | exc C xs s => rw [hb] at h; exact h
  | bad => rw [hb] at h; exact h
theorem Ev_yInit {init : A → σ} {out : σ → α} {bd : σ → F σ Unit} {a : A} {k : α → Unit → Prop} {e : Str → Unit → Prop} : Po (bd (init a)) (fun s => k (out s) ()) (fun _ _ => False) (fun _ => False) (fun _ => False) (fun C s => e C ()) → Ev (yInit init out bd a) k e := by
  intro h
  unfold yInit
  cases hb : bd (init a) with
  | nx s => rw [hb] at h; exact h
  | rt r s => rw [hb] at h; exact h.elim
  | bk s => rw [hb] at h; exact h
  | ct s => rw [hb] at h; exact h
  | exc C xs s => rw [hb] at h; exact h
  | bad => rw [hb] at h; exact h
theorem Ev.ok {x : X σ α} {a : α} {s : σ} (h : Ev x (fun b t => b = a ∧ t = s) (fun _ _ => False)) : x = .ok a s := by
  cases x with
  | ok b t => obtain ⟨rfl, rfl⟩ := h; rfl
  | exc C xs t => exact h.elim
  | bad => exact h.elim
theorem Ev.ex {x : X σ α} {k : α → σ → Prop} (h : Ev x k (fun _ _ => False)) : ∃ a s, x = .ok a s ∧ k a s := by
  cases x with
  | ok b t => exact ⟨b, t, rfl, h⟩
  | exc C xs t => exact h.elim
  | bad => exact h.elim
end
theorem gIx_nat {α : Type} {xs : List α} {j : Nat} {v : α} (h : xs[j]? = some v) : gIx xs (j : Int) = some v := by
  unfold gIx; exact L2.atI_nat h
theorem gIx_z {α : Type} {xs : List α} {k : Int} {v : α} (h0 : 0 ≤ k) (h : xs[k.toNat]? = some v) : gIx xs k = some v := by
  have := gIx_nat h
  rwa [Int.toNat_of_nonneg h0] at this
theorem gIx_lt {α : Type} {xs : List α} {k : Int} (h0 : 0 ≤ k) (h : k < xs.length) : gIx xs k = some (xs[k.toNat]'(by omega)) := gIx_z h0 (List.getElem?_eq_getElem _)
theorem gIx_last {α : Type} {xs : List α} {v : α} : gIx (xs ++ [v]) (-1) = some v := by unfold gIx; exact L2.atI_last xs v
theorem ixN_z {n : Nat} {k : Int} (h0 : 0 ≤ k) (h : k < n) : L2.ixN n k = some k.toNat := by unfold L2.ixN; rw [if_pos h0, if_pos h]
theorem gSetI_z {α : Type} {xs : List α} {k : Int} {v : α} (h0 : 0 ≤ k) (h : k < xs.length) : gSetI xs k v = some (xs.set k.toNat v) := by
  unfold gSetI; rw [ixN_z h0 h]
theorem rng_get {lo : Int} {n j : Nat} {x : Int} (e : (rng lo n)[j]? = some x) : x = lo + j ∧ j < n := by
  unfold rng at e
  rw [List.getElem?_map] at e
  obtain ⟨k, e1, rfl⟩ := Option.map_eq_some_iff.mp e
  obtain ⟨e2, e3⟩ := List.getElem?_eq_some_iff.mp e1
  simp at e2 e3
  exact ⟨by rw [e3], e2⟩
theorem rng_len {lo : Int} {n : Nat} : (rng lo n).length = n := by unfold rng; simp
theorem rng1 {k : Int} (h0 : -(2 ^ 62) ≤ k) (h1 : k < 2 ^ 62) : gRng1 (k, ()) = some (rng 0 k.toNat) := by unfold gRng1; rw [if_pos ⟨h0, h1⟩]
theorem cMul_r {i j : Int} (h : -(2 ^ 64) < j) (h2 : j < 2 ^ 64) : cMul i j = true := by unfold cMul; simp; omega
theorem sz (n : Nat) (h : n ≤ 16777216) : n ≤ PySem.sizeLine := by rw [sizeLine_eq]; exact h
end Ty
set_option Elab.async false
set_option linter.all false
set_option maxRecDepth 100000
namespace Ty
open PySem PySem.Spec PyProof.Rows L2 Mn
end Ty
set_option Elab.async false
set_option linter.all false
set_option maxRecDepth 100000
namespace Ty
open PySem PySem.Spec PyProof.Rows L2 Mn
end Ty
set_option Elab.async false
set_option linter.all false
set_option maxRecDepth 100000
namespace Ty
open PySem PySem.Spec PyProof.Rows L2 Mn
structure PrL where
  r : List MV → MH → List Nat → Prop
  frame : ∀ {us h h' fp}, r us h fp → (∀ n ∈ fp, h'[n]? = h[n]?) → r us h' fp
  dom : ∀ {us h fp}, r us h fp → ∀ n ∈ fp, n < h.length
abbrev EncL (α : Type) := α → PrL
section
variable {σ : Type} {tb : Nat → Slot σ} {N : Nat}
variable {D D' D0 : List Nat} {α β : Type} {e1 : ME} {ms : MA} {p : σ → X σ α} {q : σ → X σ β} {va : α → MV} {ea : Enc α} {es : EncL β}
end
section
variable {σ ρ : Type} {c : Cx σ ρ} {D D' D0 D1 D2 : List Nat} {α β γ : Type} {ms : MA} {p : σ → X σ α} {ea : Enc α} {es : EncL α} {eb : EncL β}
theorem set_same {env : MEnv} {ix : Nat} {v : MV} (e : env[ix]? = some (some v)) : env.set ix (some v) = env := by
  refine List.ext_getElem? fun k => ?_
  by_cases z : ix = k
  · subst z
    rw [List.getElem?_set_self (List.getElem?_eq_some_iff.mp e).1, e]
  · rw [List.getElem?_set_ne z]
structure LendOk (c : Cx σ ρ) (va : γ → MV) (get : σ → List (List γ)) (put : σ → List (List γ) → σ) (getr : σ → List γ) (putr : σ → List γ → σ) (i ir ix ixr : Nat) (Dl : List Nat) : Prop where
  hg : ∀ s, (c.tb i).rep s = own2 va (get s)
  hp : ∀ s ys, get (put s ys) = ys
  hgr : ∀ s, (c.tb ir).rep s = own1 va (getr s)
  hpr : ∀ s ys, getr (putr s ys) = ys
  kp : Keep c.tb put ix Dl
  kpr : Keep c.tb putr ixr Dl
  hx : (c.tb i).ix = ix
  hxr : (c.tb ir).ix = ixr
  hN : ixr < c.N
  hN2 : ix < c.N
  hne : ix ≠ ixr
  hpin : c.pin.contains ixr = false
section
variable {va : γ → MV} {get : σ → List (List γ)} {put : σ → List (List γ) → σ} {getr : σ → List γ} {putr : σ → List γ → σ} {i ir ix ixr : Nat} {Dl : List Nat} {m : MS} {b : σ → F σ ρ}
theorem LendOk.back (L : LendOk c va get put getr putr i ir ix ixr Dl) {s : σ} {env : MEnv} {h : MH} {fp : Nat → List Nat} {n : Nat} {ns : List Nat} {yss : List (List γ)} (R : RS c.tb c.N Dl s env h fp) (e : env[ix]? = some (some (.ref n))) (e1 : h[n]? = some (.lst (ns.map .ref))) (e2 : All2 va h yss ns) (nd : (n :: ns).Nodup) (dj : ∀ x ∈ n :: ns, ¬ Wn Dl fp x) :
    ∃ fp', RS c.tb c.N (i :: Dl) (put s yss) env h fp' ∧ ∀ x, Wn (i :: Dl) fp' x → Wn Dl fp x ∨ x ∈ n :: ns := by
  have z := R.set (i := i) (ix := ix) (D0 := Dl) (st := put) (a := yss) (v := .ref n) (f := n :: ns) (List.all_eq_true.mpr fun x hx => by simpa using hx) L.kp L.hx L.hN2 (by rw [L.hg, L.hp]; exact ⟨n, ns, rfl, e1, e2, rfl⟩) nd dj
  rw [set_same e] at z
  exact ⟨_, z.1, z.2⟩
end
end
section
variable {σ : Type} {tb : Nat → Slot σ} {N : Nat} {D D0 : List Nat} {α : Type} {va : α → MV} {e : ME} {ix : Nat}
theorem All2.app {h : MH} {m : Nat} {xs : List α} (hm : h[m]? = some (.lst (xs.map va))) : ∀ {xss : List (List α)} {ns : List Nat}, All2 va h xss ns → All2 va h (xss ++ [xs]) (ns ++ [m])
  | [], [], _ => ⟨hm, trivial⟩
  | _ :: _, _ :: _, q => ⟨q.1, All2.app hm q.2⟩
  | [], _ :: _, q => q.elim
  | _ :: _, [], q => q.elim
end
end Ty
set_option Elab.async false
set_option linter.all false
namespace Ty
open PySem Mn
section
variable {σ ρ α : Type} {k : Unit → σ → Prop} {e : Str → σ → Prop} {s : σ}
end
end Ty
set_option Elab.async false
set_option linter.all false
set_option maxRecDepth 100000
namespace Mn
open PySem PySem.Spec PyProof.Rows L2
mutual
def noRef : MV → Bool
  | .ref _ => false
  | .tup xs => noRefL xs
  | .fl xs => noRefL xs
  | .sl xs => noRefL xs
  | .ob _ _ xs => noRefL xs
  | .exo _ _ _ _ => false
  | _ => true
def noRefL : List MV → Bool
  | [] => true
  | x :: xs => noRef x && noRefL xs
end
mutual
def safeV : MV → Bool
  | .non => true
  | .bl _ => true
  | .int _ => true
  | .str _ => true
  | .tup xs => safeL xs
  | .ob _ _ xs => safeL xs
  | _ => false
def safeL : List MV → Bool
  | [] => true
  | x :: xs => safeV x && safeL xs
end
section
variable {Γ : Gm} {K : PySem.W.Frag} {S S' : Sh} {H : Hp} {h : MH}
mutual
theorem rep_noRef (e : ∀ a o, S.Hs a = some o → S'.Hs a = some o) : ∀ (d : MV) (v : V), noRef d = true → Rep Γ K S d v → Rep Γ K S' d v
  | .non, v, _, q => by unfold Rep at *; exact q
  | .bl b, v, _, q => by unfold Rep at *; exact q
  | .int _, v, _, q => by unfold Rep at *; exact q
  | .str x, v, _, q => by unfold Rep at *; exact q
  | .tup xs, v, n, q => by
    unfold Rep at *
    obtain ⟨a, us, e1, e2, e3⟩ := q
    exact ⟨a, us, e1, sqT_mono e e2, repL_noRef e xs us n e3⟩
  | .fl xs, v, n, q => by
    unfold Rep at *
    obtain ⟨a, us, e1, e2, e3⟩ := q
    exact ⟨a, us, e1, e _ _ e2, repL_noRef e xs us n e3⟩
  | .sl xs, v, n, q => by
    unfold Rep at *
    obtain ⟨a, us, e1, e2, e3⟩ := q
    exact ⟨a, us, e1, sqL_mono e e2, repL_noRef e xs us n e3⟩
  | .ob C ks xs, v, n, q => by
    unfold Rep at *
    obtain ⟨a, dx, us, e1, e2, e4, e3⟩ := q
    exact ⟨a, dx, us, e1, e _ _ e2, e4, repL_noRef e xs us n e3⟩
  | .ref n, v, z, q => by cases z
  | .exo a d C xs, v, z, q => by cases z
theorem repL_noRef (e : ∀ a o, S.Hs a = some o → S'.Hs a = some o) : ∀ (ds : List MV) (vs : List V), noRefL ds = true → RepL Γ K S ds vs → RepL Γ K S' ds vs
  | [], v, _, q => by unfold RepL at *; exact q
  | d :: ds, v, n, q => by
    unfold RepL at *
    obtain ⟨u, r, e1, e2, e3⟩ := q
    unfold noRefL at n
    rw [Bool.and_eq_true] at n
    exact ⟨u, r, e1, rep_noRef e d u n.1 e2, repL_noRef e ds r n.2 e3⟩
end
mutual
theorem rep_safe (e : ∀ a o, S.Hs a = some o → (∀ us, o ≠ .lst us) → S'.Hs a = some o) : ∀ (d : MV) (v : V), safeV d = true → Rep Γ K S d v → Rep Γ K S' d v
  | .non, v, _, q => by unfold Rep at *; exact q
  | .bl b, v, _, q => by unfold Rep at *; exact q
  | .int _, v, _, q => by unfold Rep at *; exact q
  | .str x, v, _, q => by unfold Rep at *; exact q
  | .tup xs, v, n, q => by
    unfold Rep at *
    obtain ⟨a, us, e1, e2, e3⟩ := q
    refine ⟨a, us, e1, ?_, repL_safe e xs us n e3⟩
    rcases e2 with (q | ⟨o, q⟩) | q
    · exact .inl (.inl (e _ _ q fun us z => by cases z))
    · exact .inl (.inr ⟨o, e _ _ q fun us z => by cases z⟩)
    · exact .inr q
  | .fl xs, v, z, q => by cases z
  | .sl xs, v, z, q => by cases z
  | .ob C ks xs, v, n, q => by
    unfold Rep at *
    obtain ⟨a, dx, us, e1, e2, e4, e3⟩ := q
    exact ⟨a, dx, us, e1, e _ _ e2 (fun us z => by cases z), e4, repL_safe e xs us n e3⟩
  | .ref n, v, z, q => by cases z
  | .exo a d C xs, v, z, q => by cases z
theorem repL_safe (e : ∀ a o, S.Hs a = some o → (∀ us, o ≠ .lst us) → S'.Hs a = some o) : ∀ (ds : List MV) (vs : List V), safeL ds = true → RepL Γ K S ds vs → RepL Γ K S' ds vs
  | [], v, _, q => by unfold RepL at *; exact q
  | d :: ds, v, n, q => by
    unfold RepL at *
    obtain ⟨u, r, e1, e2, e3⟩ := q
    unfold safeL at n
    rw [Bool.and_eq_true] at n
    exact ⟨u, r, e1, rep_safe e d u n.1 e2, repL_safe e ds r n.2 e3⟩
end
end
def fzL (f : MV → Option MV) : List MV → Option (List MV)
  | [] => some []
  | x :: xs => match f x with
    | some y => match fzL f xs with
      | some ys => some (y :: ys)
      | none => none
    | none => none
def fzD : Nat → MH → MV → Option MV
  | 0, _, _ => none
  | k + 1, h, .ref n => match h[n]? with
    | some (.lst xs) => match fzL (fzD k h) xs with
      | some ys => some (.fl ys)
      | none => none
    | _ => none
  | _ + 1, _, v => if noRef v = true then some v else none
def frzG (g : MF) : MF := fun xs h => match fzL (fzD 8 h) xs with
  | some ys => match g ys [] with
    | .ok v _ => if safeV v = true then .ok v h else .stuck
    | _ => .stuck
  | none => .stuck
section
variable {Γ : Gm} {K : PySem.W.Frag} {S : Sh} {H Hf : Hp} {h : MH}
theorem fzL_ok {f : MV → Option MV} {S' : Sh} (k : ∀ v v' u, Rep Γ K S v u → f v = some v' → Rep Γ K S' v' u) : ∀ xs ys us, RepL Γ K S xs us → fzL f xs = some ys → RepL Γ K S' ys us
  | [], ys, us, r, e => by
    unfold fzL at e
    cases e
    unfold RepL at *
    exact r
  | x :: xs, ys, us, r, e => by
    unfold fzL at e
    unfold RepL at r
    obtain ⟨u, us', rfl, r1, r2⟩ := r
    cases e1 : f x with
    | none => rw [e1] at e; cases e
    | some y =>
      rw [e1] at e
      simp only at e
      cases e2 : fzL f xs with
      | none => rw [e2] at e; cases e
      | some zs =>
        rw [e2] at e
        cases e
        unfold RepL
        exact ⟨u, us', rfl, k x y u r1 e1, fzL_ok k xs zs us' r2 e2⟩
theorem fzD_ok (R : Rel Γ K S h H) (hS : ∀ a o, S.Hs a = some o → Hf a = some o) (hT : ∀ (n : Nat) (a : Addr) (xs : List MV), h[n]? = some (Cell.lst xs) → S.ι[n]? = some a → Hf a = H a) : ∀ k v v' u, Rep Γ K S v u → fzD k h v = some v' → Rep Γ K ⟨Hf, []⟩ v' u
  | 0, v, v', u, r, e => by unfold fzD at e; cases e
  | k + 1, v, v', u, r, e => by
    cases v with
    | ref n =>
      unfold fzD at e
      cases e1 : h[n]? with
      | none => rw [e1] at e; cases e
      | some c =>
        rw [e1] at e
        cases c with
        | lst xs =>
          simp only at e
          cases e2 : fzL (fzD k h) xs with
          | none => rw [e2] at e; cases e
          | some ys =>
            rw [e2] at e
            cases e
            unfold Rep at r
            obtain ⟨a, i1, rfl⟩ := r
            obtain ⟨z, us, z1, z2⟩ := R.cell n _ a e1 i1
            unfold Rep
            exact ⟨a, us, rfl, by show Hf a = _; rw [hT n a xs e1 i1]; exact z1, fzL_ok (fzD_ok R hS hT k) xs ys us z2 e2⟩
        | dct _ => cases e
        | dcn _ => cases e
        | ins _ _ _ => cases e
        | dead => cases e
    | _ =>
      unfold fzD at e
      split at e
      · rename_i hn
        cases e
        exact rep_noRef (S' := ⟨Hf, []⟩) hS _ _ hn r
      · cases e
theorem spM_frz {n : Nat} {g : MF} {vs : List V} {Q : VK} {E : XK} (p : spM Γ K n (frzG g) vs H Q E) : spM Γ K n g vs H Q E := by
  obtain ⟨hl, S, h, ds, R, r, p⟩ := p
  refine ⟨hl, ?_⟩
  unfold frzG at p
  split at p
  · rename_i ys hy
    split at p
    · rename_i v h2 hg
      split at p
      · rename_i hsafe
        -- the cells that are taken for frozen
        let live : Addr → Prop := fun a => S.Hs a = none ∧ ∃ (n : Nat) (xs : List MV), S.ι[n]? = some a ∧ h[n]? = some (Cell.lst xs)
        let Hf : Hp := fun a => @ite _ (live a) (Classical.propDecidable _) (H a) (S.Hs a)
        have f1 : ∀ a, live a → Hf a = H a := fun a k => @if_pos _ (Classical.propDecidable _) k _ _ _
        have f2 : ∀ a, ¬ live a → Hf a = S.Hs a := fun a k => @if_neg _ (Classical.propDecidable _) k _ _ _
        have fS : ∀ a o, S.Hs a = some o → Hf a = some o := fun a o e => by
          rw [f2 a fun k => by rw [k.1] at e; cases e]; exact e
        have fT : ∀ (n : Nat) (a : Addr) (xs : List MV), h[n]? = some (Cell.lst xs) → S.ι[n]? = some a → Hf a = H a := fun n a xs e1 e2 => f1 a ⟨(R.cell n _ a e1 e2).1, n, xs, e2, e1⟩
        have fsub : ∀ a o, Hf a = some o → H a = some o := fun a o e => by
          by_cases k : live a
          · rw [f1 a k] at e; exact e
          · rw [f2 a k] at e; exact R.sub a o e
        have flst : ∀ a, live a → ∃ us, H a = some (.lst us) := fun a ⟨_, n, xs, e2, e1⟩ => let ⟨_, us, z, _⟩ := R.cell n _ a e1 e2; ⟨us, z⟩
        refine ⟨⟨Hf, []⟩, [], ys, ⟨fsub, rfl, List.nodup_nil, fun a hm => (nomatch hm), fun n c a e => by simp at e⟩, fzL_ok (fzD_ok R fS fT 8) ds ys vs r hy, ?_⟩
        rw [hg]
        intro S' H' b x R' rb
        let Hs'' : Hp := fun a => @ite _ (live a) (Classical.propDecidable _) none (S'.Hs a)
        have g1 : ∀ a, live a → Hs'' a = none := fun a k => @if_pos _ (Classical.propDecidable _) k _ _ _
        have g2 : ∀ a, ¬ live a → Hs'' a = S'.Hs a := fun a k => @if_neg _ (Classical.propDecidable _) k _ _ _
        have same : ∀ a o, H a = some o → a ∈ S.ι → H' a = some o := fun a o e hm => by
          cases k : Hf a with
          | some o' =>
            have e' := fsub a o' k
            rw [e] at e'
            cases e'
            exact R'.sub a o (x.hs a o k)
          | none => exact (x.fr a o e k (by simp)).1
        have off : ∀ a o, H a = some o → S.Hs a = none → ¬ live a → H' a = some o ∧ S'.Hs a = none := fun a o e z k => by
          have := x.fr a o e (by show Hf a = none; rw [f2 a k]; exact z) (by simp)
          exact ⟨this.1, this.2.1⟩
        have hsx : ∀ a o, S.Hs a = some o → Hs'' a = some o := fun a o e => by
          rw [g2 a fun k => by rw [k.1] at e; cases e]
          exact x.hs a o (fS a o e)
        refine p ⟨Hs'', S.ι⟩ H' b ⟨hsx, fun _ _ e => e, fun a o e z hm => ?_⟩ ⟨fun a o e => ?_, R.len, R.nd, fun a hm => ?_, fun n c a e1 e2 => ?_⟩ ?_
        · have nl : ¬ live a := fun ⟨_, n, xs, e2, _⟩ => hm (List.mem_of_getElem? e2)
          obtain ⟨q1, q2⟩ := off a o e z nl
          exact ⟨q1, by show Hs'' a = none; rw [g2 a nl]; exact q2, hm⟩
        · have e : Hs'' a = some o := e
          by_cases k : live a
          · rw [g1 a k] at e; cases e
          · rw [g2 a k] at e; exact R'.sub a o e
        · obtain ⟨o, e⟩ := R.trk a hm
          exact ⟨o, same a o e hm⟩
        · have hm : a ∈ S.ι := List.mem_of_getElem? e2
          refine (R.cell n c a e1 e2).mono hsx (fun _ _ e => e) (fun z => ?_) (fun o e => same a o e hm)
          show Hs'' a = none
          by_cases k : live a
          · exact g1 a k
          · rw [g2 a k]
            obtain ⟨o, e⟩ := R.trk a hm
            exact (off a o e z k).2
        · refine rep_safe (S := S') (fun a o e hno => ?_) v b hsafe rb
          show Hs'' a = some o
          rw [g2 a fun k => ?_]
          · exact e
          · obtain ⟨us, z⟩ := flst a k
            have q := x.hs a _ ((f1 a k).trans z)
            rw [e] at q
            exact hno us (Option.some.inj q)
      · exact p.elim
    · exact p.elim
  · exact p.elim
theorem CallOk.frz {P : Program} {w : World} {mg : Str → Option Value} {base : Heap} {k n : Nat} {x : Str} {g : MF} (c : CallOk P w K mg base Γ k x n g) : CallOk P w K mg base Γ k x n (frzG g) := by
  obtain ⟨f, fd, ps, h1, h2⟩ := c.ex
  exact ⟨f, fd, ps, h1.imp fun vs H Q E p => spM_frz p, h2⟩
end
end Mn
set_option Elab.async false
set_option linter.all false
set_option maxRecDepth 100000
namespace Ty
open PySem PySem.Spec PyProof.Rows L2 Mn
section
variable {σ : Type} {tb : Nat → Slot σ} {N : Nat} {D D' D0 : List Nat} {α β γ ρ : Type} {e e1 e2 : ME} {ms : MA} {p : σ → X σ α} {q : σ → X σ β} {va : α → MV} {ea : Enc α} {es : EncL β}
end
section
variable {α β : Type} {va : α → MV} {vb : β → MV}
end
section
variable {σ : Type} {tb : Nat → Slot σ} {N : Nat} {D D' D0 : List Nat} {α β γ ρ A : Type} {e e1 e2 : ME} {ms : MA} {ix : Nat}
variable {p : σ → X σ α} {q : σ → X σ β} {va : α → MV} {ea : Enc α} {es : EncL β}
end
section
variable {α β ρ : Type} {ea : Enc α} {es : EncL β} {k l : Nat}
end
section
variable {σ ρ A : Type} {k : ρ → σ → Prop} {e : Str → σ → Prop} {s : σ}
end
end Ty
set_option Elab.async false
set_option linter.all false
set_option maxRecDepth 100000
namespace Ty
open PySem PySem.Spec PyProof.Rows L2 Mn
section
variable {σ ρ : Type} {c : Cx σ ρ} {D D' D0 D1 D2 : List Nat} {α β γ : Type} {p : σ → X σ (List γ)} {e : ME} {ix : Nat} {va : γ → MV}
section
variable {getr : σ → List γ} {putr : σ → List γ → σ} {i ir ixr : Nat} {Dl : List Nat} {m : MS} {b : σ → F σ ρ}
end
end
section
variable {σ ρ γ : Type} {e : Str → σ → Prop} {s : σ} {n : σ → Prop} {r : ρ → σ → Prop} {bk ct : σ → Prop}
end
end Ty
set_option Elab.async false
set_option linter.all false
set_option maxRecDepth 100000
namespace Ty
open PySem PySem.Spec PyProof.Rows L2 Mn
section
variable {β : Type}
end
section
variable {σ ρ : Type} {c : Cx σ ρ} {tb : Nat → Slot σ} {N : Nat} {D D0 : List Nat} {β : Type} {p : σ → X σ β} {e : ME} {ix : Nat} {va : β → MV}
end
section
variable {σ ρ β : Type} {e : Str → σ → Prop} {s : σ} {n : σ → Prop} {r : ρ → σ → Prop} {bk ct : σ → Prop}
end
end Ty
set_option Elab.async false
set_option linter.all false
set_option maxRecDepth 100000
namespace Ty
open PySem PySem.Spec PyProof.Rows L2 Mn
section
variable {σ ρ : Type} {c : Cx σ ρ} {D D' D0 D1 D2 : List Nat} {α β γ θ : Type} {e : ME} {ix j : Nat} {va : γ → MV}
end
section
variable {σ : Type} {tb : Nat → Slot σ} {N : Nat} {D : List Nat} {α : Type} {e : ME} {va : α → MV}
end
section
variable {σ ρ α γ : Type} {e : Str → σ → Prop} {s : σ} {n : σ → Prop} {r : ρ → σ → Prop} {bk ct : σ → Prop}
end
end Ty
set_option Elab.async false
set_option linter.all false
set_option maxRecDepth 100000
namespace Ty
open PySem PySem.Spec PyProof.Rows L2 Mn
section
variable {σ ρ : Type} {c : Cx σ ρ} {D D' D0 D1 D2 : List Nat} {α β γ : Type}
def yBad : σ → F σ ρ := fun _ => .bad
theorem ts_bad {m : MS} : TS c D m (yBad : σ → F σ ρ) D' := fun s env h fp R => trivial
@[irreducible] def yTry2 (b : σ → F σ ρ) (hds : List (List (Str × Bool) × (σ → F σ ρ))) : σ → F σ ρ := fun s => match b s with
  | .exc C [] s' => yHds hds C [] s'
  | .exc _ (_ :: _) _ => .bad
  | o => o
inductive THd2 (c : Cx σ ρ) (De D1 : List Nat) : List Hd → List (List (Str × Bool) × (σ → F σ ρ)) → Prop
  | nil : THd2 c De D1 [] []
  | cons {tab : List (Str × Bool)} {su : MV → MS} {ps : σ → F σ ρ} {l : List Hd} {r : List (List (Str × Bool) × (σ → F σ ρ))} (k : TS c De (su .non) ps D1) (t : THd2 c De D1 l r) : THd2 c De D1 (⟨tab, none, su⟩ :: l) ((tab, ps) :: r)
  | consN {tab : List (Str × Bool)} {i : Nat} {su : MV → MS} {ps : σ → F σ ρ} {l : List Hd} {r : List (List (Str × Bool) × (σ → F σ ρ))} (k : ∀ C, tab.lookup C = some true → TS c De (fun env h => runHds C [] [⟨tab, some i, su⟩] env h) ps D1) (hp : ∀ s C xs s', ps s ≠ .exc C xs s') (t : THd2 c De D1 l r) : THd2 c De D1 (⟨tab, some i, su⟩ :: l) ((tab, ps) :: r)
theorem ts_hds2 {De D1 : List Nat} (hx : subB c.Dx De = true) (C : Str) : ∀ {l : List Hd} {r : List (List (Str × Bool) × (σ → F σ ρ))}, THd2 c De D1 l r → TS c De (runHds C [] l) (yHds r C []) D1
  | _, _, .nil => fun s env h fp R => ⟨env, h, fp, rfl, R.sub (subB_ok hx), Fr.refl, fun n q => .inl (Wn.sub (subB_ok hx) q), Pin.refl⟩
  | _, _, .cons (tab := tab) (su := su) (ps := ps) (l := l) (r := r) k t => fun s env h fp R => by
    have ih := ts_hds2 hx C t s env h fp R
    unfold yHds runHds
    simp only
    cases hl : tab.lookup C with
    | none => trivial
    | some b =>
      cases b with
      | false => exact ih
      | true =>
        simp only
        have z := k s env h fp R
        cases hp : ps s with
        | nx s' => rw [hp] at z; obtain ⟨env', h', fp', e, q⟩ := z; exact ⟨env', h', fp', by rw [e], q⟩
        | bk s' => rw [hp] at z; obtain ⟨env', h', fp', e, q⟩ := z; exact ⟨env', h', fp', by rw [e], q⟩
        | ct s' => rw [hp] at z; obtain ⟨env', h', fp', e, q⟩ := z; exact ⟨env', h', fp', by rw [e], q⟩
        | rt r s' => rw [hp] at z; obtain ⟨v, env', h', f, fp', e, q⟩ := z; exact ⟨v, env', h', f, fp', by rw [e], q⟩
        | exc C xs s' => trivial
        | bad => trivial
  | _, _, .consN (tab := tab) (i := i) (su := su) (ps := ps) (l := l) (r := r) k hn t => fun s env h fp R => by
    have ih := ts_hds2 hx C t s env h fp R
    unfold yHds
    cases hl : tab.lookup C with
    | none => trivial
    | some b =>
      cases b with
      | false =>
        simp only
        have e0 : runHds C [] (⟨tab, some i, su⟩ :: l) env h = runHds C [] l env h := by
          show (match tab.lookup C with
            | some true => _
            | some false => runHds C [] l env h
            | none => _) = _
          rw [hl]
        rw [e0]
        exact ih
      | true =>
        simp only
        have z := k C hl s env h fp R
        have e0 : runHds C [] (⟨tab, some i, su⟩ :: l) env h = runHds C [] [⟨tab, some i, su⟩] env h := by
          unfold runHds
          simp only [hl]
        rw [e0]
        cases hp : ps s with
        | nx s' => rw [hp] at z; exact z
        | bk s' => rw [hp] at z; exact z
        | ct s' => rw [hp] at z; exact z
        | rt r s' => rw [hp] at z; exact z
        | exc C xs s' => trivial
        | bad => trivial
theorem ts_try2 {De : List Nat} {b : MS} {pb : σ → F σ ρ} {hds : List Hd} {r : List (List (Str × Bool) × (σ → F σ ρ))} (kb : TS { c with Dx := De } D b pb D1) (kh : THd2 c De D1 hds r) (hx : subB c.Dx De = true := by rfl) : TS c D (sTry b hds) (yTry2 pb r) D1 := by with_unfolding_all exact (fun s env h fp R => by
  have z := kb s env h fp R
  unfold sTry yTry2
  cases hp : pb s with
  | nx s' => rw [hp] at z; obtain ⟨env', h', fp', e, q⟩ := z; exact ⟨env', h', fp', by rw [e], q⟩
  | bk s' => rw [hp] at z; obtain ⟨env', h', fp', e, q⟩ := z; exact ⟨env', h', fp', by rw [e], q⟩
  | ct s' => rw [hp] at z; obtain ⟨env', h', fp', e, q⟩ := z; exact ⟨env', h', fp', by rw [e], q⟩
  | rt r s' => rw [hp] at z; obtain ⟨v, env', h', f, fp', e, q⟩ := z; exact ⟨v, env', h', f, fp', by rw [e], q⟩
  | exc C xs s' =>
    cases xs with
    | cons x xs => trivial
    | nil =>
      rw [hp] at z
      obtain ⟨env', h', fp', e, R', fr, gr, pn⟩ := z
      exact TS.after (c := c) (m := runHds C [] hds) fr gr pn (by rw [e]) R' (ts_hds2 hx C kh)
  | bad => trivial)
theorem thd_isRet {De D1 : List Nat} {tab tb : List (Str × Bool)} {i : Nat} {mv : MV} {r : ρ} {l : List Hd} {rr : List (List (Str × Bool) × (σ → F σ ρ))} (ht : ∀ C, tab.lookup C = some true → tb.lookup C = some true) (her : ∀ h, (c.er r).r mv h []) (t : THd2 c De D1 l rr) (hr : subB c.Dr De = true := by rfl) (hfar : farB c.tb c.Dr [i] = true := by rfl) (hN : i < c.N := by decide) (hpn : c.pin.contains i = false := by rfl) :
    THd2 c De D1 (⟨tab, some i, fun v => sIf (mT (mIsE i v tb)) (sRet (mC mv)) sNil⟩ :: l) ((tab, yRetC r) :: rr) := by with_unfolding_all exact (.consN (fun C hC s env h fp R => by
  have far := farB_ok hfar
  have one : ∀ a d, (fun v => sIf (mT (mIsE i v tb)) (sRet (mC mv)) sNil) (.exo a d C []) (env.set i (some (.exo a d C []))) h = .ok (.rt mv) (env.set i (some (.exo a d C []))) h := fun a d => by
    have e1 : (env.set i (some (MV.exo a d C [])))[i]? = some (some (.exo a d C [])) := List.getElem?_set_self (by rw [R.len]; exact hN)
    have e2 : mIsE i (.exo a d C []) tb (env.set i (some (.exo a d C []))) h = .ok (.bl true) h := by
      unfold mIsE
      rw [if_pos e1]
      simp only [ht C hC]
    show sIf (mT (mIsE i (.exo a d C []) tb)) (sRet (mC mv)) sNil _ h = _
    unfold sIf mT
    rw [e2]
    rfl
  have wp : ∀ a d, wipeO i ((fun v => sIf (mT (mIsE i v tb)) (sRet (mC mv)) sNil) (.exo a d C []) (env.set i (some (.exo a d C []))) h) = .ok (.rt mv) (env.set i none) h := fun a d => by
    rw [one a d]
    show OutS.ok (.rt mv) ((env.set i (some _)).set i none) h = _
    rw [List.set_set]
  have run : runHds C [] [⟨tab, some i, fun v => sIf (mT (mIsE i v tb)) (sRet (mC mv)) sNil⟩] env h = .ok (.rt mv) (env.set i none) h := by
    unfold runHds
    simp only [hC]
    rw [if_pos fun a d => by rw [wp a d, wp 0 none]]
    exact wp 0 none
  refine ⟨mv, env.set i none, h, [], fp, run, (R.sub (subB_ok hr)).env (List.length_set ..) fun j hj => ?_, her h, List.nodup_nil, (fun n hn => absurd hn (by simp)), Fr.refl, fun n q => ?_, ?_⟩
  · have := far j hj
    rw [List.getElem?_set_ne (fun z => this (by rw [z]; exact List.mem_singleton.mpr rfl))]
  · rcases q with q | q
    · exact .inl (Wn.sub (subB_ok hr) q)
    · cases q
  · exact pin_set hpn) (fun s C xs s' z => by cases z) t)
end
section
variable {σ ρ α β γ A I : Type}
def NX (p : σ → X σ α) : Prop := ∀ s C xs s', p s = .exc C xs s' → xs = []
def NF (p : σ → F σ ρ) : Prop := ∀ s C xs s', p s = .exc C xs s' → xs = []
theorem nx_bind {x : X σ α} {f : α → σ → X σ β} (h : ∀ C xs s', x = .exc C xs s' → xs = []) (k : ∀ a s C xs s', f a s = .exc C xs s' → xs = []) : ∀ C xs s', x.bind f = .exc C xs s' → xs = [] := fun C xs s' e => by
  cases hx : x with
  | ok a s => rw [hx] at e; exact k a s C xs s' e
  | exc D ys s => rw [hx] at e; cases e; exact h _ _ _ hx
  | bad => rw [hx] at e; cases e
theorem nf_toF {x : X σ α} {f : α → σ → F σ ρ} (h : ∀ C xs s', x = .exc C xs s' → xs = []) (k : ∀ a s C xs s', f a s = .exc C xs s' → xs = []) : ∀ C xs s', x.toF f = .exc C xs s' → xs = [] := fun C xs s' e => by
  cases hx : x with
  | ok a s => rw [hx] at e; exact k a s C xs s' e
  | exc D ys s => rw [hx] at e; cases e; exact h _ _ _ hx
  | bad => rw [hx] at e; cases e
theorem nx_C {a : α} : NX (xC a : σ → X σ α) := by with_unfolding_all exact (fun s C xs s' e => by cases e)
theorem nx_V {g : σ → α} : NX (xV g) := by with_unfolding_all exact (fun s C xs s' e => by cases e)
theorem nx_N : NX (xN : σ → X σ Unit) := by with_unfolding_all exact (fun s C xs s' e => by cases e)
theorem nx_1 {g : α → β} {p : σ → X σ α} (h : NX p) : NX (x1 g p) := by with_unfolding_all exact (fun s => nx_bind (h s) fun a s C xs s' e => by cases e)
theorem nx_2 {g : α → β → γ} {p : σ → X σ α} {q : σ → X σ β} (h : NX p) (k : NX q) : NX (x2 g p q) := by with_unfolding_all exact (fun s => nx_bind (h s) fun a s => nx_bind (k s) fun b s C xs s' e => by cases e)
theorem nx_Cs {p : σ → X σ α} {q : σ → X σ β} (h : NX p) (k : NX q) : NX (xCs p q) := by with_unfolding_all exact (fun s => nx_bind (h s) fun a s => nx_bind (k s) fun b s C xs s' e => by cases e)
theorem nx_And {p q : σ → X σ Bool} (h : NX p) (k : NX q) : NX (xAnd p q) := by with_unfolding_all exact (fun s => nx_bind (h s) fun a s C xs s' e => by
  by_cases c : a = true
  · rw [if_pos c] at e; exact k _ _ _ _ e
  · rw [if_neg c] at e; cases e)
theorem nx_Not {p : σ → X σ Bool} (h : NX p) : NX (xNot p) := by with_unfolding_all exact (fun s => nx_bind (h s) fun a s C xs s' e => by cases e)
theorem nx_Call {fn : I → A → X I ρ} {get : σ → I} {put : σ → I → σ} {p : σ → X σ A} (hf : ∀ i a C xs s', fn i a = .exc C xs s' → xs = []) (h : NX p) : NX (xCall fn get put p) := by with_unfolding_all exact (fun s => nx_bind (h s) fun a s C xs s' e => by
  cases hx : fn (get s) a with
  | ok r i => rw [hx] at e; cases e
  | exc D ys i => rw [hx] at e; cases e; exact hf _ _ _ _ _ hx
  | bad => rw [hx] at e; cases e)
theorem nx_Make {fn : A → X Unit α} {p : σ → X σ A} (hf : ∀ a C xs s', fn a = .exc C xs s' → xs = []) (h : NX p) : NX (xMake fn p) := by with_unfolding_all exact (fun s => nx_bind (h s) fun a s C xs s' e => by
  cases hx : fn a with
  | ok r i => rw [hx] at e; cases e
  | exc D ys i => rw [hx] at e; cases e; exact hf _ _ _ _ hx
  | bad => rw [hx] at e; cases e)
theorem nx_Comp {pi : σ → X σ (List α)} {st : σ → α → σ} {pt : σ → X σ Bool} {pe : σ → X σ β} (h : NX pi) : NX (xComp pi st pt pe) := by with_unfolding_all exact (fun s => nx_bind (h s) fun a s C xs s' e => by
  cases hx : xCompL st pt pe a [] s with
  | none => rw [hx] at e; cases e
  | some r => rw [hx] at e; cases e)
theorem nf_Nil : NF (yNil : σ → F σ ρ) := by with_unfolding_all exact (fun s C xs s' e => by cases e)
theorem nf_Raise {D : Str} : NF (yRaise D : σ → F σ ρ) := by with_unfolding_all exact (fun s C xs s' e => by cases e; rfl)
theorem nf_Set {st : σ → α → σ} {p : σ → X σ α} (h : NX p) : NF (ySet st p : σ → F σ ρ) := by with_unfolding_all exact (fun s => nf_toF (h s) fun a s C xs s' e => by cases e)
theorem nf_Ret {p : σ → X σ ρ} (h : NX p) : NF (yRet p) := by with_unfolding_all exact (fun s => nf_toF (h s) fun a s C xs s' e => by cases e)
theorem nf_If {t : σ → X σ Bool} {p q : σ → F σ ρ} (h : NX t) (k : NF p) (l : NF q) : NF (yIf t p q) := by with_unfolding_all exact (fun s => nf_toF (h s) fun a s C xs s' e => by
  by_cases c : a = true
  · rw [if_pos c] at e; exact k _ _ _ _ e
  · rw [if_neg c] at e; exact l _ _ _ _ e)
theorem nf_Seq {p q : σ → F σ ρ} (h : NF p) (k : NF q) : NF (ySeq p q) := by with_unfolding_all exact (fun s C xs s' e => by
  have e : (p s).bind q = .exc C xs s' := e
  cases hp : p s with
  | nx s1 => rw [hp] at e; exact k _ _ _ _ e
  | exc D ys s1 => rw [hp] at e; cases e; exact h _ _ _ _ hp
  | bk s1 => rw [hp] at e; cases e
  | ct s1 => rw [hp] at e; cases e
  | rt r s1 => rw [hp] at e; cases e
  | bad => rw [hp] at e; cases e)
theorem nf_ForL {st : σ → α → σ} {b : σ → F σ ρ} (k : NF b) : ∀ (l : List α) s C xs s', yForL st b l s = .exc C xs s' → xs = []
  | [], s, C, xs, s', e => by cases e
  | x :: l, s, C, xs, s', e => by
    unfold yForL at e
    cases hb : b (st s x) with
    | nx s1 => rw [hb] at e; exact nf_ForL k l _ _ _ _ e
    | ct s1 => rw [hb] at e; exact nf_ForL k l _ _ _ _ e
    | exc D ys s1 => rw [hb] at e; cases e; exact k _ _ _ _ hb
    | bk s1 => rw [hb] at e; cases e
    | rt r s1 => rw [hb] at e; cases e
    | bad => rw [hb] at e; cases e
theorem nf_For {p : σ → X σ (List α)} {st : σ → α → σ} {b : σ → F σ ρ} (h : NX p) (k : NF b) : NF (yFor p st b) := by with_unfolding_all exact (fun s => nf_toF (h s) fun a s => nf_ForL k a s)
theorem nx_Run {init : I → A → σ} {out : σ → I} {d : Option ρ} {b : σ → F σ ρ} (h : NF b) : ∀ i a C xs s', yRun init out d b i a = .exc C xs s' → xs = [] := fun i a C xs s' e => by
  unfold yRun at e
  cases hb : b (init i a) with
  | nx s1 =>
    simp only [hb] at e
    cases d <;> cases e
  | ct s1 => simp only [hb] at e; cases e
  | exc D ys s1 => simp only [hb] at e; cases e; exact h _ _ _ _ hb
  | bk s1 => simp only [hb] at e; cases e
  | rt r s1 => simp only [hb] at e; cases e
  | bad => simp only [hb] at e; cases e
theorem nx_Init {init : A → σ} {out : σ → α} {b : σ → F σ Unit} (h : NF b) : ∀ a C xs s', yInit init out b a = .exc C xs s' → xs = [] := by with_unfolding_all exact (fun a C xs s' e => by
  have e : (match b (init a) with
    | .nx s => X.ok (out s) ()
    | .exc C xs _ => .exc C xs ()
    | _ => .bad) = .exc C xs s' := e
  cases hb : b (init a) with
  | nx s1 => rw [hb] at e; cases e
  | ct s1 => rw [hb] at e; cases e
  | exc D ys s1 => rw [hb] at e; cases e; exact h _ _ _ _ hb
  | bk s1 => rw [hb] at e; cases e
  | rt r s1 => rw [hb] at e; cases e
  | bad => rw [hb] at e; cases e)
end
section
variable {σ ρ : Type} {e : Str → σ → Prop} {s : σ} {n : σ → Prop} {r : ρ → σ → Prop} {bk ct : σ → Prop}
theorem yTry2_eq {b : σ → F σ ρ} {hds : List (List (Str × Bool) × (σ → F σ ρ))} (h : NF b) : yTry2 b hds s = yTry b hds s := by
  unfold yTry2 yTry
  cases hb : b s with
  | exc C xs s1 => rw [h _ _ _ _ hb]
  | _ => rfl
theorem Po_yTry2 {b : σ → F σ ρ} {hds : List (List (Str × Bool) × (σ → F σ ρ))} (h : NF b) : Po (yTry2 b hds s) n r bk ct e = Po (yTry b hds s) n r bk ct e := by rw [yTry2_eq h]
end
end Ty
set_option Elab.async false
set_option linter.all false
set_option maxRecDepth 100000
namespace Ty
open PySem PySem.Spec PyProof.Rows L2 Mn
end Ty
set_option Elab.async false
set_option linter.all false
set_option maxRecDepth 100000
namespace Ty
open PySem PySem.Spec PyProof.Rows L2 Mn
section
variable {σ ρ : Type} {tb : Nat → Slot σ} {N : Nat} {D : List Nat} {α : Type} {e : ME} {p : σ → X σ (List α)} {va : α → MV}
end
end Ty
set_option Elab.async false
set_option linter.all false
set_option maxRecDepth 100000
namespace Ty
open PySem PySem.Spec PyProof.Rows L2 Mn
def LR : List Pr → List MV → MH → List Nat → Prop
  | [], us, _, fp => us = [] ∧ fp = []
  | p :: ps, us, h, fp => ∃ u us' f1 f2, us = u :: us' ∧ p.r u h f1 ∧ LR ps us' h f2 ∧ fp = f1 ++ f2
theorem LR.frame : ∀ {ps : List Pr} {us : List MV} {h h' : MH} {fp : List Nat}, LR ps us h fp → (∀ n ∈ fp, h'[n]? = h[n]?) → LR ps us h' fp
  | [], _, _, _, _, q, _ => q
  | p :: ps, _, _, _, _, ⟨u, us', f1, f2, e1, q1, q2, e2⟩, k => by
    subst e2
    exact ⟨u, us', f1, f2, e1, p.frame q1 (fun n hn => k n (List.mem_append_left _ hn)), q2.frame (fun n hn => k n (List.mem_append_right _ hn)), rfl⟩
theorem LR.dom : ∀ {ps : List Pr} {us : List MV} {h : MH} {fp : List Nat}, LR ps us h fp → ∀ n ∈ fp, n < h.length
  | [], _, _, _, q, n, hn => by rw [q.2] at hn; cases hn
  | p :: ps, _, _, _, ⟨u, us', f1, f2, e1, q1, q2, e2⟩, n, hn => by
    subst e2
    rcases List.mem_append.mp hn with hn | hn
    · exact p.dom q1 n hn
    · exact q2.dom n hn
theorem LR.len : ∀ {ps : List Pr} {us : List MV} {h : MH} {fp : List Nat}, LR ps us h fp → us.length = ps.length
  | [], _, _, _, q => by rw [q.1]; rfl
  | p :: ps, _, _, _, ⟨u, us', f1, f2, e1, q1, q2, e2⟩ => by rw [e1, List.length_cons, q2.len, List.length_cons]
theorem LR.at : ∀ {ps : List Pr} {us : List MV} {h : MH} {f : List Nat} {j : Nat} {p : Pr}, LR ps us h f → f.Nodup → ps[j]? = some p → ∃ u f1, us[j]? = some u ∧ p.r u h f1 ∧ f1.Nodup ∧ (∀ x ∈ f1, x ∈ f) ∧
    ∀ u' h' p' f1', p'.r u' h' f1' → f1'.Nodup → (∀ x ∈ f1', x ∈ f1 ∨ x ∉ f) → (∀ n ∈ f, n ∉ f1 → h'[n]? = h[n]?) → ∃ f', LR (ps.set j p') (us.set j u') h' f' ∧ f'.Nodup ∧ ∀ x, x ∈ f' → (x ∈ f ∧ x ∉ f1) ∨ x ∈ f1'
  | [], _, _, _, j, p, _, _, e => by simp at e
  | q :: ps, _, h, _, 0, p, ⟨u, us', f1, f2, e1, q1, q2, e2⟩, nd, e => by
    subst e1 e2
    simp only [List.getElem?_cons_zero, Option.some.injEq] at e
    subst e
    obtain ⟨n1, n2, n3⟩ := List.nodup_append.mp nd
    refine ⟨u, f1, rfl, q1, n1, fun x hx => List.mem_append_left _ hx, fun u' h' p' f1' r' nd' hx hk => ?_⟩
    refine ⟨f1' ++ f2, ⟨u', us', f1', f2, rfl, r', q2.frame fun n hn => hk n (List.mem_append_right _ hn) (fun z => n3 n z n hn rfl), rfl⟩, ?_, fun x hx => ?_⟩
    · refine List.nodup_append.mpr ⟨nd', n2, fun a ha b hb e => ?_⟩
      subst e
      rcases hx a ha with z | z
      · exact n3 a z a hb rfl
      · exact z (List.mem_append_right _ hb)
    · rcases List.mem_append.mp hx with hx | hx
      · exact .inr hx
      · exact .inl ⟨List.mem_append_right _ hx, fun z => n3 x z x hx rfl⟩
  | q :: ps, _, h, _, j + 1, p, ⟨u, us', f1, f2, e1, q1, q2, e2⟩, nd, e => by
    subst e1 e2
    obtain ⟨n1, n2, n3⟩ := List.nodup_append.mp nd
    obtain ⟨w, g1, a1, a2, a3, a4, a5⟩ := LR.at q2 n2 (by simpa using e)
    refine ⟨w, g1, by simpa using a1, a2, a3, fun x hx => List.mem_append_right _ (a4 x hx), fun u' h' p' f1' r' nd' hx hk => ?_⟩
    obtain ⟨f', b1, b2, b3⟩ := a5 u' h' p' f1' r' nd' (fun x hx' => (hx x hx').imp id fun z y => z (List.mem_append_right _ y)) (fun n hn hn' => hk n (List.mem_append_right _ hn) hn')
    refine ⟨f1 ++ f', ⟨u, us'.set j u', f1, f', rfl, q.frame q1 fun n hn => hk n (List.mem_append_left _ hn) (fun z => n3 n hn n (a4 n z) rfl), b1, rfl⟩, ?_, fun x hx => ?_⟩
    · refine List.nodup_append.mpr ⟨n1, b2, fun a ha b hb e => ?_⟩
      subst e
      rcases b3 a hb with z | z
      · exact n3 a ha a z.1 rfl
      · rcases hx a z with y | y
        · exact n3 a ha a (a4 a y) rfl
        · exact y (List.mem_append_left _ ha)
    · rcases List.mem_append.mp hx with hx | hx
      · exact .inl ⟨List.mem_append_left _ hx, fun z => n3 x hx x (a4 x z) rfl⟩
      · rcases b3 x hx with z | z
        · exact .inl ⟨List.mem_append_right _ z.1, z.2⟩
        · exact .inr z
theorem LR.snoc : ∀ {ps : List Pr} {us : List MV} {h : MH} {f g : List Nat} {p : Pr} {u : MV}, LR ps us h f → p.r u h g → ∃ f', LR (ps ++ [p]) (us ++ [u]) h f' ∧ f' = f ++ g
  | [], _, h, _, g, p, u, q, r => by
    obtain ⟨rfl, rfl⟩ := q
    exact ⟨g, ⟨u, [], g, [], rfl, r, ⟨rfl, rfl⟩, by simp⟩, rfl⟩
  | p0 :: ps, _, h, _, g, p, u, ⟨w, us', f1, f2, e1, q1, q2, e2⟩, r => by
    subst e1 e2
    obtain ⟨f', a1, rfl⟩ := q2.snoc r
    exact ⟨f1 ++ (f2 ++ g), ⟨w, us' ++ [u], f1, f2 ++ g, rfl, q1, a1, rfl⟩, by simp⟩
section
variable {σ ρ : Type} {tb : Nat → Slot σ} {N : Nat} {D D0 : List Nat} {α β γ : Type} {m mo e ej : ME} {ms : MA} {get : σ → α} {put : σ → α → σ} {en : Enc α} {i ix : Nat} {va : α → MV} {vb : β → MV} {vc : γ → MV} {C : Str} {ks : List Str}
end
end Ty
set_option Elab.async false
set_option linter.all false
set_option maxRecDepth 100000
namespace Ty
open PySem PySem.Spec PyProof.Rows L2 Mn
section
variable {κ β α : Type} [DecidableEq κ]
end
structure KN {κ : Type} (d : Nat) (vk : κ → MV) : Prop where
  ex : ∀ k, ∃ q, keyN (vk k) = some q ∧ q.depth ≤ d
  inj : ∀ a b, keyN (vk a) = keyN (vk b) → a = b
section
variable {κ α β γ δ : Type} {d d1 d2 d3 d4 : Nat} {va : α → MV} {vb : β → MV} {vc : γ → MV} {vd : δ → MV}
variable {ε ζ : Type} {ve : ε → MV} {vf : ζ → MV}
end
structure KTp {κ : Type} (vk : κ → MV) : Prop where
  tup : ∀ k, isTupM (vk k) = true
  kn : KN 8 vk
section
variable {κ α β : Type} [DecidableEq κ] {vk : κ → MV} {va : β → MV}
theorem KTp.key (K : KTp vk) (k : κ) : ∃ q, keyT (vk k) = some q ∧ keyN (vk k) = some q := by
  obtain ⟨q, e, z⟩ := K.kn.ex k
  exact ⟨q, by unfold keyT; rw [if_pos (K.tup k), e]; simp only; rw [if_pos z], e⟩
theorem KTp.eq (K : KTp vk) {a b : κ} {q : NestedKey} (e : keyN (vk b) = some q) : keyN (vk a) = some q ↔ a = b := ⟨fun h => K.kn.inj _ _ (by rw [h, e]), fun h => by rw [h, e]⟩
end
section
variable {σ ρ : Type} {c : Cx σ ρ} {tb : Nat → Slot σ} {N : Nat} {D D0 D' : List Nat} {κ α β γ : Type} [DecidableEq κ] {p : σ → X σ β} {e ej mo : ME} {ms : MA} {ix : Nat} {vk : κ → MV} {va : β → MV} {vc : γ → MV}
end
section
variable {σ ρ β κ : Type} [DecidableEq κ] {e : Str → σ → Prop} {s : σ} {n : σ → Prop} {r : ρ → σ → Prop} {bk ct : σ → Prop}
end
end Ty
set_option Elab.async false
set_option linter.all false
set_option maxRecDepth 100000
namespace Ty
open PySem PySem.Spec PyProof.Rows L2 Mn
section
variable {σ ρ : Type} {tb : Nat → Slot σ} {N : Nat} {D D0 D1 D' : List Nat} {α β γ A I : Type} {m mo e : ME} {ms : MA} {get : σ → α} {put : σ → α → σ} {en : Enc α} {i ix n : Nat} {va : α → MV} {vb : β → MV} {vc : γ → MV} {C nm : Str} {ks : List Str} {mf : MF} {er : Enc ρ} {q : σ → X σ A}
end
section
variable {σ ρ : Type} {c : Cx σ ρ} {D D0 D1 : List Nat} {α β : Type} {e m : ME} {get : σ → α} {put : σ → α → σ} {p : σ → X σ β} {eb : Enc β} {ix jx : Nat} {C x : Str} {ks : List Str} {st : σ → β → σ}
end
section
variable {σ : Type} {tb : Nat → Slot σ} {N : Nat} {D D1 : List Nat} {A α β ρ : Type} {ms : MA} {p : σ → X σ A} {vs : A → List MV} {en : Enc α} {vo va : α → MV} {vb : β → MV} {e : ME} {st : σ → α → σ}
end
end Ty
set_option Elab.async false
set_option linter.all false
set_option maxRecDepth 100000
namespace Ty
open PySem PySem.Spec PyProof.Rows L2 Mn
section
variable {κ β : Type} [DecidableEq κ] {vk : κ → MV} {va : β → MV}
end
section
variable {σ : Type} {tb : Nat → Slot σ} {N : Nat} {D : List Nat} {κ β : Type} [DecidableEq κ] {vk : κ → MV} {va : β → MV} {ek ev : ME} {p : σ → X σ κ} {pi : σ → X σ Int} {q : σ → X σ β}
end
section
variable {σ : Type} {tb : Nat → Slot σ} {N : Nat} {D : List Nat}
end
section
variable {α : Type} [DecidableEq α] {va : α → MV} {da : α → PyData} {k : Nat}
end
end Ty
set_option Elab.async false
set_option linter.all false
set_option maxRecDepth 100000
namespace Ty
open PySem PySem.Spec PyProof.Rows L2 Mn
variable {σ α β : Type} {tb : Nat → Slot σ} {N : Nat} {D : List Nat} {e : ME} {va : α → MV} {vb : β → MV}
end Ty
set_option Elab.async false
set_option linter.all false
set_option maxRecDepth 100000
namespace Ty
open PySem PySem.Spec PyProof.Rows L2 Mn
variable {σ α β : Type} {tb : Nat → Slot σ} {N : Nat} {D : List Nat} {e : ME} {va : α → MV} {vb : β → MV}
@[irreducible] def gSIx (z : Str) (i : Int) : Option Str := if z.length ≤ sizeLine then (match atI z.cps.toList i with
    | some c => some ⟨#[c]⟩
    | none => none) else none
theorem o_six : Op2 fIx gSIx .str .int .str := fun z i c h e => by
  unfold gSIx at e
  unfold fIx
  simp only
  split at e
  · rename_i k
    rw [if_pos k]
    split at e
    · rename_i c hc
      cases e
      first
        | rw [hc]
        | rfl
    · cases e
  · cases e
@[irreducible] def gSCat (x y : Str) : Option Str := if x.length + y.length ≤ sizeLine then some (x ++ y) else none
theorem o_scat {b : Bool} : Op2 (fAdd b) gSCat .str .str .str := fun x y c h e => by
  unfold gSCat at e
  split at e
  · rename_i k
    cases e
    show (if x.length + y.length ≤ sizeLine then Out.ok (MV.str (x ++ y)) h else Out.stuck) = _
    rw [if_pos k]
  · cases e
@[irreducible] def gJoin (a : Str) (ys : List Str) : Option Str := if joinSz a ys = true then some (Txt.join a ys) else none
theorem o_joinF {a : Str} : Op1 (fJoinC a) (gJoin a) (lV MV.str) .str := fun ys c h e => by
  unfold gJoin at e
  unfold fJoinC fJoin
  simp only
  show (match strsOf (ys.map MV.str) with
      | some ys => if joinSz a ys = true then (Out.ok (MV.str (Txt.join a ys)) h : Out MV) else .stuck
      | none => .stuck) = _
  rw [strsOf_map]
  simp only
  split at e
  · rename_i k
    cases e
    rw [if_pos k]
  · cases e
theorem tx_join {a : Str} {p : σ → X σ (List Str)} (k : TX tb N D e p (fz (lV MV.str))) : TX tb N D (mM "str" fJoin (mC (.str a)) (maC e maN)) (x1o (gJoin a) p) (fz .str) := by
  rw [mM_join]
  exact tx_1o o_joinF k
end Ty
set_option Elab.async false
set_option linter.all false
set_option maxRecDepth 100000
namespace Ty
open PySem PySem.Spec PyProof.Rows L2 Mn
inductive Dy where
  | int (i : Int) | str (s : Str) | tup (xs : List Dy)
deriving Inhabited
section
variable {σ α β : Type} {tb : Nat → Slot σ} {N : Nat} {D : List Nat} {e : ME} {va : α → MV} {vb : β → MV} {p : σ → X σ α}
end
end Ty
set_option Elab.async false
set_option linter.all false
set_option maxRecDepth 100000
namespace Ty
open PySem PySem.Spec PyProof.Rows L2 Mn
structure KI {κ : Type} (vk : κ → MV) : Prop where
  ex : ∀ k, ∃ q, keyV (vk k) = some q
  inj : ∀ a b, keyV (vk a) = keyV (vk b) → a = b
section
variable {κ α β : Type} [DecidableEq κ] {vk : κ → MV} {va : β → MV}
theorem KI.eq (K : KI vk) {a b : κ} {q : Key} (e : keyV (vk b) = some q) : keyV (vk a) = some q ↔ a = b := ⟨fun h => K.inj _ _ (by rw [h, e]), fun h => by rw [h, e]⟩
end
section
variable {σ ρ : Type} {c : Cx σ ρ} {tb : Nat → Slot σ} {N : Nat} {D D0 D' : List Nat} {κ α β γ : Type} [DecidableEq κ] {p : σ → X σ β} {e ej mo : ME} {ms : MA} {ix : Nat} {vk : κ → MV} {va : β → MV} {vc : γ → MV}
end
section
variable {β : Type} {va : β → MV}
end
end Ty
set_option Elab.async false
set_option linter.all false
set_option maxRecDepth 100000
namespace Ty
open PySem PySem.Spec PyProof.Rows L2 Mn
section
variable {σ ρ : Type} {tb : Nat → Slot σ} {N : Nat} {D D0 : List Nat} {α β γ δ : Type} {m mo e e2 : ME} {ms : MA} {va : α → MV} {vb : β → MV} {vd : δ → MV}
end
end Ty
set_option Elab.async false
set_option linter.all false
set_option maxRecDepth 100000
namespace Ty
open PySem PySem.Spec PyProof.Rows L2 Mn
mutual
def decDy : (a b : Dy) → Decidable (a = b)
  | .int i, .int j => if h : i = j then .isTrue (by rw [h]) else .isFalse (by intro e; cases e; exact h rfl)
  | .str i, .str j => if h : i = j then .isTrue (by rw [h]) else .isFalse (by intro e; cases e; exact h rfl)
  | .tup xs, .tup ys => match decDyL xs ys with
    | .isTrue h => .isTrue (by rw [h])
    | .isFalse h => .isFalse (by intro e; cases e; exact h rfl)
  | .int _, .str _ => .isFalse (by intro e; cases e)
  | .int _, .tup _ => .isFalse (by intro e; cases e)
  | .str _, .int _ => .isFalse (by intro e; cases e)
  | .str _, .tup _ => .isFalse (by intro e; cases e)
  | .tup _, .int _ => .isFalse (by intro e; cases e)
  | .tup _, .str _ => .isFalse (by intro e; cases e)
def decDyL : (a b : List Dy) → Decidable (a = b)
  | [], [] => .isTrue rfl
  | [], _ :: _ => .isFalse (by intro e; cases e)
  | _ :: _, [] => .isFalse (by intro e; cases e)
  | x :: xs, y :: ys => match decDy x y, decDyL xs ys with
    | .isTrue h1, .isTrue h2 => .isTrue (by rw [h1, h2])
    | .isFalse h1, _ => .isFalse (by intro e; cases e; exact h1 rfl)
    | _, .isFalse h2 => .isFalse (by intro e; cases e; exact h2 rfl)
end
instance : DecidableEq Dy := decDy
structure DtP {α : Type} [DecidableEq α] (va : α → MV) (d : α → PyData) (k : Nat) (ok : α → Bool) : Prop where
  to : ∀ r a, toD r (va a) = some (d a)
  lay : ∀ a, ok a = true → (d a).canLay0 = true ∧ (d a).depth ≤ k
  eq : ∀ a b, PyData.eqv (d a) (d b) = decide (a = b)
def DtRP {α : Type} (ea : Enc α) (d : α → PyData) (k : Nat) (ok : α → Bool) : Prop := ∀ a v h f, (ea a).r v h f → dataOf h v = some (d a) ∧ (ok a = true → (d a).canLay0 = true ∧ (d a).depth ≤ k)
@[reducible] def okS (x : Str) : Bool := PyData.strOk x
section
variable {α β γ : Type} [DecidableEq α] [DecidableEq β] [DecidableEq γ] {va : α → MV} {vb : β → MV} {vc : γ → MV} {da : α → PyData} {db : β → PyData} {dc : γ → PyData} {k l m : Nat} {oa : α → Bool} {ob : β → Bool} {oc : γ → Bool}
theorem dtp_str : DtP MV.str PyData.str 1 okS := ⟨fun _ _ => rfl, fun a h => ⟨by simpa [PyData.canLay0] using h, by simp [PyData.depth]⟩, fun a b => by unfold PyData.eqv; rw [Bool.beq_eq_decide_eq]⟩
theorem DtP.toL (q : DtP va da k oa) (r : Nat → Option PyData) : ∀ xs : List α, toDL r (xs.map va) = some (xs.map da)
  | [] => rfl
  | x :: xs => by
    show (match toD r (va x), toDL r (xs.map va) with | some d, some ds => some (d :: ds) | _, _ => none) = _
    rw [q.to, q.toL r xs]; rfl
theorem DtP.layL (q : DtP va da k oa) : ∀ xs : List α, xs.all oa = true → PyData.canLayAll0 (xs.map da) = true ∧ PyData.depthAll (xs.map da) ≤ k
  | [], _ => by simp [PyData.canLayAll0, PyData.depthAll]
  | x :: xs, h => by
    simp only [List.all_cons, Bool.and_eq_true] at h
    obtain ⟨a1, a2⟩ := q.lay x h.1
    obtain ⟨b1, b2⟩ := q.layL xs h.2
    rw [List.map_cons]; unfold PyData.canLayAll0 PyData.depthAll
    exact ⟨by rw [a1, b1]; rfl, Nat.max_le.mpr ⟨a2, b2⟩⟩
theorem DtP.eqL (q : DtP va da k oa) : ∀ xs ys : List α, PyData.eqvAll (xs.map da) (ys.map da) = decide (xs = ys)
  | [], [] => by simp [PyData.eqvAll]
  | [], _ :: _ => by simp [PyData.eqvAll]
  | _ :: _, [] => by simp [PyData.eqvAll]
  | x :: xs, y :: ys => by
    rw [List.map_cons, List.map_cons]; unfold PyData.eqvAll
    rw [q.eq, q.eqL xs ys]
    by_cases h : x = y <;> by_cases h2 : xs = ys <;> simp [h, h2]
theorem DtP.rd (q : DtP va da k oa) : DtRP (fz va) da k oa := fun a v h f r => ⟨by rw [r.1]; exact q.to _ a, q.lay a⟩
@[reducible] def gEqP (ok : α → Bool) (neg : Bool) (a b : α) : Option Bool := if ok a = true ∧ ok b = true then some (if neg = true then !decide (a = b) else decide (a = b)) else none
theorem o_eqPR {ea eb : Enc α} (h1 : DtRP ea da k oa) (h2 : DtRP eb da l oa) (q : ∀ a b, PyData.eqv (da a) (da b) = decide (a = b)) (hk : k ≤ 64 := by decide) (hl : l ≤ 64 := by decide) {neg : Bool} : Rd2 (fEq neg) (gEqP oa neg) ea eb .bl := fun a b c u v f1 f2 h r1 r2 e => by
  unfold gEqP at e
  split at e
  · rename_i hh
    cases e
    obtain ⟨a1, a2⟩ := h1 a u h f1 r1
    obtain ⟨b1, b2⟩ := h2 b v h f2 r2
    obtain ⟨a3, a4⟩ := a2 hh.1
    obtain ⟨b3, b4⟩ := b2 hh.2
    cases neg with
    | true => rw [f_neD a1 b1 (sh_of a3 a4 hk) (sh_of b3 b4 hl), q]; rfl
    | false => rw [f_eqD a1 b1 (sh_of a3 a4 hk) (sh_of b3 b4 hl), q]; rfl
  · cases e
theorem o_eqP (q : DtP va da k oa) (hk : k ≤ 64 := by decide) {neg : Bool} : Op2 (fEq neg) (gEqP oa neg) va va .bl := fun a b c h e => o_eqPR q.rd q.rd q.eq hk hk a b c _ _ [] [] h ⟨rfl, rfl⟩ ⟨rfl, rfl⟩ e
end
end Ty
set_option Elab.async false
set_option linter.all false
set_option maxRecDepth 100000
namespace Ty
open PySem PySem.Spec PyProof.Rows L2 Mn
section
variable {σ ρ : Type} {c : Cx σ ρ} {D D1 D2 : List Nat} {α β : Type} {e m : ME} {p : σ → X σ α} {va : α → MV} {vb : β → MV} {st : σ → α → σ} {tab : CTab} {x : Str}
end
end Ty
namespace Ty
open PySem PySem.Spec PyProof.Rows L2 Mn
section
variable {σ : Type} {tb : Nat → Slot σ} {N : Nat} {D : List Nat} {α : Type} {e : ME} {va : α → MV}
end
end Ty
namespace Ty
open PySem PySem.Spec PyProof.Rows L2 Mn
section
variable {σ ρ : Type} {c : Cx σ ρ} {D D0 : List Nat} {α : Type} {e e2 : ME} {p : σ → X σ α} {va : α → MV} {ix : Nat}
end
end Ty
set_option Elab.async false
set_option linter.all false
set_option maxRecDepth 100000
namespace Ty
open PySem PySem.Spec PyProof.Rows L2 Mn
section
variable {σ ρ α : Type} {c : Cx σ ρ} {D D0 D' : List Nat} {va : α → MV} {ix jx : Nat}
end
section
variable {σ ρ α : Type} {c : Cx σ ρ} {D D0 : List Nat} {ix jx : Nat}
end
end Ty
set_option Elab.async false
set_option linter.all false
set_option maxRecDepth 100000
set_option maxHeartbeats 4000000
namespace Ty
open PySem PySem.Spec PyProof.Rows L2 Mn
section
variable {σ ρ α β θ : Type} {c : Cx σ ρ} {D Dl D1 D2 : List Nat} {i ix : Nat} {va : α → MV} {st : σ → α → σ} {pa : σ → F σ ρ} {g : MG} {m : MS} {me : ME} {get : σ → List α} {put0 : σ → List α → σ} {geti : σ → θ} {puti : σ → θ → σ} {ei : Enc θ}
end
section
variable {σ α β : Type} {tb : Nat → Slot σ} {N : Nat} {D D1 : List Nat} {va : α → MV} {vb : β → MV} {st : σ → α → σ} {g : MG} {me : ME} {get : σ → List α} {vs : List Nat}
end
section
variable {σ : Type} {tb : Nat → Slot σ} {N : Nat} {D : List Nat}
end
end Ty
set_option Elab.async false
set_option linter.all false
set_option maxRecDepth 100000
set_option maxHeartbeats 4000000
namespace Ty
open PySem PySem.Spec PyProof.Rows L2 Mn
inductive Db where
  | bl (b : Bool) | pr (x y : Str)
deriving DecidableEq, Inhabited
section
variable {σ ρ : Type} {tb : Nat → Slot σ} {N : Nat} {D D0 D1 D' : List Nat} {α β γ A I : Type} {m mo e : ME} {ms : MA} {get : σ → α} {put : σ → α → σ} {en : Enc α} {i ix n : Nat} {va : α → MV} {vb : β → MV} {vc : γ → MV} {C nm : Str} {ks : List Str} {mf : MF} {er : Enc ρ} {q : σ → X σ A}
end
end Ty
set_option Elab.async false
set_option linter.all false
set_option maxRecDepth 100000
namespace Ty
open PySem PySem.Spec PyProof.Rows L2 Mn
variable {σ α β : Type} {tb : Nat → Slot σ} {N : Nat} {D : List Nat} {e e1 e2 : ME} {va : α → MV} {vb : β → MV}
@[irreducible] def gStr (i : Int) : Option Str := if i.natAbs.log2 < 1920 then some (toString i) else none
theorem f1_str : Op1 (fun v h => fStr [v] h) gStr .int .str := fun i c h k => by
  unfold gStr at k
  unfold fStr
  simp only
  split at k
  · rename_i z
    cases k
    rw [if_pos z]
  · cases k
@[irreducible] def gIntT (a : Str) : Option Int := match PySem.intText? a with
  | some n => if a.length ≤ 640 then some n else none
  | none => none
theorem f1_intT : Op1 (fun v h => fIntT [v] h) gIntT .str .int := fun a c h k => by
  unfold gIntT at k
  unfold fIntT
  simp only
  split at k
  · rename_i n hn
    split at k
    · rename_i z
      cases k
      (try rw [hn]); (try simp only); rw [if_pos z]
    · cases k
  · cases k
@[irreducible] def gSplit (c a : Str) : Option (List Str) := if (c.length == 0) = false ∧ a.length + 2 ≤ sizeLine then some (Txt.split a c) else none
theorem o_split {c : Str} : Op1 (fSplitC false c) (gSplit c) .str (lV .str) := fun a ys h k => by
  unfold gSplit at k
  unfold fSplitC fSplit
  simp only
  split at k
  · rename_i z
    cases k
    rw [if_pos z]; rfl
  · cases k
theorem tx_split {c : Str} {p : σ → X σ Str} (k : TX tb N D e p (fz MV.str)) : TX tb N D (mM "str" (fSplit false) e (maC (mC (.str c)) maN)) (x1o (gSplit c) p) (fz (lV MV.str)) := by
  rw [mM_split]
  exact tx_1o o_split k
@[irreducible] def gInS (neg : Bool) (x z : Str) : Option Bool := match x with
  | ⟨⟨[c]⟩⟩ => some (if neg = true then !decide (c ∈ z.cps.toList) else decide (c ∈ z.cps.toList))
  | _ => none
theorem o_inC {neg : Bool} : Op2 (fInS neg) (gInS neg) .str .str .bl := fun a b c h k => by
  unfold gInS at k
  unfold fInS
  split at k
  · cases k; rfl
  · cases k
@[irreducible] def gLenS (z : Str) : Option Int := if z.length ≤ sizeLine then some (z.length : Int) else none
theorem f1_lenX : Op1 (fun v h => fLen [v] h) gLenS .str .int := fun a c h k => by
  unfold gLenS at k
  unfold fLen
  simp only
  split at k
  · rename_i z
    cases k
    rw [if_pos z]
  · cases k
def chs1 (z : Str) : List Str := z.cps.toList.map fun c => ⟨#[c]⟩
theorem ti_str {p : σ → X σ Str} (k : TX tb N D e p (fz MV.str)) : TXI tb N D (iSeq e) (x1 chs1 p) MV.str := ti_parts (ps := chs1) (fun x _ _ => by
  show Out.ok (IterV.st (charsOf x)) _ = Out.ok (IterV.st ((chs1 x).map MV.str)) _
  congr 2
  unfold charsOf chs1
  rw [List.map_map]; rfl) k
@[irreducible] def xSlS (p : σ → X σ Str) (l r : σ → X σ (Option Int)) : σ → X σ Str := fun s => (p s).bind fun a s => (l s).bind fun lo s => (r s).bind fun hi s => if a.length ≤ sizeLine then .ok (cutS a lo hi) s else .bad
theorem sl_strF {b : Bool} {a : Str} {lo hi : Option Int} {h : MH} (hz : a.length ≤ sizeLine) : fSl b (.str a) lo hi h = .ok (.str (cutS a lo hi)) h := by
  unfold fSl
  simp only
  rw [if_pos hz]
theorem tp_slS {b : Bool} {p : σ → X σ Str} {l r : MI} {pl pr : σ → X σ (Option Int)} (k1 : TP tb N D e p (fz MV.str)) (k2 : TPI tb N D l pl) (k3 : TPI tb N D r pr) : TP tb N D (mSl (fSl b) e l r) (xSlS p pl pr) (fz MV.str) := fun s env h fp R => by
  have z := k1 s env h fp R
  unfold xSlS mSl
  cases hp : p s with
  | ok a s' =>
    rw [hp] at z
    obtain ⟨rfl, v, h', f', e1, m, rr⟩ := z
    simp only [X.bind]
    rw [e1]
    simp only [Out.bind]
    have z2 := k2 s' env h' fp (R.mono m)
    cases hq : pl s' with
    | ok lo s2 =>
      rw [hq] at z2
      obtain ⟨rfl, h2, e2, m2⟩ := z2
      simp only
      rw [e2]; simp only
      have z3 := k3 s2 env h2 fp (R.mono (m.trans m2))
      cases hr : pr s2 with
      | ok hi s3 =>
        rw [hr] at z3
        obtain ⟨rfl, h3, e3, m3⟩ := z3
        simp only
        by_cases hz : a.length ≤ sizeLine
        rotate_left
        · rw [if_neg hz]; trivial
        rw [if_pos hz]
        refine ⟨rfl, _, h3, [], ?_, m.trans (m2.trans m3), rfl, rfl⟩
        rw [e3]
        exact (by rw [rr.1]; exact sl_strF hz)
      | exc C xs s3 =>
        rw [hr] at z3
        obtain ⟨rfl, h3, e3, m3⟩ := z3
        exact ⟨rfl, h3, by rw [e3], m.trans (m2.trans m3)⟩
      | bad => trivial
    | exc C xs s2 =>
      rw [hq] at z2
      obtain ⟨rfl, h2, e2, m2⟩ := z2
      exact ⟨rfl, h2, by rw [e2], m.trans m2⟩
    | bad => trivial
  | exc C xs s' =>
    rw [hp] at z
    obtain ⟨rfl, h', e1, m⟩ := z
    exact ⟨rfl, h', by rw [e1], m⟩
  | bad => trivial
theorem Ev_xSlS {p : σ → X σ Str} {l r : σ → X σ (Option Int)} {s : σ} {k : Str → σ → Prop} {ex : Str → σ → Prop} : Ev (xSlS p l r s) k ex = Ev (p s) (fun a s => Ev (l s) (fun lo s => Ev (r s) (fun hi s => a.length ≤ sizeLine ∧ k (cutS a lo hi) s) ex) ex) ex := by
  unfold xSlS
  rw [Ev_bind]; congr; funext a s
  rw [Ev_bind]; congr; funext lo s
  rw [Ev_bind]; congr; funext hi s
  by_cases hz : a.length ≤ sizeLine
  · rw [if_pos hz]; simp [Ev, hz]
  · rw [if_neg hz]; simp [Ev, hz]
end Ty
set_option Elab.async false
set_option linter.all false
set_option maxRecDepth 100000
namespace Ty
open PySem PySem.Spec PyProof.Rows L2 Mn
section
variable {σ : Type} {tb : Nat → Slot σ} {N : Nat} {D : List Nat} {e eu : ME}
end
theorem lk_flt : ∀ {l : List (Str × Bool)} {C : Str}, l.lookup C = some true → (l.filter (·.2)).lookup C = some true
  | [], _, h => h
  | (k, true) :: l, C, h => by
    rw [List.filter_cons_of_pos (by rfl)]
    unfold List.lookup at h ⊢
    split
    · rfl
    · rename_i e
      rw [e] at h
      exact lk_flt h
  | (k, false) :: l, C, h => by
    rw [List.filter_cons_of_neg (by simp)]
    unfold List.lookup at h
    split at h
    · cases h
    · exact lk_flt h
section
variable {σ ρ α β γ : Type}
theorem nx_1o {g : α → Option β} {p : σ → X σ α} (h : NX p) : NX (x1o g p) := by with_unfolding_all exact (fun s => nx_bind (h s) fun a s C xs s' e => by
  split at e
  · cases e
  · cases e)
theorem nx_2o {g : α → β → Option γ} {p : σ → X σ α} {q : σ → X σ β} (h : NX p) (k : NX q) : NX (x2o g p q) := by with_unfolding_all exact (fun s => nx_bind (h s) fun a s => nx_bind (k s) fun b s C xs s' e => by
  split at e
  · cases e
  · cases e)
theorem nx_Or {p q : σ → X σ Bool} (h : NX p) (k : NX q) : NX (xOr p q) := by with_unfolding_all exact (fun s => nx_bind (h s) fun a s C xs s' e => by
  cases a with
  | true => cases e
  | false => exact k s C xs s' e)
theorem nx_SlS {p : σ → X σ Str} {l r : σ → X σ (Option Int)} (h : NX p) (k : NX l) (m : NX r) : NX (xSlS p l r) := by with_unfolding_all exact (fun s => nx_bind (h s) fun a s => nx_bind (k s) fun b s => nx_bind (m s) fun c s C xs s' e => by
  split at e
  · cases e
  · cases e)
theorem nx_Sl {p : σ → X σ (List α)} {l r : σ → X σ (Option Int)} (h : NX p) (k : NX l) (m : NX r) : NX (xSl p l r) := by with_unfolding_all exact (fun s => nx_bind (h s) fun a s => nx_bind (k s) fun b s => nx_bind (m s) fun c s C xs s' e => by cases e)
theorem nf_Expr {p : σ → X σ α} (h : NX p) : NF (yExpr p : σ → F σ ρ) := by with_unfolding_all exact (fun s => nf_toF (h s) fun a s C xs s' e => by cases e)
end
end Ty
set_option Elab.async false
set_option linter.all false
set_option maxRecDepth 100000
namespace Ty
open PySem PySem.Spec PyProof.Rows L2 Mn
section
variable {σ ρ : Type} {c : Cx σ ρ} {D D1 : List Nat}
@[irreducible] def yTryN (pb : σ → F σ ρ) (tab : List (Str × Bool)) (y : Str) : σ → F σ ρ := fun s => match pb s with
  | .exc C _ s' => match tab.lookup C with
    | some true => .exc y [] s'
    | _ => .bad
  | o => o
theorem ts_tryN {b : MS} {pb : σ → F σ ρ} {tab : List (Str × Bool)} {y : Str} (kb : TS c D b pb D1) : TS c D (sTryN b tab y) (yTryN pb tab y) D1 := by with_unfolding_all exact (fun s env h fp R => by
  have z := kb s env h fp R
  unfold sTryN yTryN
  cases hp : pb s with
  | nx s' => rw [hp] at z; obtain ⟨env', h', fp', e, q⟩ := z; exact ⟨env', h', fp', by rw [e], q⟩
  | rt r s' => rw [hp] at z; obtain ⟨v, env', h', f, fp', e, q⟩ := z; exact ⟨v, env', h', f, fp', by rw [e], q⟩
  | bk s' => rw [hp] at z; obtain ⟨env', h', fp', e, q⟩ := z; exact ⟨env', h', fp', by rw [e], q⟩
  | ct s' => rw [hp] at z; obtain ⟨env', h', fp', e, q⟩ := z; exact ⟨env', h', fp', by rw [e], q⟩
  | exc C xs s' =>
    rw [hp] at z
    obtain ⟨env', h', fp', e, q⟩ := z
    simp only
    cases hl : tab.lookup C with
    | none => trivial
    | some v =>
      cases v with
      | false => trivial
      | true => exact ⟨env', h', fp', by rw [e]; simp only; rw [hl], q⟩
  | bad => trivial)
theorem Po_yTryN {pb : σ → F σ ρ} {tab : List (Str × Bool)} {y : Str} {s : σ} {n : σ → Prop} {r : ρ → σ → Prop} {bk ct : σ → Prop} {e : Str → σ → Prop} : Po (yTryN pb tab y s) n r bk ct e = Po (pb s) n r bk ct (fun C s => match tab.lookup C with
  | some true => e y s
  | _ => False) := by
  unfold yTryN
  cases pb s with
  | exc C xs s' =>
    show Po (match tab.lookup C with | some true => .exc y [] s' | _ => .bad) n r bk ct e = (match tab.lookup C with | some true => e y s' | _ => False)
    cases tab.lookup C with
    | none => rfl
    | some v => cases v <;> rfl
  | _ => rfl
theorem nf_TryN {pb : σ → F σ ρ} {tab : List (Str × Bool)} {y : Str} (h : NF pb) : NF (yTryN pb tab y) := by with_unfolding_all exact (fun s C xs s' e => by
  unfold yTryN at e
  cases hp : pb s with
  | exc D us s2 =>
    rw [hp] at e
    simp only at e
    split at e
    · cases e; rfl
    · cases e
  | nx s2 => rw [hp] at e; cases e
  | rt r s2 => rw [hp] at e; cases e
  | bk s2 => rw [hp] at e; cases e
  | ct s2 => rw [hp] at e; cases e
  | bad => rw [hp] at e; cases e)
end
section
variable {I A ρ : Type}
def fNox (fn : I → A → X I ρ) : I → A → X I ρ := fun i a => match fn i a with
  | .exc _ _ _ => .bad
  | o => o
theorem tf_nox {ps : PSpec I A} {g : MF} {fn : I → A → X I ρ} {er : Enc ρ} (k : TFun ps g fn er) : TFun ps (mfNox g) (fNox fn) er := fun i a ds h fps r nd => by
  have z := k i a ds h fps r nd
  unfold fNox mfNox
  cases hf : fn i a with
  | ok r s2 =>
    rw [hf] at z
    obtain ⟨v, h', fps', f, e, q⟩ := z
    exact ⟨v, h', fps', f, by rw [e], q⟩
  | exc D us s2 => trivial
  | bad => trivial
theorem Ev_fNox {fn : I → A → X I ρ} {i : I} {a : A} {k : ρ → I → Prop} {e : Str → I → Prop} : Ev (fNox fn i a) k e = Ev (fn i a) k (fun _ _ => False) := by
  unfold fNox
  cases fn i a <;> rfl
theorem nf_nox {fn : I → A → X I ρ} : ∀ i a C xs s', fNox fn i a = .exc C xs s' → xs = [] := fun i a C xs s' e => by
  unfold fNox at e
  cases h : fn i a with
  | ok r s2 => rw [h] at e; cases e
  | exc D us s2 => rw [h] at e; cases e
  | bad => rw [h] at e; cases e
end
theorem o_eqI {α : Type} {va : α → MV} {C : Str} (hv : ∀ a, ∃ ks xs, va a = .ob C ks xs) : Op2 (fEqI C) (fun (_ : α) (_ : Int) => some false) va MV.int MV.bl := fun a b c h e => by
  cases e
  obtain ⟨ks, xs, e⟩ := hv a
  rw [e]
  unfold fEqI
  simp
end Ty
set_option Elab.async false
set_option linter.all false
set_option maxRecDepth 100000
namespace Ty
open PySem PySem.Spec PyProof.Rows L2 Mn
section
variable {σ ρ : Type} {tb : Nat → Slot σ} {N : Nat} {D D1 : List Nat} {α β : Type} {e : ME} {va : α → MV} {vb : β → MV} {st : σ → α → σ}
def xCompLX (st : σ → α → σ) (pt : σ → X σ Bool) (pe : σ → X σ β) : List α → List β → σ → X σ (List β)
  | [], acc, s => .ok acc s
  | x :: xs, acc, s => match pt (st s x) with
    | .ok c s1 => if c = true then (match pe s1 with
      | .ok y s2 => if acc.length < sizeLine then xCompLX st pt pe xs (acc ++ [y]) s2 else .bad
      | .exc C us s2 => .exc C us s2
      | .bad => .bad) else xCompLX st pt pe xs acc s1
    | _ => .bad
@[irreducible] def xCompX (pi : σ → X σ (List α)) (st : σ → α → σ) (pt : σ → X σ Bool) (pe : σ → X σ β) : σ → X σ (List β) := fun s => (pi s).bind fun xs s => xCompLX st pt pe xs [] s
theorem comp_lX {g : MG} {vs : List Nat} {t : MT} {pt : σ → X σ Bool} {pe : σ → X σ β} (kg : TG (cxC tb N D) D g st va D1) (hv : farB tb D vs = true) (hD : subB D D1 = true) (kt : TXT tb N D1 t pt) (ke : TX tb N D1 e pe (fz vb)) : ∀ (xs : List α) (acc : List β) s env h fp, RS tb N D s env h fp → match xCompLX st pt pe xs acc s with
    | .ok ys s' => ∃ h' fp', compLX g t e (wipeM env vs) (xs.map va) (acc.map vb) h = .ok (ys.map vb) h' ∧ RS tb N D s' env h' fp' ∧ Fr (Wn D fp) h h' ∧ Grow (Wn D fp) (Wn D fp') h
    | .exc C us s' => ∃ h' fp', compLX g t e (wipeM env vs) (xs.map va) (acc.map vb) h = .exc C us h' ∧ RS tb N D s' env h' fp' ∧ Fr (Wn D fp) h h' ∧ Grow (Wn D fp) (Wn D fp') h
    | .bad => True
  | [], acc, s, env, h, fp, R => ⟨h, fp, rfl, R, Fr.refl, Grow.refl⟩
  | x :: xs, acc, s, env, h, fp, R => by
    have hD := subB_ok hD
    obtain ⟨env1, fp1, e1, R1, w1, back⟩ := comp_in kg hv R x
    unfold xCompLX
    rw [List.map_cons]
    unfold compLX compTX
    rw [e1]
    simp only [Out.nox, Out.bind]
    have z := kt (st s x) env1 h fp1 R1
    cases hp : pt (st s x) with
    | ok cc s1 =>
      rw [hp] at z
      obtain ⟨h1, fp2, e2, R2, fr2, gr2⟩ := z
      rw [e2]
      simp only
      have fr2' : Fr (Wn D fp) h h1 := fr2.weak w1
      have gr2' : Grow (Wn D fp) (Wn D1 fp2) h := fun n q => (gr2 n q).imp (w1 n) id
      cases cc with
      | false =>
        simp only [Bool.false_eq_true, if_false]
        have ih := comp_lX kg hv (by assumption) kt ke xs acc s1 env h1 fp2 (back s1 h1 fp2 hD R2)
        have g4 : Grow (Wn D fp) (Wn D fp2) h := gr2'.sub fun n q => Wn.sub hD q
        cases hc : xCompLX st pt pe xs acc s1 with
        | bad => trivial
        | ok ys s' =>
          rw [hc] at ih
          obtain ⟨h', fp', e3, R3, fr3, gr3⟩ := ih
          exact ⟨h', fp', e3, R3, fr2'.trans g4 fr3, g4.trans fr2'.len gr3⟩
        | exc C us s' =>
          rw [hc] at ih
          obtain ⟨h', fp', e3, R3, fr3, gr3⟩ := ih
          exact ⟨h', fp', e3, R3, fr2'.trans g4 fr3, g4.trans fr2'.len gr3⟩
      | true =>
        simp only [if_true]
        have z2 := ke s1 env1 h1 fp2 R2
        cases hpe : pe s1 with
        | ok y s2 =>
          rw [hpe] at z2
          obtain ⟨v, h2, f, fp3, e3, R3, r3, _, _, fr3, gr3⟩ := z2
          simp only
          by_cases hz : acc.length < sizeLine
          · rw [if_pos hz]
            have g4 : Grow (Wn D fp) (Wn D1 fp3) h := gr2'.trans fr2'.len (gr3.sub fun n q => .inl q)
            have f4 : Fr (Wn D fp) h h2 := fr2'.trans gr2' fr3
            have ih := comp_lX kg hv (by assumption) kt ke xs (acc ++ [y]) s2 env h2 fp3 (back s2 h2 fp3 hD R3)
            have g5 : Grow (Wn D fp) (Wn D fp3) h := g4.sub fun n q => Wn.sub hD q
            cases hc : xCompLX st pt pe xs (acc ++ [y]) s2 with
            | bad => trivial
            | ok ys s' =>
              rw [hc] at ih
              obtain ⟨h', fp', e4, R4, fr4, gr4⟩ := ih
              refine ⟨h', fp', ?_, R4, f4.trans g5 fr4, g5.trans f4.len gr4⟩
              rw [e3, r3.1]
              simp only
              rw [if_pos (by simpa using hz)]
              rw [List.map_append] at e4
              exact e4
            | exc C us s' =>
              rw [hc] at ih
              obtain ⟨h', fp', e4, R4, fr4, gr4⟩ := ih
              refine ⟨h', fp', ?_, R4, f4.trans g5 fr4, g5.trans f4.len gr4⟩
              rw [e3, r3.1]
              simp only
              rw [if_pos (by simpa using hz)]
              rw [List.map_append] at e4
              exact e4
          · rw [if_neg hz]; trivial
        | exc C us s2 =>
          rw [hpe] at z2
          obtain ⟨h2, fp3, e3, R3, fr3, gr3⟩ := z2
          refine ⟨h2, fp3, ?_, back s2 h2 fp3 hD R3, fr2'.trans gr2' fr3, (gr2'.trans fr2'.len gr3).sub fun n q => Wn.sub hD q⟩
          rw [e3]
        | bad => trivial
    | exc C us s1 => trivial
    | bad => trivial
theorem tx_compX {it : MIt} {pi : σ → X σ (List α)} {g : MG} {vs : List Nat} {t : MT} {pt : σ → X σ Bool} {pe : σ → X σ β} (ki : TXI tb N D it pi va) (kg : TG (cxC tb N D) D g st va D1) (kt : TXT tb N D1 t pt) (ke : TX tb N D1 e pe (fz vb)) (hv : farB tb D vs = true := by rfl) (hD : subB D D1 = true := by rfl) : TX tb N D (mCompX false it g t e vs) (xCompX pi st pt pe) (fz (lV vb)) := by with_unfolding_all exact (fun s env h fp R => by
  have z := ki s env h fp R
  unfold xCompX mCompX
  cases hp : pi s with
  | ok xs s' =>
    rw [hp] at z
    obtain ⟨h', fp', e1, R1, fr, gr⟩ := z
    simp only [X.bind]
    rw [e1]
    simp only [Out.bind]
    have w := comp_lX kg hv hD kt ke xs [] s' env h' fp' R1
    cases hc : xCompLX st pt pe xs [] s' with
    | bad => trivial
    | ok ys s2 =>
      rw [hc] at w
      obtain ⟨h2, fp2, e2, R2, fr2, gr2⟩ := w
      have e2' : compLX g t e (wipeM env vs) (xs.map va) [] h' = .ok (ys.map vb) h2 := e2
      refine ⟨_, h2, [], fp2, by rw [e2']; rfl, R2, ⟨rfl, rfl⟩, List.nodup_nil, (fun n hn => nomatch hn), fr.trans gr fr2, (gr.trans fr.len gr2).sub fun n q => q.elim id fun z => nomatch z⟩
    | exc C us s2 =>
      rw [hc] at w
      obtain ⟨h2, fp2, e2, R2, fr2, gr2⟩ := w
      have e2' : compLX g t e (wipeM env vs) (xs.map va) [] h' = .exc C us h2 := e2
      exact ⟨h2, fp2, by rw [e2'], R2, fr.trans gr fr2, gr.trans fr.len gr2⟩
  | exc C xs s' =>
    rw [hp] at z
    obtain ⟨h', fp', e1, R1, fr, gr⟩ := z
    exact ⟨h', fp', by rw [e1], R1, fr, gr⟩
  | bad => trivial)
theorem Ev_xCompX {pi : σ → X σ (List α)} {pt : σ → X σ Bool} {pe : σ → X σ β} {k : List β → σ → Prop} {ee : Str → σ → Prop} {s : σ} : Ev (xCompX pi st pt pe s) k ee = Ev (pi s) (fun xs s => Ev (xCompLX st pt pe xs [] s) k ee) ee := by
  unfold xCompX; rw [Ev_bind]
theorem compX_inv {pt : σ → X σ Bool} {pe : σ → X σ β} {xs : List α} {s : σ} {k : List β → σ → Prop} {ee : Str → σ → Prop} (J : List α → List β → σ → Prop) (h0 : J [] [] s)
    (step : ∀ (ys zs : List α) (x : α) (acc : List β) s, xs = ys ++ x :: zs → J ys acc s → Ev (pt (st s x)) (fun v s => if v = true then Ev (pe s) (fun y s => acc.length < PySem.sizeLine ∧ J (ys ++ [x]) (acc ++ [y]) s) ee else J (ys ++ [x]) acc s) (fun _ _ => False)) (fin : ∀ acc s, J xs acc s → k acc s) : Ev (xCompLX st pt pe xs [] s) k ee := by
  have gen : ∀ (zs ys : List α) (acc : List β) s, xs = ys ++ zs → J ys acc s → Ev (xCompLX st pt pe zs acc s) k ee := by
    intro zs
    induction zs with
    | nil =>
      intro ys acc s e1 hj
      rw [List.append_nil] at e1
      subst e1
      exact fin acc s hj
    | cons x zs ih =>
      intro ys acc s e1 hj
      have st' := step ys zs x acc s e1 hj
      unfold xCompLX
      cases hp : pt (st s x) with
      | bad => rw [hp] at st'; exact st'.elim
      | exc C xs s' => rw [hp] at st'; exact st'.elim
      | ok v s1 =>
        rw [hp] at st'
        have st' : if v = true then _ else _ := st'
        simp only
        cases v with
        | false => exact ih (ys ++ [x]) acc s1 (by simp [e1]) st'
        | true =>
          rw [if_pos rfl] at st' ⊢
          cases hq : pe s1 with
          | bad => rw [hq] at st'; exact st'.elim
          | exc C xs s' => rw [hq] at st'; exact st'
          | ok y s2 =>
            rw [hq] at st'
            obtain ⟨z1, z2⟩ := st'
            simp only
            rw [if_pos z1]
            exact ih (ys ++ [x]) (acc ++ [y]) s2 (by simp [e1]) z2
  exact gen xs [] [] s rfl h0
theorem nx_CompXL {pt : σ → X σ Bool} {pe : σ → X σ β} (h : NX pe) : ∀ (l : List α) (acc : List β) s C xs s', xCompLX st pt pe l acc s = .exc C xs s' → xs = []
  | [], acc, s, C, xs, s', q => by unfold xCompLX at q; cases q
  | x :: l, acc, s, C, xs, s', q => by
    unfold xCompLX at q
    cases hp : pt (st s x) with
    | bad => rw [hp] at q; cases q
    | exc C us s' => rw [hp] at q; cases q
    | ok v s1 =>
      rw [hp] at q
      simp only at q
      cases v with
      | false => exact nx_CompXL h l acc s1 C xs s' q
      | true =>
        rw [if_pos rfl] at q
        cases hq : pe s1 with
        | bad => rw [hq] at q; cases q
        | exc D us s2 => rw [hq] at q; cases q; exact h _ _ _ _ hq
        | ok y s2 =>
          rw [hq] at q
          simp only at q
          split at q
          · exact nx_CompXL h l _ s2 C xs s' q
          · cases q
theorem nx_CompX {pi : σ → X σ (List α)} {pt : σ → X σ Bool} {pe : σ → X σ β} (h : NX pi) (k : NX pe) : NX (xCompX pi st pt pe) := by with_unfolding_all exact (fun s => nx_bind (h s) fun a s => nx_CompXL k a [] s)
end
end Ty
set_option Elab.async false
set_option linter.all false
set_option maxRecDepth 100000
namespace Ty
open PySem PySem.Spec PyProof.Rows L2 Mn
section
variable {σ ρ : Type} {tb : Nat → Slot σ} {N : Nat} {D : List Nat} {α β γ : Type} {m mv : ME} {get : σ → α} {put : σ → α → σ} {ix : Nat} {vb : β → MV} {vc : γ → MV} {C x : Str} {ks : List Str}
end
section
variable {σ ρ : Type} {c : Cx σ ρ} {D : List Nat} {α β γ : Type} {mv : ME} {get : σ → α} {put : σ → α → σ} {ix : Nat} {vb : β → MV} {vc : γ → MV} {C x : Str} {ks : List Str}
end
end Ty
set_option Elab.async false
set_option linter.all false
set_option maxRecDepth 100000
set_option maxHeartbeats 4000000
namespace Ty
open PySem PySem.Spec PyProof.Rows L2 Mn
section
variable {σ ρ : Type} {c : Cx σ ρ} {tb : Nat → Slot σ} {N : Nat} {D D0 : List Nat} {β : Type} {p : σ → X σ β} {e : ME} {ix : Nat} {va : β → MV}
end
section
variable {σ ρ α β θ : Type} {c : Cx σ ρ} {D Dl D1 D2 Dr Dx : List Nat} {i ix : Nat} {va : α → MV} {st : σ → α → σ} {pa : σ → F σ ρ} {g : MG} {m : MS} {me e2 : ME} {get : σ → List (List α)} {put0 : σ → List (List α) → σ} {qi : σ → X σ Int} {geti : σ → θ} {puti : σ → θ → σ} {ei : Enc θ}
end
end Ty
set_option Elab.async false
set_option linter.all false
set_option maxRecDepth 100000
set_option maxHeartbeats 4000000
namespace K44
open PySem PySem.Spec PyProof.Rows L2 Mn Ty
structure C_Machine where
  inputs : Int
  outputs : Int
  lead : Int
  opening : (List Int)
  rows : (List (List (Int × Int)))
deriving DecidableEq, Inhabited
abbrev v_Machine : C_Machine → MV := fun o => .ob "Machine" ["inputs", "outputs", "lead", "opening", "rows"] [MV.int o.inputs, MV.int o.outputs, MV.int o.lead, (tV MV.int) o.opening, (tV (tV (p2 MV.int MV.int))) o.rows]
structure V_law_draws where
  lcells : (List Int)
  lscript : (List Int)
  lfound : (List Int)
  lmixed : Int
  lcount : Int
  lk : Int
  lj : Int
  lcell : Int
  lagain : Int
@[reducible] def V_law_draws.put_lcells (s : V_law_draws) (v : (List Int)) : V_law_draws := { s with lcells := v }
@[reducible] def V_law_draws.put_lfound (s : V_law_draws) (v : (List Int)) : V_law_draws := { s with lfound := v }
@[reducible] def V_law_draws.put_lmixed (s : V_law_draws) (v : Int) : V_law_draws := { s with lmixed := v }
@[reducible] def V_law_draws.put_lcount (s : V_law_draws) (v : Int) : V_law_draws := { s with lcount := v }
@[reducible] def V_law_draws.put_lk (s : V_law_draws) (v : Int) : V_law_draws := { s with lk := v }
@[reducible] def V_law_draws.put_lj (s : V_law_draws) (v : Int) : V_law_draws := { s with lj := v }
@[reducible] def V_law_draws.put_lcell (s : V_law_draws) (v : Int) : V_law_draws := { s with lcell := v }
@[reducible] def V_law_draws.put_lagain (s : V_law_draws) (v : Int) : V_law_draws := { s with lagain := v }
def tb_law_draws : Nat → Slot V_law_draws
  | 0 => ⟨0, fun s => (fz (sV MV.int)) s.lscript⟩
  | 1 => ⟨1, fun s => (fz MV.int) s.lcount⟩
  | 2 => ⟨2, fun s => (own1 MV.int) s.lcells⟩
  | 3 => ⟨3, fun s => (own1 MV.int) s.lfound⟩
  | 4 => ⟨4, fun s => (fz MV.int) s.lmixed⟩
  | 5 => ⟨8, fun s => (fz MV.int) s.lagain⟩
  | 6 => ⟨7, fun s => (fz MV.int) s.lcell⟩
  | 7 => ⟨6, fun s => (fz MV.int) s.lj⟩
  | 8 => ⟨5, fun s => (fz MV.int) s.lk⟩
  | _ => ⟨0, fun _ => fz nV ()⟩
abbrev cx_law_draws : Cx V_law_draws (List Int) := ⟨tb_law_draws, 9, [], [], [], [], (own1 MV.int)⟩
theorem kp_law_draws_lcells : Keep tb_law_draws V_law_draws.put_lcells 2 [0, 1, 3, 4, 5, 6, 7, 8] := ⟨kq, ⟨kq, ⟨kq, ⟨kq, ⟨kq, ⟨kq, ⟨kq, ⟨kq, trivial⟩⟩⟩⟩⟩⟩⟩⟩
theorem kp_law_draws_lfound : Keep tb_law_draws V_law_draws.put_lfound 3 [0, 1, 2, 4, 5, 6, 7, 8] := ⟨kq, ⟨kq, ⟨kq, ⟨kq, ⟨kq, ⟨kq, ⟨kq, ⟨kq, trivial⟩⟩⟩⟩⟩⟩⟩⟩
theorem kp_law_draws_lmixed : Keep tb_law_draws V_law_draws.put_lmixed 4 [0, 1, 2, 3, 5, 6, 7, 8] := ⟨kq, ⟨kq, ⟨kq, ⟨kq, ⟨kq, ⟨kq, ⟨kq, ⟨kq, trivial⟩⟩⟩⟩⟩⟩⟩⟩
theorem kp_law_draws_lk : Keep tb_law_draws V_law_draws.put_lk 5 [0, 1, 2, 3, 4, 5, 6, 7] := ⟨kq, ⟨kq, ⟨kq, ⟨kq, ⟨kq, ⟨kq, ⟨kq, ⟨kq, trivial⟩⟩⟩⟩⟩⟩⟩⟩
theorem kp_law_draws_lj : Keep tb_law_draws V_law_draws.put_lj 6 [0, 1, 2, 3, 4, 5, 6, 8] := ⟨kq, ⟨kq, ⟨kq, ⟨kq, ⟨kq, ⟨kq, ⟨kq, ⟨kq, trivial⟩⟩⟩⟩⟩⟩⟩⟩
theorem kp_law_draws_lcell : Keep tb_law_draws V_law_draws.put_lcell 7 [0, 1, 2, 3, 4, 5, 7, 8] := ⟨kq, ⟨kq, ⟨kq, ⟨kq, ⟨kq, ⟨kq, ⟨kq, ⟨kq, trivial⟩⟩⟩⟩⟩⟩⟩⟩
theorem kp_law_draws_lagain : Keep tb_law_draws V_law_draws.put_lagain 8 [0, 1, 2, 3, 4, 6, 7, 8] := ⟨kq, ⟨kq, ⟨kq, ⟨kq, ⟨kq, ⟨kq, ⟨kq, ⟨kq, trivial⟩⟩⟩⟩⟩⟩⟩⟩
def F_law_draws : (Unit) → ((List Int) × Int × Unit) → X (Unit) (List Int) := yRun (fun (i : Unit) (a : (List Int) × Int × Unit) => ({ lcells := default, lscript := a.1, lfound := default, lmixed := default, lcount := a.2.1, lk := default, lj := default, lcell := default, lagain := default } : V_law_draws)) (fun s => (())) (none : Option (List Int)) (ySeq (ySet V_law_draws.put_lcells (x1 id (xV V_law_draws.lscript))) (ySeq (yIf (x2 (fun a b => if false = true then !decide (a = b) else decide (a = b)) (x1 (fun xs => (xs.length : Int)) (xV V_law_draws.lcells)) (xC (0 : Int))) (ySet V_law_draws.put_lcells (x1 (fun (x : Int × Unit) => ([x.1] : List Int)) (xCs (xC (7 : Int)) xN))) yNil) (ySeq (ySet V_law_draws.put_lfound (x1 (fun (x : Unit) => ([] : List Int)) xN)) (ySeq (ySet V_law_draws.put_lmixed (xC (12345 : Int))) (ySeq (yFor (x1o gRng1 (xCs (xV V_law_draws.lcount) xN)) V_law_draws.put_lk (ySeq (ySet V_law_draws.put_lj (x2o gMod (xV V_law_draws.lk) (x1 (fun xs => (xs.length : Int)) (xV V_law_draws.lcells)))) (ySeq (ySet V_law_draws.put_lcell (x2o gIx (xV V_law_draws.lcells) (xV V_law_draws.lj))) (ySeq (ySet V_law_draws.put_lmixed (x2o gMod (x1 (fun i : Int => i) (x2 (fun i j : Int => i + j) (x2 (fun i j : Int => i + j) (x2 (fun i j : Int => i + j) (x2o gMul (xV V_law_draws.lmixed) (xC (48271 : Int))) (x2o gMul (x2o gMod (x1 (fun i : Int => i) (xV V_law_draws.lcell)) (xC (1000003 : Int))) (xC (69621 : Int)))) (x2o gMul (xV V_law_draws.lk) (xC (7919 : Int)))) (xC (11 : Int)))) (xC (2147483647 : Int)))) (ySeq (ySet V_law_draws.put_lagain (x2o gMod (x1 (fun i : Int => i) (x2 (fun i j : Int => i + j) (x2 (fun i j : Int => i + j) (x2o gMul (xV V_law_draws.lmixed) (xV V_law_draws.lmixed)) (x2o gMul (xC (31 : Int)) (xV V_law_draws.lmixed))) (xV V_law_draws.lk))) (xC (1000003 : Int)))) (yIf (x2 (fun i j : Int => decide (j ≤ i)) (xV V_law_draws.lcell) (x2o gPow (xC (10 : Int)) (xC (18 : Int)))) (ySeq (yExpr (xMeth V_law_draws.lfound V_law_draws.put_lfound gApp (xCs (x2o gMod (x1 (fun i : Int => i) (xV V_law_draws.lcell)) (xC (1000 : Int))) xN))) (ySetI V_law_draws.lcells V_law_draws.put_lcells (x2o gDiv (xV V_law_draws.lcell) (xC (1000 : Int))) (xV V_law_draws.lj))) (yExpr (xMeth V_law_draws.lfound V_law_draws.put_lfound gApp (xCs (x2o gMod (x1 (fun i : Int => i) (xV V_law_draws.lagain)) (xC (1000 : Int))) xN))))))))) (ySeq (yExpr (xMeth V_law_draws.lfound V_law_draws.put_lfound gRev xN)) (yRet (xV V_law_draws.lfound))))))))
theorem ty_law_draws : TFun (.fr (sV MV.int) (.fr MV.int (.nil)) : PSpec (Unit) ((List Int) × Int × Unit)) m_law_draws F_law_draws (own1 MV.int) := by
  unfold m_law_draws F_law_draws
  exact tf_mk (c := cx_law_draws) (D0 := [0, 1]) (D1 := [])
   (ts_seq (ts_set (D0 := [0, 1]) 2 (tx_listO sq_s (tp_v (i := 0) rfl rfl (fun _ => rfl))) (kp_law_draws_lcells.sub rfl) (fun _ _ => rfl)) (ts_seq (ts_if (D' := [2, 0, 1]) (txt_v (tx_2 (o_eq (neg := false) dt_int) (Ty.TP.tx (tp_f1 f1_lenO (tp_v (i := 2) rfl rfl (fun _ => rfl)))) (Ty.TP.tx (tp_c (val := MV.int) rfl)))) (ts_set (D0 := [0, 1]) 2 (tx_lst (va := MV.int) (fun _ => rfl) 1 (fun _ => rfl) (txa_c (Ty.TP.tx (tp_c (val := MV.int) rfl)) (Ty.TPA.tx tpa_n))) (kp_law_draws_lcells.sub rfl) (fun _ _ => rfl)) ts_nil) (ts_seq (ts_set (D0 := [2, 0, 1]) 3 (tx_lst (va := MV.int) (fun _ => rfl) 0 (fun _ => rfl) (Ty.TPA.tx tpa_n)) (kp_law_draws_lfound.sub rfl) (fun _ _ => rfl)) (ts_seq (ts_set (D0 := [3, 2, 0, 1]) 4 (Ty.TP.tx (tp_c (val := MV.int) rfl)) (kp_law_draws_lmixed.sub rfl) (fun _ _ => rfl)) (ts_seq (ts_for (Dl := [4, 3, 2, 0, 1]) (D2 := [5, 4, 6, 7, 8, 3, 2, 0, 1]) (ti_range1 (txa_c (Ty.TP.tx (tp_v (i := 1) rfl rfl (fun _ => rfl))) (Ty.TPA.tx tpa_n))) (tg_nm (D0 := [4, 3, 2, 0, 1]) 8 (kp_law_draws_lk.sub rfl) (fun _ _ => rfl)) (ts_seq (ts_set (D0 := [8, 4, 3, 2, 0, 1]) 7 (tx_2o o_mod (Ty.TP.tx (tp_v (i := 8) rfl rfl (fun _ => rfl))) (Ty.TP.tx (tp_f1 f1_lenO (tp_v (i := 2) rfl rfl (fun _ => rfl))))) (kp_law_draws_lj.sub rfl) (fun _ _ => rfl)) (ts_seq (ts_set (D0 := [7, 8, 4, 3, 2, 0, 1]) 6 (Ty.TP.tx (tp_2o (o_ix sq_o) (tp_v (i := 2) rfl rfl (fun _ => rfl)) (tp_v (i := 7) rfl rfl (fun _ => rfl)))) (kp_law_draws_lcell.sub rfl) (fun _ _ => rfl)) (ts_seq (ts_set (D0 := [6, 7, 8, 3, 2, 0, 1]) 4 (tx_2o o_mod (Ty.TP.tx (tp_f1 (Op1.rd f1_int) (tp_2 (Op2.rd o_add) (tp_2 (Op2.rd o_add) (tp_2 (Op2.rd o_add) (tp_2o (Op2.rd o_mul) (tp_v (i := 4) rfl rfl (fun _ => rfl)) (tp_c (val := MV.int) rfl)) (tp_2o (Op2.rd o_mul) (tp_2o (Op2.rd o_mod) (tp_f1 (Op1.rd f1_int) (tp_v (i := 6) rfl rfl (fun _ => rfl))) (tp_c (val := MV.int) rfl)) (tp_c (val := MV.int) rfl))) (tp_2o (Op2.rd o_mul) (tp_v (i := 8) rfl rfl (fun _ => rfl)) (tp_c (val := MV.int) rfl))) (tp_c (val := MV.int) rfl)))) (Ty.TP.tx (tp_c (val := MV.int) rfl))) (kp_law_draws_lmixed.sub rfl) (fun _ _ => rfl)) (ts_seq (ts_set (D0 := [4, 6, 7, 8, 3, 2, 0, 1]) 5 (tx_2o o_mod (Ty.TP.tx (tp_f1 (Op1.rd f1_int) (tp_2 (Op2.rd o_add) (tp_2 (Op2.rd o_add) (tp_2o (Op2.rd o_mul) (tp_v (i := 4) rfl rfl (fun _ => rfl)) (tp_v (i := 4) rfl rfl (fun _ => rfl))) (tp_2o (Op2.rd o_mul) (tp_c (val := MV.int) rfl) (tp_v (i := 4) rfl rfl (fun _ => rfl)))) (tp_v (i := 8) rfl rfl (fun _ => rfl))))) (Ty.TP.tx (tp_c (val := MV.int) rfl))) (kp_law_draws_lagain.sub rfl) (fun _ _ => rfl)) (ts_if (D' := [5, 4, 6, 7, 8, 3, 2, 0, 1]) (txt_v (tx_2 o_ge (Ty.TP.tx (tp_v (i := 6) rfl rfl (fun _ => rfl))) (tx_2o o_pow (Ty.TP.tx (tp_c (val := MV.int) rfl)) (Ty.TP.tx (tp_c (val := MV.int) rfl))))) (ts_seq (ts_expr (tx_meth (D0 := [5, 4, 6, 7, 8, 2, 0, 1]) 3 mo_app (txa_c (tx_2o o_mod (Ty.TP.tx (tp_f1 (Op1.rd f1_int) (tp_v (i := 6) rfl rfl (fun _ => rfl)))) (Ty.TP.tx (tp_c (val := MV.int) rfl))) (Ty.TPA.tx tpa_n)) (fun _ => rfl) (fun _ _ => rfl) (kp_law_draws_lfound.sub rfl))) (ts_setI (D0 := [5, 4, 6, 7, 8, 3, 0, 1]) 2 (tx_2o o_div (Ty.TP.tx (tp_v (i := 6) rfl rfl (fun _ => rfl))) (Ty.TP.tx (tp_c (val := MV.int) rfl))) (tp_v (i := 7) rfl rfl (fun _ => rfl)) (fun _ => rfl) (fun _ _ => rfl) (kp_law_draws_lcells.sub rfl))) (ts_expr (tx_meth (D0 := [5, 4, 6, 7, 8, 2, 0, 1]) 3 mo_app (txa_c (tx_2o o_mod (Ty.TP.tx (tp_f1 (Op1.rd f1_int) (tp_v (i := 5) rfl rfl (fun _ => rfl)))) (Ty.TP.tx (tp_c (val := MV.int) rfl))) (Ty.TPA.tx tpa_n)) (fun _ => rfl) (fun _ _ => rfl) (kp_law_draws_lfound.sub rfl))))))))) (ts_seq (ts_expr (by rw [mM0_eq]; exact (tx_meth (D0 := [4, 2, 0, 1]) 3 mo_rev (Ty.TPA.tx tpa_n) (fun _ => rfl) (fun _ _ => rfl) (kp_law_draws_lfound.sub rfl)))) (ts_retO 3 (fun _ => rfl))))))))
   (fun _ _ => ⟨⟨rfl, rfl⟩, ⟨⟨rfl, rfl⟩, trivial⟩⟩) (fun _ => trivial) (fun r h => by cases h)
structure V_law_take where
  ldraws_here : (List Int)
  llimit : Int
@[reducible] def V_law_take.put_ldraws_here (s : V_law_take) (v : (List Int)) : V_law_take := { s with ldraws_here := v }
def tb_law_take : Nat → Slot V_law_take
  | 0 => ⟨0, fun s => (own1 MV.int) s.ldraws_here⟩
  | 1 => ⟨1, fun s => (fz MV.int) s.llimit⟩
  | _ => ⟨0, fun _ => fz nV ()⟩
abbrev cx_law_take : Cx V_law_take Int := ⟨tb_law_take, 2, [], [0], [0], [0], (fz MV.int)⟩
theorem kp_law_take_ldraws_here : Keep tb_law_take V_law_take.put_ldraws_here 0 [1] := ⟨kq, trivial⟩
def F_law_take : ((List Int) × Unit) → (Int × Unit) → X ((List Int) × Unit) Int := yRun (fun (i : (List Int) × Unit) (a : Int × Unit) => ({ ldraws_here := i.1, llimit := a.1 } : V_law_take)) (fun s => (s.ldraws_here, ())) (none : Option Int) (ySeq (yIf (x2 (fun a b => if false = true then !decide (a = b) else decide (a = b)) (x1 (fun xs => (xs.length : Int)) (xV V_law_take.ldraws_here)) (xC (0 : Int))) (yRet (xC (0 : Int))) yNil) (yRet (x2o gMod (x1 (fun i : Int => i) (xMeth V_law_take.ldraws_here V_law_take.put_ldraws_here gPop xN)) (xV V_law_take.llimit))))
theorem ty_law_take : TFun (.io (own1 MV.int) (.fr MV.int (.nil)) : PSpec ((List Int) × Unit) (Int × Unit)) m_law_take F_law_take (fz MV.int) := by
  unfold m_law_take F_law_take
  exact tf_mk (c := cx_law_take) (D0 := [0, 1]) (D1 := [0])
   (ts_seq (ts_if (D' := [0, 1]) (D1 := [0, 1]) (txt_v (tx_2 (o_eq (neg := false) dt_int) (Ty.TP.tx (tp_f1 f1_lenO (tp_v (i := 0) rfl rfl (fun _ => rfl)))) (Ty.TP.tx (tp_c (val := MV.int) rfl)))) (ts_ret (Ty.TP.tx (tp_c (val := MV.int) rfl))) ts_nil) (ts_ret (tx_2o o_mod (tx_f1 f1_int (by rw [mM0_eq]; exact (tx_meth (D0 := [1]) 0 mo_pop (Ty.TPA.tx tpa_n) (fun _ => rfl) (fun _ _ => rfl) (kp_law_take_ldraws_here.sub rfl)))) (Ty.TP.tx (tp_v (i := 1) rfl rfl (fun _ => rfl))))))
   (fun _ _ => ⟨⟨rfl, rfl⟩, ⟨⟨rfl, rfl⟩, trivial⟩⟩) (fun _ => ⟨⟨rfl, rfl⟩, trivial⟩) (fun r h => by cases h)
structure V_law_machine where
  lcount : Int
  ldraws_here : (List Int)
  lmost : Int
  lopening : (List Int)
  llead_here : Int
  lk_c0 : Int
  loutputs : Int
  lrows : (List (List (Int × Int)))
  lstate : Int
  lrow : (List (Int × Int))
  linputs : Int
  lletter : Int
  ltarget : Int
@[reducible] def V_law_machine.put_lcount (s : V_law_machine) (v : Int) : V_law_machine := { s with lcount := v }
@[reducible] def V_law_machine.put_ldraws_here (s : V_law_machine) (v : (List Int)) : V_law_machine := { s with ldraws_here := v }
@[reducible] def V_law_machine.put_lopening (s : V_law_machine) (v : (List Int)) : V_law_machine := { s with lopening := v }
@[reducible] def V_law_machine.put_llead_here (s : V_law_machine) (v : Int) : V_law_machine := { s with llead_here := v }
@[reducible] def V_law_machine.put_lk_c0 (s : V_law_machine) (v : Int) : V_law_machine := { s with lk_c0 := v }
@[reducible] def V_law_machine.put_loutputs (s : V_law_machine) (v : Int) : V_law_machine := { s with loutputs := v }
@[reducible] def V_law_machine.put_lrows (s : V_law_machine) (v : (List (List (Int × Int)))) : V_law_machine := { s with lrows := v }
@[reducible] def V_law_machine.put_lstate (s : V_law_machine) (v : Int) : V_law_machine := { s with lstate := v }
@[reducible] def V_law_machine.put_lrow (s : V_law_machine) (v : (List (Int × Int))) : V_law_machine := { s with lrow := v }
@[reducible] def V_law_machine.put_linputs (s : V_law_machine) (v : Int) : V_law_machine := { s with linputs := v }
@[reducible] def V_law_machine.put_lletter (s : V_law_machine) (v : Int) : V_law_machine := { s with lletter := v }
@[reducible] def V_law_machine.put_ltarget (s : V_law_machine) (v : Int) : V_law_machine := { s with ltarget := v }
def tb_law_machine : Nat → Slot V_law_machine
  | 0 => ⟨0, fun s => (own1 MV.int) s.ldraws_here⟩
  | 1 => ⟨1, fun s => (fz MV.int) s.linputs⟩
  | 2 => ⟨2, fun s => (fz MV.int) s.loutputs⟩
  | 3 => ⟨3, fun s => (fz MV.int) s.llead_here⟩
  | 4 => ⟨4, fun s => (fz MV.int) s.lmost⟩
  | 5 => ⟨5, fun s => (fz MV.int) s.lcount⟩
  | 6 => ⟨6, fun s => (fz (lV MV.int)) s.lopening⟩
  | 7 => ⟨7, fun s => (fz MV.int) s.lk_c0⟩
  | 8 => ⟨8, fun s => (own1 (lV (p2 MV.int MV.int))) s.lrows⟩
  | 9 => ⟨10, fun s => (fz (lV (p2 MV.int MV.int))) s.lrow⟩
  | 10 => ⟨9, fun s => (fz MV.int) s.lstate⟩
  | 11 => ⟨10, fun s => (own1 (p2 MV.int MV.int)) s.lrow⟩
  | 12 => ⟨12, fun s => (fz MV.int) s.ltarget⟩
  | 13 => ⟨11, fun s => (fz MV.int) s.lletter⟩
  | 14 => ⟨8, fun s => (fz (lV (lV (p2 MV.int MV.int)))) s.lrows⟩
  | _ => ⟨0, fun _ => fz nV ()⟩
abbrev cx_law_machine : Cx V_law_machine ((List Int) × (List (List (Int × Int)))) := ⟨tb_law_machine, 13, [], [0], [0], [0], (fz (p2 (lV MV.int) (lV (lV (p2 MV.int MV.int)))))⟩
theorem kp_law_machine_lcount : Keep tb_law_machine V_law_machine.put_lcount 5 [0, 1, 2, 3, 4, 6, 7, 8, 9, 10, 11, 12, 13, 14] := ⟨kq, ⟨kq, ⟨kq, ⟨kq, ⟨kq, ⟨kq, ⟨kq, ⟨kq, ⟨kq, ⟨kq, ⟨kq, ⟨kq, ⟨kq, ⟨kq, trivial⟩⟩⟩⟩⟩⟩⟩⟩⟩⟩⟩⟩⟩⟩
theorem kp_law_machine_ldraws_here : Keep tb_law_machine V_law_machine.put_ldraws_here 0 [1, 2, 3, 4, 5, 6, 7, 8, 9, 10, 11, 12, 13, 14] := ⟨kq, ⟨kq, ⟨kq, ⟨kq, ⟨kq, ⟨kq, ⟨kq, ⟨kq, ⟨kq, ⟨kq, ⟨kq, ⟨kq, ⟨kq, ⟨kq, trivial⟩⟩⟩⟩⟩⟩⟩⟩⟩⟩⟩⟩⟩⟩
theorem kp_law_machine_lopening : Keep tb_law_machine V_law_machine.put_lopening 6 [0, 1, 2, 3, 4, 5, 7, 8, 9, 10, 11, 12, 13, 14] := ⟨kq, ⟨kq, ⟨kq, ⟨kq, ⟨kq, ⟨kq, ⟨kq, ⟨kq, ⟨kq, ⟨kq, ⟨kq, ⟨kq, ⟨kq, ⟨kq, trivial⟩⟩⟩⟩⟩⟩⟩⟩⟩⟩⟩⟩⟩⟩
theorem kp_law_machine_lk_c0 : Keep tb_law_machine V_law_machine.put_lk_c0 7 [0, 1, 2, 3, 4, 5, 6, 8, 9, 10, 11, 12, 13, 14] := ⟨kq, ⟨kq, ⟨kq, ⟨kq, ⟨kq, ⟨kq, ⟨kq, ⟨kq, ⟨kq, ⟨kq, ⟨kq, ⟨kq, ⟨kq, ⟨kq, trivial⟩⟩⟩⟩⟩⟩⟩⟩⟩⟩⟩⟩⟩⟩
theorem kp_law_machine_lrows : Keep tb_law_machine V_law_machine.put_lrows 8 [0, 1, 2, 3, 4, 5, 6, 7, 9, 10, 11, 12, 13] := ⟨kq, ⟨kq, ⟨kq, ⟨kq, ⟨kq, ⟨kq, ⟨kq, ⟨kq, ⟨kq, ⟨kq, ⟨kq, ⟨kq, ⟨kq, trivial⟩⟩⟩⟩⟩⟩⟩⟩⟩⟩⟩⟩⟩
theorem kp_law_machine_lstate : Keep tb_law_machine V_law_machine.put_lstate 9 [0, 1, 2, 3, 4, 5, 6, 7, 8, 9, 11, 12, 13, 14] := ⟨kq, ⟨kq, ⟨kq, ⟨kq, ⟨kq, ⟨kq, ⟨kq, ⟨kq, ⟨kq, ⟨kq, ⟨kq, ⟨kq, ⟨kq, ⟨kq, trivial⟩⟩⟩⟩⟩⟩⟩⟩⟩⟩⟩⟩⟩⟩
theorem kp_law_machine_lrow : Keep tb_law_machine V_law_machine.put_lrow 10 [0, 1, 2, 3, 4, 5, 6, 7, 8, 10, 12, 13, 14] := ⟨kq, ⟨kq, ⟨kq, ⟨kq, ⟨kq, ⟨kq, ⟨kq, ⟨kq, ⟨kq, ⟨kq, ⟨kq, ⟨kq, ⟨kq, trivial⟩⟩⟩⟩⟩⟩⟩⟩⟩⟩⟩⟩⟩
theorem kp_law_machine_lletter : Keep tb_law_machine V_law_machine.put_lletter 11 [0, 1, 2, 3, 4, 5, 6, 7, 8, 9, 10, 11, 12, 14] := ⟨kq, ⟨kq, ⟨kq, ⟨kq, ⟨kq, ⟨kq, ⟨kq, ⟨kq, ⟨kq, ⟨kq, ⟨kq, ⟨kq, ⟨kq, ⟨kq, trivial⟩⟩⟩⟩⟩⟩⟩⟩⟩⟩⟩⟩⟩⟩
theorem kp_law_machine_ltarget : Keep tb_law_machine V_law_machine.put_ltarget 12 [0, 1, 2, 3, 4, 5, 6, 7, 8, 9, 10, 11, 13, 14] := ⟨kq, ⟨kq, ⟨kq, ⟨kq, ⟨kq, ⟨kq, ⟨kq, ⟨kq, ⟨kq, ⟨kq, ⟨kq, ⟨kq, ⟨kq, ⟨kq, trivial⟩⟩⟩⟩⟩⟩⟩⟩⟩⟩⟩⟩⟩⟩
def F_law_machine : ((List Int) × Unit) → (Int × Int × Int × Int × Unit) → X ((List Int) × Unit) ((List Int) × (List (List (Int × Int)))) := yRun (fun (i : (List Int) × Unit) (a : Int × Int × Int × Int × Unit) => ({ lcount := default, ldraws_here := i.1, lmost := a.2.2.2.1, lopening := default, llead_here := a.2.2.1, lk_c0 := default, loutputs := a.2.1, lrows := default, lstate := default, lrow := default, linputs := a.1, lletter := default, ltarget := default } : V_law_machine)) (fun s => (s.ldraws_here, ())) (none : Option ((List Int) × (List (List (Int × Int))))) (ySeq (ySet V_law_machine.put_lcount (x2 (fun i j : Int => i + j) (xC (1 : Int)) (xCall F_law_take (fun s => (V_law_machine.ldraws_here s, ())) (fun s a => V_law_machine.put_ldraws_here s a.1) (xCs (xV V_law_machine.lmost) (xC ()))))) (ySeq (ySet V_law_machine.put_lopening (xComp (x1o gRng1 (xCs (x1 (fun x : Int × Int × Unit => max x.1 x.2.1) (xCs (xC (0 : Int)) (xCs (x1 (fun i : Int => -i) (xV V_law_machine.llead_here)) xN))) xN)) V_law_machine.put_lk_c0 xYes (xCall F_law_take (fun s => (V_law_machine.ldraws_here s, ())) (fun s a => V_law_machine.put_ldraws_here s a.1) (xCs (xV V_law_machine.loutputs) (xC ()))))) (ySeq (ySet V_law_machine.put_lrows (x1 (fun (x : Unit) => ([] : List (List (Int × Int)))) xN)) (ySeq (yFor (x1o gRng1 (xCs (xV V_law_machine.lcount) xN)) V_law_machine.put_lstate (ySeq (ySet V_law_machine.put_lrow (x1 (fun (x : Unit) => ([] : List (Int × Int))) xN)) (ySeq (yFor (x1o gRng1 (xCs (xV V_law_machine.linputs) xN)) V_law_machine.put_lletter (ySeq (ySet V_law_machine.put_ltarget (xCall F_law_take (fun s => (V_law_machine.ldraws_here s, ())) (fun s a => V_law_machine.put_ldraws_here s a.1) (xCs (xV V_law_machine.lcount) (xC ())))) (yExpr (xMeth V_law_machine.lrow V_law_machine.put_lrow gApp (xCs (x1 (fun (x : Int × Int × Unit) => (x.1, x.2.1)) (xCs (xV V_law_machine.ltarget) (xCs (xCall F_law_take (fun s => (V_law_machine.ldraws_here s, ())) (fun s a => V_law_machine.put_ldraws_here s a.1) (xCs (xV V_law_machine.loutputs) (xC ()))) xN))) xN))))) (yExpr (xMeth V_law_machine.lrows V_law_machine.put_lrows gApp (xCs (xV V_law_machine.lrow) xN)))))) (yRet (x1 (fun (x : (List Int) × (List (List (Int × Int))) × Unit) => (x.1, x.2.1)) (xCs (xV V_law_machine.lopening) (xCs (xV V_law_machine.lrows) xN))))))))
theorem ty_law_machine : TFun (.io (own1 MV.int) (.fr MV.int (.fr MV.int (.fr MV.int (.fr MV.int (.nil))))) : PSpec ((List Int) × Unit) (Int × Int × Int × Int × Unit)) m_law_machine F_law_machine (fz (p2 (lV MV.int) (lV (lV (p2 MV.int MV.int))))) := by
  unfold m_law_machine F_law_machine
  exact tf_mk (c := cx_law_machine) (D0 := [0, 1, 2, 3, 4]) (D1 := [0])
   (ts_seq (ts_set (D0 := [0, 1, 2, 3, 4]) 5 (tx_2 o_add (Ty.TP.tx (tp_c (val := MV.int) rfl)) (tx_callK1 (D0 := [1, 2, 3, 4]) 0 ty_law_take (txp_i (txp_f (Ty.TP.tx (tp_v (i := 4) rfl rfl (fun _ => rfl))) txp_n)) (fun _ => ⟨rfl, trivial⟩) (fun _ _ => ⟨rfl, trivial⟩) (kp_law_machine_ldraws_here.sub rfl))) (kp_law_machine_lcount.sub rfl) (fun _ _ => rfl)) (ts_seq (ts_set (D0 := [5, 0, 1, 2, 3, 4]) 6 (tx_comp (ti_range1 (txa_c (tx_a (OpF.a ff_max) (txa_c (Ty.TP.tx (tp_c (val := MV.int) rfl)) (txa_c (tx_1 o_neg (Ty.TP.tx (tp_v (i := 3) rfl rfl (fun _ => rfl)))) (Ty.TPA.tx tpa_n)))) (Ty.TPA.tx tpa_n))) (tg_nm (D0 := [5, 0, 1, 2, 3, 4]) 7 (kp_law_machine_lk_c0.sub rfl) (fun _ _ => rfl)) txt_yes (tx_callK1 (D0 := [7, 5, 1, 2, 3, 4]) 0 ty_law_take (txp_i (txp_f (Ty.TP.tx (tp_v (i := 2) rfl rfl (fun _ => rfl))) txp_n)) (fun _ => ⟨rfl, trivial⟩) (fun _ _ => ⟨rfl, trivial⟩) (kp_law_machine_ldraws_here.sub rfl))) (kp_law_machine_lopening.sub rfl) (fun _ _ => rfl)) (ts_seq (ts_set (D0 := [6, 5, 0, 1, 2, 3, 4]) 8 (tx_lst (va := (lV (p2 MV.int MV.int))) (fun _ => rfl) 0 (fun _ => rfl) (Ty.TPA.tx tpa_n)) (kp_law_machine_lrows.sub rfl) (fun _ _ => rfl)) (ts_seq (ts_for (Dl := [8, 6, 5, 0, 1, 2, 3, 4]) (D2 := [9, 10, 8, 6, 5, 0, 1, 2, 3, 4]) (ti_range1 (txa_c (Ty.TP.tx (tp_v (i := 5) rfl rfl (fun _ => rfl))) (Ty.TPA.tx tpa_n))) (tg_nm (D0 := [8, 6, 5, 0, 1, 2, 3, 4]) 10 (kp_law_machine_lstate.sub rfl) (fun _ _ => rfl)) (ts_seq (ts_set (D0 := [10, 8, 6, 5, 0, 1, 2, 3, 4]) 11 (tx_lst (va := (p2 MV.int MV.int)) (fun _ => rfl) 0 (fun _ => rfl) (Ty.TPA.tx tpa_n)) (kp_law_machine_lrow.sub rfl) (fun _ _ => rfl)) (ts_seq (ts_for (Dl := [11, 10, 8, 6, 5, 0, 1, 2, 3, 4]) (D2 := [12, 13, 11, 10, 8, 6, 5, 0, 1, 2, 3, 4]) (ti_range1 (txa_c (Ty.TP.tx (tp_v (i := 1) rfl rfl (fun _ => rfl))) (Ty.TPA.tx tpa_n))) (tg_nm (D0 := [11, 10, 8, 6, 5, 0, 1, 2, 3, 4]) 13 (kp_law_machine_lletter.sub rfl) (fun _ _ => rfl)) (ts_seq (ts_set (D0 := [13, 11, 10, 8, 6, 5, 0, 1, 2, 3, 4]) 12 (tx_callK1 (D0 := [13, 11, 10, 8, 6, 5, 1, 2, 3, 4]) 0 ty_law_take (txp_i (txp_f (Ty.TP.tx (tp_v (i := 5) rfl rfl (fun _ => rfl))) txp_n)) (fun _ => ⟨rfl, trivial⟩) (fun _ _ => ⟨rfl, trivial⟩) (kp_law_machine_ldraws_here.sub rfl)) (kp_law_machine_ltarget.sub rfl) (fun _ _ => rfl)) (ts_expr (tx_meth (D0 := [12, 13, 10, 8, 6, 5, 0, 1, 2, 3, 4]) 11 mo_app (txa_c (tx_a (oa_tup (vc := (p2 MV.int MV.int)) (t := (fun (x : Int × Int × Unit) => (x.1, x.2.1))) (fun _ => rfl) 2 (fun _ => rfl)) (txa_c (Ty.TP.tx (tp_v (i := 12) rfl rfl (fun _ => rfl))) (txa_c (tx_callK1 (D0 := [12, 13, 11, 10, 8, 6, 5, 1, 2, 3, 4]) 0 ty_law_take (txp_i (txp_f (Ty.TP.tx (tp_v (i := 2) rfl rfl (fun _ => rfl))) txp_n)) (fun _ => ⟨rfl, trivial⟩) (fun _ _ => ⟨rfl, trivial⟩) (kp_law_machine_ldraws_here.sub rfl)) (Ty.TPA.tx tpa_n)))) (Ty.TPA.tx tpa_n)) (fun _ => rfl) (fun _ _ => rfl) (kp_law_machine_lrow.sub rfl))))) (ts_frz (D0 := [10, 8, 6, 5, 0, 1, 2, 3, 4]) 11 9 (ts_expr (tx_meth (D0 := [9, 10, 6, 5, 0, 1, 2, 3, 4]) 8 mo_app (txa_c (Ty.TP.tx (tp_v (i := 9) rfl rfl (fun _ => rfl))) (Ty.TPA.tx tpa_n)) (fun _ => rfl) (fun _ _ => rfl) (kp_law_machine_lrows.sub rfl))) (fun _ => frz_1 (fix_p2 fix_int fix_int)) rfl rfl (kp_law_machine_lrow.sub rfl : Keep _ _ _ [10, 8, 6, 5, 0, 1, 2, 3, 4]).same)))) (ts_frz (D0 := [6, 5, 0, 1, 2, 3, 4]) 8 14 (ts_ret (tx_a (oa_tup (vc := (p2 (lV MV.int) (lV (lV (p2 MV.int MV.int))))) (t := (fun (x : (List Int) × (List (List (Int × Int))) × Unit) => (x.1, x.2.1))) (fun _ => rfl) 2 (fun _ => rfl)) (txa_c (Ty.TP.tx (tp_v (i := 6) rfl rfl (fun _ => rfl))) (txa_c (Ty.TP.tx (tp_v (i := 14) rfl rfl (fun _ => rfl))) (Ty.TPA.tx tpa_n))))) (fun _ => frz_1 fix_l) rfl rfl (kp_law_machine_lrows.sub rfl : Keep _ _ _ [6, 5, 0, 1, 2, 3, 4]).same)))))
   (fun _ _ => ⟨⟨rfl, rfl⟩, ⟨⟨rfl, rfl⟩, ⟨⟨rfl, rfl⟩, ⟨⟨rfl, rfl⟩, ⟨⟨rfl, rfl⟩, trivial⟩⟩⟩⟩⟩) (fun _ => ⟨⟨rfl, rfl⟩, trivial⟩) (fun r h => by cases h)
structure V_law_machine_text where
  ltext : Str
  linputs : Int
  loutputs : Int
  llead_here : Int
  lopening : (List Int)
  lletter_c0 : Int
  lrows : (List (List (Int × Int)))
  lrow : (List (Int × Int))
  lpair_c1 : (Int × Int)
@[reducible] def V_law_machine_text.put_ltext (s : V_law_machine_text) (v : Str) : V_law_machine_text := { s with ltext := v }
@[reducible] def V_law_machine_text.put_linputs (s : V_law_machine_text) (v : Int) : V_law_machine_text := { s with linputs := v }
@[reducible] def V_law_machine_text.put_loutputs (s : V_law_machine_text) (v : Int) : V_law_machine_text := { s with loutputs := v }
@[reducible] def V_law_machine_text.put_llead_here (s : V_law_machine_text) (v : Int) : V_law_machine_text := { s with llead_here := v }
@[reducible] def V_law_machine_text.put_lopening (s : V_law_machine_text) (v : (List Int)) : V_law_machine_text := { s with lopening := v }
@[reducible] def V_law_machine_text.put_lletter_c0 (s : V_law_machine_text) (v : Int) : V_law_machine_text := { s with lletter_c0 := v }
@[reducible] def V_law_machine_text.put_lrows (s : V_law_machine_text) (v : (List (List (Int × Int)))) : V_law_machine_text := { s with lrows := v }
@[reducible] def V_law_machine_text.put_lrow (s : V_law_machine_text) (v : (List (Int × Int))) : V_law_machine_text := { s with lrow := v }
@[reducible] def V_law_machine_text.put_lpair_c1 (s : V_law_machine_text) (v : (Int × Int)) : V_law_machine_text := { s with lpair_c1 := v }
def tb_law_machine_text : Nat → Slot V_law_machine_text
  | 0 => ⟨0, fun s => (fz MV.int) s.linputs⟩
  | 1 => ⟨1, fun s => (fz MV.int) s.loutputs⟩
  | 2 => ⟨2, fun s => (fz MV.int) s.llead_here⟩
  | 3 => ⟨3, fun s => (fz (lV MV.int)) s.lopening⟩
  | 4 => ⟨4, fun s => (fz (lV (lV (p2 MV.int MV.int)))) s.lrows⟩
  | 5 => ⟨5, fun s => (fz MV.str) s.ltext⟩
  | 6 => ⟨6, fun s => (fz MV.int) s.lletter_c0⟩
  | 7 => ⟨7, fun s => (fz (lV (p2 MV.int MV.int))) s.lrow⟩
  | 8 => ⟨8, fun s => (fz (p2 MV.int MV.int)) s.lpair_c1⟩
  | _ => ⟨0, fun _ => fz nV ()⟩
abbrev cx_law_machine_text : Cx V_law_machine_text Str := ⟨tb_law_machine_text, 9, [], [], [], [], (fz MV.str)⟩
theorem kp_law_machine_text_ltext : Keep tb_law_machine_text V_law_machine_text.put_ltext 5 [0, 1, 2, 3, 4, 6, 7, 8] := ⟨kq, ⟨kq, ⟨kq, ⟨kq, ⟨kq, ⟨kq, ⟨kq, ⟨kq, trivial⟩⟩⟩⟩⟩⟩⟩⟩
theorem kp_law_machine_text_lletter_c0 : Keep tb_law_machine_text V_law_machine_text.put_lletter_c0 6 [0, 1, 2, 3, 4, 5, 7, 8] := ⟨kq, ⟨kq, ⟨kq, ⟨kq, ⟨kq, ⟨kq, ⟨kq, ⟨kq, trivial⟩⟩⟩⟩⟩⟩⟩⟩
theorem kp_law_machine_text_lrow : Keep tb_law_machine_text V_law_machine_text.put_lrow 7 [0, 1, 2, 3, 4, 5, 6, 8] := ⟨kq, ⟨kq, ⟨kq, ⟨kq, ⟨kq, ⟨kq, ⟨kq, ⟨kq, trivial⟩⟩⟩⟩⟩⟩⟩⟩
theorem kp_law_machine_text_lpair_c1 : Keep tb_law_machine_text V_law_machine_text.put_lpair_c1 8 [0, 1, 2, 3, 4, 5, 6, 7] := ⟨kq, ⟨kq, ⟨kq, ⟨kq, ⟨kq, ⟨kq, ⟨kq, ⟨kq, trivial⟩⟩⟩⟩⟩⟩⟩⟩
def F_law_machine_text : (Unit) → (Int × Int × Int × (List Int) × (List (List (Int × Int))) × Unit) → X (Unit) Str := yRun (fun (i : Unit) (a : Int × Int × Int × (List Int) × (List (List (Int × Int))) × Unit) => ({ ltext := default, linputs := a.1, loutputs := a.2.1, llead_here := a.2.2.1, lopening := a.2.2.2.1, lletter_c0 := default, lrows := a.2.2.2.2.1, lrow := default, lpair_c1 := default } : V_law_machine_text)) (fun s => (())) (none : Option Str) (ySeq (ySet V_law_machine_text.put_ltext (x2o gSCat (x2o gSCat (x2o gSCat (x2o gSCat (x2o gSCat (x2o gSCat (xC ("machine " : Str)) (x1o gStr (xV V_law_machine_text.linputs))) (xC (" " : Str))) (x1o gStr (xV V_law_machine_text.loutputs))) (xC (" " : Str))) (x1o gStr (xV V_law_machine_text.llead_here))) (xC ("\n" : Str)))) (ySeq (ySet V_law_machine_text.put_ltext (x2o gSCat (x2o gSCat (xV V_law_machine_text.ltext) (x1o (gJoin " ") (x2o gCat (x1 (fun (x : Str × Unit) => ([x.1] : List Str)) (xCs (xC ("opening" : Str)) xN)) (xComp (xV V_law_machine_text.lopening) V_law_machine_text.put_lletter_c0 xYes (x1o gStr (xV V_law_machine_text.lletter_c0)))))) (xC ("\n" : Str)))) (ySeq (yFor (xV V_law_machine_text.lrows) V_law_machine_text.put_lrow (ySet V_law_machine_text.put_ltext (x2o gSCat (x2o gSCat (xV V_law_machine_text.ltext) (x1o (gJoin " ") (xComp (xV V_law_machine_text.lrow) V_law_machine_text.put_lpair_c1 xYes (x2o gSCat (x2o gSCat (x1o gStr (x1 (fun x : (Int × Int) => x.1) (xV V_law_machine_text.lpair_c1))) (xC ("/" : Str))) (x1o gStr (x1 (fun x : (Int × Int) => x.2) (xV V_law_machine_text.lpair_c1))))))) (xC ("\n" : Str))))) (yRet (xV V_law_machine_text.ltext)))))
theorem ty_law_machine_text : TFun (.fr MV.int (.fr MV.int (.fr MV.int (.fr (lV MV.int) (.fr (lV (lV (p2 MV.int MV.int))) (.nil))))) : PSpec (Unit) (Int × Int × Int × (List Int) × (List (List (Int × Int))) × Unit)) m_law_machine_text F_law_machine_text (fz MV.str) := by
  unfold m_law_machine_text F_law_machine_text
  exact tf_mk (c := cx_law_machine_text) (D0 := [0, 1, 2, 3, 4]) (D1 := [])
   (ts_seq (ts_set (D0 := [0, 1, 2, 3, 4]) 5 (tx_2o o_scat (tx_2o o_scat (tx_2o o_scat (tx_2o o_scat (tx_2o o_scat (tx_2o o_scat (Ty.TP.tx (tp_c (val := MV.str) rfl)) (Ty.TP.tx (tp_f1o (Op1.rd f1_str) (tp_v (i := 0) rfl rfl (fun _ => rfl))))) (Ty.TP.tx (tp_c (val := MV.str) rfl))) (Ty.TP.tx (tp_f1o (Op1.rd f1_str) (tp_v (i := 1) rfl rfl (fun _ => rfl))))) (Ty.TP.tx (tp_c (val := MV.str) rfl))) (Ty.TP.tx (tp_f1o (Op1.rd f1_str) (tp_v (i := 2) rfl rfl (fun _ => rfl))))) (Ty.TP.tx (tp_c (val := MV.str) rfl))) (kp_law_machine_text_ltext.sub rfl) (fun _ _ => rfl)) (ts_seq (ts_set (D0 := [0, 1, 2, 3, 4]) 5 (tx_2o o_scat (tx_2o o_scat (Ty.TP.tx (tp_v (i := 5) rfl rfl (fun _ => rfl))) (tx_join (tx_2o o_addLF (tx_a (oa_lst (vc := (lV MV.str)) (t := (fun (x : Str × Unit) => ([x.1] : List Str))) (fun _ => rfl) 1 (fun _ => rfl)) (txa_c (Ty.TP.tx (tp_c (val := MV.str) rfl)) (Ty.TPA.tx tpa_n))) (tx_comp (ti_l (Ty.TP.tx (tp_v (i := 3) rfl rfl (fun _ => rfl)))) (tg_nm (D0 := [5, 0, 1, 2, 3, 4]) 6 (kp_law_machine_text_lletter_c0.sub rfl) (fun _ _ => rfl)) txt_yes (Ty.TP.tx (tp_f1o (Op1.rd f1_str) (tp_v (i := 6) rfl rfl (fun _ => rfl)))))))) (Ty.TP.tx (tp_c (val := MV.str) rfl))) (kp_law_machine_text_ltext.sub rfl) (fun _ _ => rfl)) (ts_seq (ts_for (Dl := [5, 0, 1, 2, 3, 4]) (D2 := [5, 7, 0, 1, 2, 3, 4]) (ti_l (Ty.TP.tx (tp_v (i := 4) rfl rfl (fun _ => rfl)))) (tg_nm (D0 := [5, 0, 1, 2, 3, 4]) 7 (kp_law_machine_text_lrow.sub rfl) (fun _ _ => rfl)) (ts_set (D0 := [7, 0, 1, 2, 3, 4]) 5 (tx_2o o_scat (tx_2o o_scat (Ty.TP.tx (tp_v (i := 5) rfl rfl (fun _ => rfl))) (tx_join (tx_comp (ti_l (Ty.TP.tx (tp_v (i := 7) rfl rfl (fun _ => rfl)))) (tg_nm (D0 := [7, 5, 0, 1, 2, 3, 4]) 8 (kp_law_machine_text_lpair_c1.sub rfl) (fun _ _ => rfl)) txt_yes (tx_2o o_scat (tx_2o o_scat (Ty.TP.tx (tp_f1o (Op1.rd f1_str) (tp_pr (vc := MV.int) (pr := (fun x : (Int × Int) => x.1)) (fun _ _ => rfl) (tp_v (i := 8) rfl rfl (fun _ => rfl))))) (Ty.TP.tx (tp_c (val := MV.str) rfl))) (Ty.TP.tx (tp_f1o (Op1.rd f1_str) (tp_pr (vc := MV.int) (pr := (fun x : (Int × Int) => x.2)) (fun _ _ => rfl) (tp_v (i := 8) rfl rfl (fun _ => rfl))))))))) (Ty.TP.tx (tp_c (val := MV.str) rfl))) (kp_law_machine_text_ltext.sub rfl) (fun _ _ => rfl))) (ts_ret (Ty.TP.tx (tp_v (i := 5) rfl rfl (fun _ => rfl)))))))
   (fun _ _ => ⟨⟨rfl, rfl⟩, ⟨⟨rfl, rfl⟩, ⟨⟨rfl, rfl⟩, ⟨⟨rfl, rfl⟩, ⟨⟨rfl, rfl⟩, trivial⟩⟩⟩⟩⟩) (fun _ => trivial) (fun r h => by cases h)
structure V_law_change where
  lkind : Int
  ldraws_here : (List Int)
  lat : Int
  ltext : Str
  lchars : Str
  lsign : Str
  llines : (List Str)
  lk : Int
@[reducible] def V_law_change.put_lkind (s : V_law_change) (v : Int) : V_law_change := { s with lkind := v }
@[reducible] def V_law_change.put_ldraws_here (s : V_law_change) (v : (List Int)) : V_law_change := { s with ldraws_here := v }
@[reducible] def V_law_change.put_lat (s : V_law_change) (v : Int) : V_law_change := { s with lat := v }
@[reducible] def V_law_change.put_ltext (s : V_law_change) (v : Str) : V_law_change := { s with ltext := v }
@[reducible] def V_law_change.put_lchars (s : V_law_change) (v : Str) : V_law_change := { s with lchars := v }
@[reducible] def V_law_change.put_lsign (s : V_law_change) (v : Str) : V_law_change := { s with lsign := v }
@[reducible] def V_law_change.put_llines (s : V_law_change) (v : (List Str)) : V_law_change := { s with llines := v }
@[reducible] def V_law_change.put_lk (s : V_law_change) (v : Int) : V_law_change := { s with lk := v }
def tb_law_change : Nat → Slot V_law_change
  | 0 => ⟨0, fun s => (own1 MV.int) s.ldraws_here⟩
  | 1 => ⟨1, fun s => (fz MV.str) s.ltext⟩
  | 2 => ⟨2, fun s => (fz MV.int) s.lkind⟩
  | 3 => ⟨3, fun s => (fz MV.int) s.lat⟩
  | 4 => ⟨4, fun s => (fz MV.str) s.lchars⟩
  | 5 => ⟨5, fun s => (fz MV.str) s.lsign⟩
  | 6 => ⟨6, fun s => (fz (lV MV.str)) s.llines⟩
  | 7 => ⟨7, fun s => (fz MV.int) s.lk⟩
  | _ => ⟨0, fun _ => fz nV ()⟩
abbrev cx_law_change : Cx V_law_change Str := ⟨tb_law_change, 8, [], [0], [0], [0], (fz MV.str)⟩
theorem kp_law_change_lkind : Keep tb_law_change V_law_change.put_lkind 2 [0, 1, 3, 4, 5, 6, 7] := ⟨kq, ⟨kq, ⟨kq, ⟨kq, ⟨kq, ⟨kq, ⟨kq, trivial⟩⟩⟩⟩⟩⟩⟩
theorem kp_law_change_ldraws_here : Keep tb_law_change V_law_change.put_ldraws_here 0 [1, 2, 3, 4, 5, 6, 7] := ⟨kq, ⟨kq, ⟨kq, ⟨kq, ⟨kq, ⟨kq, ⟨kq, trivial⟩⟩⟩⟩⟩⟩⟩
theorem kp_law_change_lat : Keep tb_law_change V_law_change.put_lat 3 [0, 1, 2, 4, 5, 6, 7] := ⟨kq, ⟨kq, ⟨kq, ⟨kq, ⟨kq, ⟨kq, ⟨kq, trivial⟩⟩⟩⟩⟩⟩⟩
theorem kp_law_change_lchars : Keep tb_law_change V_law_change.put_lchars 4 [0, 1, 2, 3, 5, 6, 7] := ⟨kq, ⟨kq, ⟨kq, ⟨kq, ⟨kq, ⟨kq, ⟨kq, trivial⟩⟩⟩⟩⟩⟩⟩
theorem kp_law_change_lsign : Keep tb_law_change V_law_change.put_lsign 5 [0, 1, 2, 3, 4, 6, 7] := ⟨kq, ⟨kq, ⟨kq, ⟨kq, ⟨kq, ⟨kq, ⟨kq, trivial⟩⟩⟩⟩⟩⟩⟩
theorem kp_law_change_llines : Keep tb_law_change V_law_change.put_llines 6 [0, 1, 2, 3, 4, 5, 7] := ⟨kq, ⟨kq, ⟨kq, ⟨kq, ⟨kq, ⟨kq, ⟨kq, trivial⟩⟩⟩⟩⟩⟩⟩
theorem kp_law_change_lk : Keep tb_law_change V_law_change.put_lk 7 [0, 1, 2, 3, 4, 5, 6] := ⟨kq, ⟨kq, ⟨kq, ⟨kq, ⟨kq, ⟨kq, ⟨kq, trivial⟩⟩⟩⟩⟩⟩⟩
def F_law_change : ((List Int) × Unit) → (Str × Unit) → X ((List Int) × Unit) Str := yRun (fun (i : (List Int) × Unit) (a : Str × Unit) => ({ lkind := default, ldraws_here := i.1, lat := default, ltext := a.1, lchars := default, lsign := default, llines := default, lk := default } : V_law_change)) (fun s => (s.ldraws_here, ())) (none : Option Str) (ySeq (ySet V_law_change.put_lkind (xCall F_law_take (fun s => (V_law_change.ldraws_here s, ())) (fun s a => V_law_change.put_ldraws_here s a.1) (xCs (xC (9 : Int)) (xC ())))) (ySeq (ySet V_law_change.put_lat (xCall F_law_take (fun s => (V_law_change.ldraws_here s, ())) (fun s a => V_law_change.put_ldraws_here s a.1) (xCs (x2 (fun i j : Int => i + j) (x1o gLenS (xV V_law_change.ltext)) (xC (1 : Int))) (xC ())))) (ySeq (ySet V_law_change.put_lchars (xC ("0123456789 /-\nmachineopg" : Str))) (ySeq (ySet V_law_change.put_lsign (x2o gSIx (xV V_law_change.lchars) (xCall F_law_take (fun s => (V_law_change.ldraws_here s, ())) (fun s a => V_law_change.put_ldraws_here s a.1) (xCs (x1o gLenS (xV V_law_change.lchars)) (xC ()))))) (ySeq (ySet V_law_change.put_llines (x1o (gSplit "\n") (xV V_law_change.ltext))) (ySeq (ySet V_law_change.put_lk (xCall F_law_take (fun s => (V_law_change.ldraws_here s, ())) (fun s a => V_law_change.put_ldraws_here s a.1) (xCs (x1 (fun xs => (xs.length : Int)) (xV V_law_change.llines)) (xC ())))) (ySeq (yIf (x2 (fun a b => if false = true then !decide (a = b) else decide (a = b)) (xV V_law_change.lkind) (xC (0 : Int))) (yRet (x2o gSCat (xSlS (xV V_law_change.ltext) (xC none) (x1 some (xV V_law_change.lat))) (xSlS (xV V_law_change.ltext) (x1 some (x2 (fun i j : Int => i + j) (xV V_law_change.lat) (xC (1 : Int)))) (xC none)))) yNil) (ySeq (yIf (x2 (fun i j : Int => decide (i < j)) (xV V_law_change.lkind) (xC (3 : Int))) (yRet (x2o gSCat (x2o gSCat (xSlS (xV V_law_change.ltext) (xC none) (x1 some (xV V_law_change.lat))) (xV V_law_change.lsign)) (xSlS (xV V_law_change.ltext) (x1 some (xV V_law_change.lat)) (xC none)))) yNil) (ySeq (yIf (x2 (fun i j : Int => decide (i < j)) (xV V_law_change.lkind) (xC (5 : Int))) (yRet (x2o gSCat (x2o gSCat (xSlS (xV V_law_change.ltext) (xC none) (x1 some (xV V_law_change.lat))) (xV V_law_change.lsign)) (xSlS (xV V_law_change.ltext) (x1 some (x2 (fun i j : Int => i + j) (xV V_law_change.lat) (xC (1 : Int)))) (xC none)))) yNil) (ySeq (yIf (x2 (fun a b => if false = true then !decide (a = b) else decide (a = b)) (xV V_law_change.lkind) (xC (5 : Int))) (yRet (x1o (gJoin "\n") (x2o gCat (xSl (xV V_law_change.llines) (xC none) (x1 some (xV V_law_change.lk))) (xSl (xV V_law_change.llines) (x1 some (x2 (fun i j : Int => i + j) (xV V_law_change.lk) (xC (1 : Int)))) (xC none))))) yNil) (ySeq (yIf (x2 (fun a b => if false = true then !decide (a = b) else decide (a = b)) (xV V_law_change.lkind) (xC (6 : Int))) (yRet (x1o (gJoin "\n") (x2o gCat (x2o gCat (xSl (xV V_law_change.llines) (xC none) (x1 some (xV V_law_change.lk))) (xSl (xV V_law_change.llines) (x1 some (xV V_law_change.lk)) (x1 some (x2 (fun i j : Int => i + j) (xV V_law_change.lk) (xC (1 : Int)))))) (xSl (xV V_law_change.llines) (x1 some (xV V_law_change.lk)) (xC none))))) yNil) (ySeq (yIf (x2 (fun a b => if false = true then !decide (a = b) else decide (a = b)) (xV V_law_change.lkind) (xC (7 : Int))) (yRet (x1o (gJoin "\n") (x2o gCat (x2o gCat (x2o gCat (xSl (xV V_law_change.llines) (xC none) (x1 some (xV V_law_change.lk))) (xSl (xV V_law_change.llines) (x1 some (x2 (fun i j : Int => i + j) (xV V_law_change.lk) (xC (1 : Int)))) (x1 some (x2 (fun i j : Int => i + j) (xV V_law_change.lk) (xC (2 : Int)))))) (xSl (xV V_law_change.llines) (x1 some (xV V_law_change.lk)) (x1 some (x2 (fun i j : Int => i + j) (xV V_law_change.lk) (xC (1 : Int)))))) (xSl (xV V_law_change.llines) (x1 some (x2 (fun i j : Int => i + j) (xV V_law_change.lk) (xC (2 : Int)))) (xC none))))) yNil) (yRet (xV V_law_change.ltext))))))))))))))
theorem ty_law_change : TFun (.io (own1 MV.int) (.fr MV.str (.nil)) : PSpec ((List Int) × Unit) (Str × Unit)) m_law_change F_law_change (fz MV.str) := by
  unfold m_law_change F_law_change
  exact tf_mk (c := cx_law_change) (D0 := [0, 1]) (D1 := [0])
   (ts_seq (ts_set (D0 := [0, 1]) 2 (tx_callK1 (D0 := [1]) 0 ty_law_take (txp_i (txp_f (Ty.TP.tx (tp_c (val := MV.int) rfl)) txp_n)) (fun _ => ⟨rfl, trivial⟩) (fun _ _ => ⟨rfl, trivial⟩) (kp_law_change_ldraws_here.sub rfl)) (kp_law_change_lkind.sub rfl) (fun _ _ => rfl)) (ts_seq (ts_set (D0 := [2, 0, 1]) 3 (tx_callK1 (D0 := [2, 1]) 0 ty_law_take (txp_i (txp_f (tx_2 o_add (Ty.TP.tx (tp_f1o (Op1.rd f1_lenX) (tp_v (i := 1) rfl rfl (fun _ => rfl)))) (Ty.TP.tx (tp_c (val := MV.int) rfl))) txp_n)) (fun _ => ⟨rfl, trivial⟩) (fun _ _ => ⟨rfl, trivial⟩) (kp_law_change_ldraws_here.sub rfl)) (kp_law_change_lat.sub rfl) (fun _ _ => rfl)) (ts_seq (ts_set (D0 := [3, 2, 0, 1]) 4 (Ty.TP.tx (tp_c (val := MV.str) rfl)) (kp_law_change_lchars.sub rfl) (fun _ _ => rfl)) (ts_seq (ts_set (D0 := [4, 3, 2, 0, 1]) 5 (tx_2o o_six (Ty.TP.tx (tp_v (i := 4) rfl rfl (fun _ => rfl))) (tx_callK1 (D0 := [4, 3, 2, 1]) 0 ty_law_take (txp_i (txp_f (Ty.TP.tx (tp_f1o (Op1.rd f1_lenX) (tp_v (i := 4) rfl rfl (fun _ => rfl)))) txp_n)) (fun _ => ⟨rfl, trivial⟩) (fun _ _ => ⟨rfl, trivial⟩) (kp_law_change_ldraws_here.sub rfl))) (kp_law_change_lsign.sub rfl) (fun _ _ => rfl)) (ts_seq (ts_set (D0 := [5, 4, 3, 2, 0, 1]) 6 (tx_split (Ty.TP.tx (tp_v (i := 1) rfl rfl (fun _ => rfl)))) (kp_law_change_llines.sub rfl) (fun _ _ => rfl)) (ts_seq (ts_set (D0 := [6, 5, 4, 3, 2, 0, 1]) 7 (tx_callK1 (D0 := [6, 5, 4, 3, 2, 1]) 0 ty_law_take (txp_i (txp_f (Ty.TP.tx (tp_f1 f1_lenL (tp_v (i := 6) rfl rfl (fun _ => rfl)))) txp_n)) (fun _ => ⟨rfl, trivial⟩) (fun _ _ => ⟨rfl, trivial⟩) (kp_law_change_ldraws_here.sub rfl)) (kp_law_change_lk.sub rfl) (fun _ _ => rfl)) (ts_seq (ts_if (D' := [7, 6, 5, 4, 3, 2, 0, 1]) (D1 := [7, 6, 5, 4, 3, 2, 0, 1]) (txt_v (tx_2 (o_eq (neg := false) dt_int) (Ty.TP.tx (tp_v (i := 2) rfl rfl (fun _ => rfl))) (Ty.TP.tx (tp_c (val := MV.int) rfl)))) (ts_ret (tx_2o o_scat (Ty.TP.tx (tp_slS (tp_v (i := 1) rfl rfl (fun _ => rfl)) tpi_n (tpi_s (tp_v (i := 3) rfl rfl (fun _ => rfl))))) (Ty.TP.tx (tp_slS (tp_v (i := 1) rfl rfl (fun _ => rfl)) (tpi_s (tp_2 (Op2.rd o_add) (tp_v (i := 3) rfl rfl (fun _ => rfl)) (tp_c (val := MV.int) rfl))) tpi_n)))) ts_nil) (ts_seq (ts_if (D' := [7, 6, 5, 4, 3, 2, 0, 1]) (D1 := [7, 6, 5, 4, 3, 2, 0, 1]) (txt_v (tx_2 o_lt (Ty.TP.tx (tp_v (i := 2) rfl rfl (fun _ => rfl))) (Ty.TP.tx (tp_c (val := MV.int) rfl)))) (ts_ret (tx_2o o_scat (tx_2o o_scat (Ty.TP.tx (tp_slS (tp_v (i := 1) rfl rfl (fun _ => rfl)) tpi_n (tpi_s (tp_v (i := 3) rfl rfl (fun _ => rfl))))) (Ty.TP.tx (tp_v (i := 5) rfl rfl (fun _ => rfl)))) (Ty.TP.tx (tp_slS (tp_v (i := 1) rfl rfl (fun _ => rfl)) (tpi_s (tp_v (i := 3) rfl rfl (fun _ => rfl))) tpi_n)))) ts_nil) (ts_seq (ts_if (D' := [7, 6, 5, 4, 3, 2, 0, 1]) (D1 := [7, 6, 5, 4, 3, 2, 0, 1]) (txt_v (tx_2 o_lt (Ty.TP.tx (tp_v (i := 2) rfl rfl (fun _ => rfl))) (Ty.TP.tx (tp_c (val := MV.int) rfl)))) (ts_ret (tx_2o o_scat (tx_2o o_scat (Ty.TP.tx (tp_slS (tp_v (i := 1) rfl rfl (fun _ => rfl)) tpi_n (tpi_s (tp_v (i := 3) rfl rfl (fun _ => rfl))))) (Ty.TP.tx (tp_v (i := 5) rfl rfl (fun _ => rfl)))) (Ty.TP.tx (tp_slS (tp_v (i := 1) rfl rfl (fun _ => rfl)) (tpi_s (tp_2 (Op2.rd o_add) (tp_v (i := 3) rfl rfl (fun _ => rfl)) (tp_c (val := MV.int) rfl))) tpi_n)))) ts_nil) (ts_seq (ts_if (D' := [7, 6, 5, 4, 3, 2, 0, 1]) (D1 := [7, 6, 5, 4, 3, 2, 0, 1]) (txt_v (tx_2 (o_eq (neg := false) dt_int) (Ty.TP.tx (tp_v (i := 2) rfl rfl (fun _ => rfl))) (Ty.TP.tx (tp_c (val := MV.int) rfl)))) (ts_ret (tx_join (tx_2o o_addLF (Ty.TP.tx (tp_sl os_l (tp_v (i := 6) rfl rfl (fun _ => rfl)) tpi_n (tpi_s (tp_v (i := 7) rfl rfl (fun _ => rfl))))) (Ty.TP.tx (tp_sl os_l (tp_v (i := 6) rfl rfl (fun _ => rfl)) (tpi_s (tp_2 (Op2.rd o_add) (tp_v (i := 7) rfl rfl (fun _ => rfl)) (tp_c (val := MV.int) rfl))) tpi_n))))) ts_nil) (ts_seq (ts_if (D' := [7, 6, 5, 4, 3, 2, 0, 1]) (D1 := [7, 6, 5, 4, 3, 2, 0, 1]) (txt_v (tx_2 (o_eq (neg := false) dt_int) (Ty.TP.tx (tp_v (i := 2) rfl rfl (fun _ => rfl))) (Ty.TP.tx (tp_c (val := MV.int) rfl)))) (ts_ret (tx_join (tx_2o o_addLF (tx_2o o_addLF (Ty.TP.tx (tp_sl os_l (tp_v (i := 6) rfl rfl (fun _ => rfl)) tpi_n (tpi_s (tp_v (i := 7) rfl rfl (fun _ => rfl))))) (Ty.TP.tx (tp_sl os_l (tp_v (i := 6) rfl rfl (fun _ => rfl)) (tpi_s (tp_v (i := 7) rfl rfl (fun _ => rfl))) (tpi_s (tp_2 (Op2.rd o_add) (tp_v (i := 7) rfl rfl (fun _ => rfl)) (tp_c (val := MV.int) rfl)))))) (Ty.TP.tx (tp_sl os_l (tp_v (i := 6) rfl rfl (fun _ => rfl)) (tpi_s (tp_v (i := 7) rfl rfl (fun _ => rfl))) tpi_n))))) ts_nil) (ts_seq (ts_if (D' := [7, 6, 5, 4, 3, 2, 0, 1]) (D1 := [7, 6, 5, 4, 3, 2, 0, 1]) (txt_v (tx_2 (o_eq (neg := false) dt_int) (Ty.TP.tx (tp_v (i := 2) rfl rfl (fun _ => rfl))) (Ty.TP.tx (tp_c (val := MV.int) rfl)))) (ts_ret (tx_join (tx_2o o_addLF (tx_2o o_addLF (tx_2o o_addLF (Ty.TP.tx (tp_sl os_l (tp_v (i := 6) rfl rfl (fun _ => rfl)) tpi_n (tpi_s (tp_v (i := 7) rfl rfl (fun _ => rfl))))) (Ty.TP.tx (tp_sl os_l (tp_v (i := 6) rfl rfl (fun _ => rfl)) (tpi_s (tp_2 (Op2.rd o_add) (tp_v (i := 7) rfl rfl (fun _ => rfl)) (tp_c (val := MV.int) rfl))) (tpi_s (tp_2 (Op2.rd o_add) (tp_v (i := 7) rfl rfl (fun _ => rfl)) (tp_c (val := MV.int) rfl)))))) (Ty.TP.tx (tp_sl os_l (tp_v (i := 6) rfl rfl (fun _ => rfl)) (tpi_s (tp_v (i := 7) rfl rfl (fun _ => rfl))) (tpi_s (tp_2 (Op2.rd o_add) (tp_v (i := 7) rfl rfl (fun _ => rfl)) (tp_c (val := MV.int) rfl)))))) (Ty.TP.tx (tp_sl os_l (tp_v (i := 6) rfl rfl (fun _ => rfl)) (tpi_s (tp_2 (Op2.rd o_add) (tp_v (i := 7) rfl rfl (fun _ => rfl)) (tp_c (val := MV.int) rfl))) tpi_n))))) ts_nil) (ts_ret (Ty.TP.tx (tp_v (i := 1) rfl rfl (fun _ => rfl))))))))))))))))
   (fun _ _ => ⟨⟨rfl, rfl⟩, ⟨⟨rfl, rfl⟩, trivial⟩⟩) (fun _ => ⟨⟨rfl, rfl⟩, trivial⟩) (fun r h => by cases h)
structure V_law_number where
  lword : Str
  lchar : Str
@[reducible] def V_law_number.put_lword (s : V_law_number) (v : Str) : V_law_number := { s with lword := v }
@[reducible] def V_law_number.put_lchar (s : V_law_number) (v : Str) : V_law_number := { s with lchar := v }
def tb_law_number : Nat → Slot V_law_number
  | 0 => ⟨0, fun s => (fz MV.str) s.lword⟩
  | 1 => ⟨1, fun s => (fz MV.str) s.lchar⟩
  | _ => ⟨0, fun _ => fz nV ()⟩
abbrev cx_law_number : Cx V_law_number Int := ⟨tb_law_number, 2, [], [], [], [], (fz MV.int)⟩
theorem kp_law_number_lchar : Keep tb_law_number V_law_number.put_lchar 1 [0] := ⟨kq, trivial⟩
def F_law_number : (Unit) → (Str × Unit) → X (Unit) Int := yRun (fun (i : Unit) (a : Str × Unit) => ({ lword := a.1, lchar := default } : V_law_number)) (fun s => (())) (none : Option Int) (ySeq (yIf (xOr (x2o (gEqP okS false) (xV V_law_number.lword) (xC ("" : Str))) (xAnd (x2 (fun i j : Int => decide (j < i)) (x1o gLenS (xV V_law_number.lword)) (xC (1 : Int))) (x2o (gEqP okS false) (x2o gSIx (xV V_law_number.lword) (xC (0 : Int))) (xC ("0" : Str))))) (yRet (x1 (fun i : Int => -i) (xC (1 : Int)))) yNil) (ySeq (yFor (x1 chs1 (xV V_law_number.lword)) V_law_number.put_lchar (yIf (x2o (gInS true) (xV V_law_number.lchar) (xC ("0123456789" : Str))) (yRet (x1 (fun i : Int => -i) (xC (1 : Int)))) yNil)) (yRet (x1o gIntT (xV V_law_number.lword)))))
theorem ty_law_number : TFun (.fr MV.str (.nil) : PSpec (Unit) (Str × Unit)) m_law_number F_law_number (fz MV.int) := by
  unfold m_law_number F_law_number
  exact tf_mk (c := cx_law_number) (D0 := [0]) (D1 := [])
   (ts_seq (ts_if (D' := [0]) (D1 := [0]) (txt_or (txt_v (tx_2o (o_eqP (neg := false) dtp_str) (Ty.TP.tx (tp_v (i := 0) rfl rfl (fun _ => rfl))) (Ty.TP.tx (tp_c (val := MV.str) rfl)))) (txt_and (txt_v (tx_2 o_gt (Ty.TP.tx (tp_f1o (Op1.rd f1_lenX) (tp_v (i := 0) rfl rfl (fun _ => rfl)))) (Ty.TP.tx (tp_c (val := MV.int) rfl)))) (txt_v (tx_2o (o_eqP (neg := false) dtp_str) (tx_2o o_six (Ty.TP.tx (tp_v (i := 0) rfl rfl (fun _ => rfl))) (Ty.TP.tx (tp_c (val := MV.int) rfl))) (Ty.TP.tx (tp_c (val := MV.str) rfl)))))) (ts_ret (tx_1 o_neg (Ty.TP.tx (tp_c (val := MV.int) rfl)))) ts_nil) (ts_seq (ts_for (Dl := [0]) (D2 := [1, 0]) (ti_str (Ty.TP.tx (tp_v (i := 0) rfl rfl (fun _ => rfl)))) (tg_nm (D0 := [0]) 1 (kp_law_number_lchar.sub rfl) (fun _ _ => rfl)) (ts_if (D' := [1, 0]) (D1 := [1, 0]) (txt_v (tx_2o (o_inC (neg := true)) (Ty.TP.tx (tp_v (i := 1) rfl rfl (fun _ => rfl))) (Ty.TP.tx (tp_c (val := MV.str) rfl)))) (ts_ret (tx_1 o_neg (Ty.TP.tx (tp_c (val := MV.int) rfl)))) ts_nil)) (ts_ret (Ty.TP.tx (tp_f1o (Op1.rd f1_intT) (tp_v (i := 0) rfl rfl (fun _ => rfl)))))))
   (fun _ _ => ⟨⟨rfl, rfl⟩, trivial⟩) (fun _ => trivial) (fun r h => by cases h)
structure V_law_lead where
  lword : Str
@[reducible] def V_law_lead.put_lword (s : V_law_lead) (v : Str) : V_law_lead := { s with lword := v }
def tb_law_lead : Nat → Slot V_law_lead
  | 0 => ⟨0, fun s => (fz MV.str) s.lword⟩
  | _ => ⟨0, fun _ => fz nV ()⟩
abbrev cx_law_lead : Cx V_law_lead Int := ⟨tb_law_lead, 1, [], [], [], [], (fz MV.int)⟩
def F_law_lead : (Unit) → (Str × Unit) → X (Unit) Int := yRun (fun (i : Unit) (a : Str × Unit) => ({ lword := a.1 } : V_law_lead)) (fun s => (())) (none : Option Int) (ySeq (yIf (x2 (fun x xs => if false = true then !xs.any (fun y => y == x) else xs.any (fun y => y == x)) (xV V_law_lead.lword) (x1 (fun x => [x.1, x.2.1, x.2.2.1, x.2.2.2.1, x.2.2.2.2.1, x.2.2.2.2.2]) (x1 (fun (x : Str × Str × Str × Str × Str × Str × Unit) => (x.1, x.2.1, x.2.2.1, x.2.2.2.1, x.2.2.2.2.1, x.2.2.2.2.2.1)) (xCs (xC ("-3" : Str)) (xCs (xC ("-2" : Str)) (xCs (xC ("-1" : Str)) (xCs (xC ("0" : Str)) (xCs (xC ("1" : Str)) (xCs (xC ("2" : Str)) xN))))))))) (yRet (x1o gIntT (xV V_law_lead.lword))) yNil) (yRet (xC (9 : Int))))
theorem ty_law_lead : TFun (.fr MV.str (.nil) : PSpec (Unit) (Str × Unit)) m_law_lead F_law_lead (fz MV.int) := by
  unfold m_law_lead F_law_lead
  exact tf_mk (c := cx_law_lead) (D0 := [0]) (D1 := [])
   (ts_seq (ts_if (D' := [0]) (D1 := [0]) (txt_v (Ty.TP.tx (tp_2 (o_inS (neg := false) sq_t) (tp_v (i := 0) rfl rfl (fun _ => rfl)) (tp_as (va := (p6 MV.str MV.str MV.str MV.str MV.str MV.str)) (vb := (tV MV.str)) (fun _ => rfl) (tp_a (oa_tup (vc := (p6 MV.str MV.str MV.str MV.str MV.str MV.str)) (t := (fun (x : Str × Str × Str × Str × Str × Str × Unit) => (x.1, x.2.1, x.2.2.1, x.2.2.2.1, x.2.2.2.2.1, x.2.2.2.2.2.1))) (fun _ => rfl) 6 (fun _ => rfl)) (tpa_c (tp_c (val := MV.str) rfl) (tpa_c (tp_c (val := MV.str) rfl) (tpa_c (tp_c (val := MV.str) rfl) (tpa_c (tp_c (val := MV.str) rfl) (tpa_c (tp_c (val := MV.str) rfl) (tpa_c (tp_c (val := MV.str) rfl) tpa_n))))))))))) (ts_ret (Ty.TP.tx (tp_f1o (Op1.rd f1_intT) (tp_v (i := 0) rfl rfl (fun _ => rfl))))) ts_nil) (ts_ret (Ty.TP.tx (tp_c (val := MV.int) rfl))))
   (fun _ _ => ⟨⟨rfl, rfl⟩, trivial⟩) (fun _ => trivial) (fun r h => by cases h)
structure V_law_pairs where
  lfound : (List (Int × Int))
  lline : Str
  lword : Str
  lnumbers : (List Str)
@[reducible] def V_law_pairs.put_lfound (s : V_law_pairs) (v : (List (Int × Int))) : V_law_pairs := { s with lfound := v }
@[reducible] def V_law_pairs.put_lword (s : V_law_pairs) (v : Str) : V_law_pairs := { s with lword := v }
@[reducible] def V_law_pairs.put_lnumbers (s : V_law_pairs) (v : (List Str)) : V_law_pairs := { s with lnumbers := v }
def tb_law_pairs : Nat → Slot V_law_pairs
  | 0 => ⟨0, fun s => (fz MV.str) s.lline⟩
  | 1 => ⟨1, fun s => (own1 (p2 MV.int MV.int)) s.lfound⟩
  | 2 => ⟨3, fun s => (fz (lV MV.str)) s.lnumbers⟩
  | 3 => ⟨2, fun s => (fz MV.str) s.lword⟩
  | 4 => ⟨1, fun s => (fz (lV (p2 MV.int MV.int))) s.lfound⟩
  | _ => ⟨0, fun _ => fz nV ()⟩
abbrev cx_law_pairs : Cx V_law_pairs (List (Int × Int)) := ⟨tb_law_pairs, 4, [], [], [], [], (fz (lV (p2 MV.int MV.int)))⟩
theorem kp_law_pairs_lfound : Keep tb_law_pairs V_law_pairs.put_lfound 1 [0, 2, 3] := ⟨kq, ⟨kq, ⟨kq, trivial⟩⟩⟩
theorem kp_law_pairs_lword : Keep tb_law_pairs V_law_pairs.put_lword 2 [0, 1, 2, 4] := ⟨kq, ⟨kq, ⟨kq, ⟨kq, trivial⟩⟩⟩⟩
theorem kp_law_pairs_lnumbers : Keep tb_law_pairs V_law_pairs.put_lnumbers 3 [0, 1, 3, 4] := ⟨kq, ⟨kq, ⟨kq, ⟨kq, trivial⟩⟩⟩⟩
def F_law_pairs : (Unit) → (Str × Unit) → X (Unit) (List (Int × Int)) := yRun (fun (i : Unit) (a : Str × Unit) => ({ lfound := default, lline := a.1, lword := default, lnumbers := default } : V_law_pairs)) (fun s => (())) (none : Option (List (Int × Int))) (ySeq (ySet V_law_pairs.put_lfound (x1 (fun (x : Unit) => ([] : List (Int × Int))) xN)) (ySeq (yFor (x1o (gSplit " ") (xV V_law_pairs.lline)) V_law_pairs.put_lword (ySeq (ySet V_law_pairs.put_lnumbers (x1o (gSplit "/") (xV V_law_pairs.lword))) (ySeq (yIf (xOr (x2 (fun a b => if true = true then !decide (a = b) else decide (a = b)) (x1 (fun xs => (xs.length : Int)) (xV V_law_pairs.lnumbers)) (xC (2 : Int))) (xOr (x2 (fun i j : Int => decide (i < j)) (xCall F_law_number (fun _ => ()) (fun s _ => s) (xCs (x2o gIx (xV V_law_pairs.lnumbers) (xC (0 : Int))) (xC ()))) (xC (0 : Int))) (x2 (fun i j : Int => decide (i < j)) (xCall F_law_number (fun _ => ()) (fun s _ => s) (xCs (x2o gIx (xV V_law_pairs.lnumbers) (xC (1 : Int))) (xC ()))) (xC (0 : Int))))) (yRet (x1 (fun (x : Unit) => ([] : List (Int × Int))) xN)) yNil) (yExpr (xMeth V_law_pairs.lfound V_law_pairs.put_lfound gApp (xCs (x1 (fun (x : Int × Int × Unit) => (x.1, x.2.1)) (xCs (xCall F_law_number (fun _ => ()) (fun s _ => s) (xCs (x2o gIx (xV V_law_pairs.lnumbers) (xC (0 : Int))) (xC ()))) (xCs (xCall F_law_number (fun _ => ()) (fun s _ => s) (xCs (x2o gIx (xV V_law_pairs.lnumbers) (xC (1 : Int))) (xC ()))) xN))) xN)))))) (yRet (xV V_law_pairs.lfound))))
theorem ty_law_pairs : TFun (.fr MV.str (.nil) : PSpec (Unit) (Str × Unit)) m_law_pairs F_law_pairs (fz (lV (p2 MV.int MV.int))) := by
  unfold m_law_pairs F_law_pairs
  exact tf_mk (c := cx_law_pairs) (D0 := [0]) (D1 := [])
   (ts_seq (ts_set (D0 := [0]) 1 (tx_lst (va := (p2 MV.int MV.int)) (fun _ => rfl) 0 (fun _ => rfl) (Ty.TPA.tx tpa_n)) (kp_law_pairs_lfound.sub rfl) (fun _ _ => rfl)) (ts_seq (ts_for (Dl := [1, 0]) (D2 := [2, 3, 1, 0]) (ti_l (tx_split (Ty.TP.tx (tp_v (i := 0) rfl rfl (fun _ => rfl))))) (tg_nm (D0 := [1, 0]) 3 (kp_law_pairs_lword.sub rfl) (fun _ _ => rfl)) (ts_seq (ts_set (D0 := [3, 1, 0]) 2 (tx_split (Ty.TP.tx (tp_v (i := 3) rfl rfl (fun _ => rfl)))) (kp_law_pairs_lnumbers.sub rfl) (fun _ _ => rfl)) (ts_seq (ts_if (D' := [2, 3, 1, 0]) (D1 := [2, 3, 1, 0]) (txt_or (txt_v (tx_2 (o_eq (neg := true) dt_int) (Ty.TP.tx (tp_f1 f1_lenL (tp_v (i := 2) rfl rfl (fun _ => rfl)))) (Ty.TP.tx (tp_c (val := MV.int) rfl)))) (txt_or (txt_v (tx_2 o_lt (tx_call ty_law_number (txp_f (tx_2o (o_ixF sq_l) (Ty.TP.tx (tp_v (i := 2) rfl rfl (fun _ => rfl))) (Ty.TP.tx (tp_c (val := MV.int) rfl))) txp_n)) (Ty.TP.tx (tp_c (val := MV.int) rfl)))) (txt_v (tx_2 o_lt (tx_call ty_law_number (txp_f (tx_2o (o_ixF sq_l) (Ty.TP.tx (tp_v (i := 2) rfl rfl (fun _ => rfl))) (Ty.TP.tx (tp_c (val := MV.int) rfl))) txp_n)) (Ty.TP.tx (tp_c (val := MV.int) rfl)))))) (ts_ret (tx_a (oa_lst (vc := (lV (p2 MV.int MV.int))) (t := (fun (x : Unit) => ([] : List (Int × Int)))) (fun _ => rfl) 0 (fun _ => rfl)) (Ty.TPA.tx tpa_n))) ts_nil) (ts_expr (tx_meth (D0 := [2, 3, 0]) 1 mo_app (txa_c (tx_a (oa_tup (vc := (p2 MV.int MV.int)) (t := (fun (x : Int × Int × Unit) => (x.1, x.2.1))) (fun _ => rfl) 2 (fun _ => rfl)) (txa_c (tx_call ty_law_number (txp_f (tx_2o (o_ixF sq_l) (Ty.TP.tx (tp_v (i := 2) rfl rfl (fun _ => rfl))) (Ty.TP.tx (tp_c (val := MV.int) rfl))) txp_n)) (txa_c (tx_call ty_law_number (txp_f (tx_2o (o_ixF sq_l) (Ty.TP.tx (tp_v (i := 2) rfl rfl (fun _ => rfl))) (Ty.TP.tx (tp_c (val := MV.int) rfl))) txp_n)) (Ty.TPA.tx tpa_n)))) (Ty.TPA.tx tpa_n)) (fun _ => rfl) (fun _ _ => rfl) (kp_law_pairs_lfound.sub rfl)))))) (ts_frz (D0 := [0]) 1 4 (ts_ret (Ty.TP.tx (tp_v (i := 4) rfl rfl (fun _ => rfl)))) (fun _ => frz_1 (fix_p2 fix_int fix_int)) rfl rfl (kp_law_pairs_lfound.sub rfl : Keep _ _ _ [0]).same)))
   (fun _ _ => ⟨⟨rfl, rfl⟩, trivial⟩) (fun _ => trivial) (fun r h => by cases h)
structure V_law_read where
  llines : (List Str)
  ltext : Str
  lfirst : (List Str)
  lsecond : (List Str)
  linputs : Int
  loutputs : Int
  llead_here : Int
  lopening : (List Int)
  lword_c0 : Str
  lletter : Int
  lrows : (List (List (Int × Int)))
  lline_c1 : Str
  lrow : (List (Int × Int))
  lpair : (Int × Int)
@[reducible] def V_law_read.put_llines (s : V_law_read) (v : (List Str)) : V_law_read := { s with llines := v }
@[reducible] def V_law_read.put_ltext (s : V_law_read) (v : Str) : V_law_read := { s with ltext := v }
@[reducible] def V_law_read.put_lfirst (s : V_law_read) (v : (List Str)) : V_law_read := { s with lfirst := v }
@[reducible] def V_law_read.put_lsecond (s : V_law_read) (v : (List Str)) : V_law_read := { s with lsecond := v }
@[reducible] def V_law_read.put_linputs (s : V_law_read) (v : Int) : V_law_read := { s with linputs := v }
@[reducible] def V_law_read.put_loutputs (s : V_law_read) (v : Int) : V_law_read := { s with loutputs := v }
@[reducible] def V_law_read.put_llead_here (s : V_law_read) (v : Int) : V_law_read := { s with llead_here := v }
@[reducible] def V_law_read.put_lopening (s : V_law_read) (v : (List Int)) : V_law_read := { s with lopening := v }
@[reducible] def V_law_read.put_lword_c0 (s : V_law_read) (v : Str) : V_law_read := { s with lword_c0 := v }
@[reducible] def V_law_read.put_lletter (s : V_law_read) (v : Int) : V_law_read := { s with lletter := v }
@[reducible] def V_law_read.put_lrows (s : V_law_read) (v : (List (List (Int × Int)))) : V_law_read := { s with lrows := v }
@[reducible] def V_law_read.put_lline_c1 (s : V_law_read) (v : Str) : V_law_read := { s with lline_c1 := v }
@[reducible] def V_law_read.put_lrow (s : V_law_read) (v : (List (Int × Int))) : V_law_read := { s with lrow := v }
@[reducible] def V_law_read.put_lpair (s : V_law_read) (v : (Int × Int)) : V_law_read := { s with lpair := v }
def tb_law_read : Nat → Slot V_law_read
  | 0 => ⟨0, fun s => (fz MV.str) s.ltext⟩
  | 1 => ⟨1, fun s => (fz (lV MV.str)) s.llines⟩
  | 2 => ⟨2, fun s => (fz (lV MV.str)) s.lfirst⟩
  | 3 => ⟨3, fun s => (fz (lV MV.str)) s.lsecond⟩
  | 4 => ⟨4, fun s => (fz MV.int) s.linputs⟩
  | 5 => ⟨5, fun s => (fz MV.int) s.loutputs⟩
  | 6 => ⟨6, fun s => (fz MV.int) s.llead_here⟩
  | 7 => ⟨7, fun s => (fz (lV MV.int)) s.lopening⟩
  | 8 => ⟨8, fun s => (fz MV.str) s.lword_c0⟩
  | 9 => ⟨9, fun s => (fz MV.int) s.lletter⟩
  | 10 => ⟨10, fun s => (fz (lV (lV (p2 MV.int MV.int)))) s.lrows⟩
  | 11 => ⟨11, fun s => (fz MV.str) s.lline_c1⟩
  | 12 => ⟨12, fun s => (fz (lV (p2 MV.int MV.int))) s.lrow⟩
  | 13 => ⟨13, fun s => (fz (p2 MV.int MV.int)) s.lpair⟩
  | _ => ⟨0, fun _ => fz nV ()⟩
abbrev cx_law_read : Cx V_law_read (Option (Int × Int × Int × (List Int) × (List (List (Int × Int))))) := ⟨tb_law_read, 14, [], [], [], [], (fz (oV (p5 MV.int MV.int MV.int (lV MV.int) (lV (lV (p2 MV.int MV.int))))))⟩
theorem kp_law_read_llines : Keep tb_law_read V_law_read.put_llines 1 [0, 2, 3, 4, 5, 6, 7, 8, 9, 10, 11, 12, 13] := ⟨kq, ⟨kq, ⟨kq, ⟨kq, ⟨kq, ⟨kq, ⟨kq, ⟨kq, ⟨kq, ⟨kq, ⟨kq, ⟨kq, ⟨kq, trivial⟩⟩⟩⟩⟩⟩⟩⟩⟩⟩⟩⟩⟩
theorem kp_law_read_lfirst : Keep tb_law_read V_law_read.put_lfirst 2 [0, 1, 3, 4, 5, 6, 7, 8, 9, 10, 11, 12, 13] := ⟨kq, ⟨kq, ⟨kq, ⟨kq, ⟨kq, ⟨kq, ⟨kq, ⟨kq, ⟨kq, ⟨kq, ⟨kq, ⟨kq, ⟨kq, trivial⟩⟩⟩⟩⟩⟩⟩⟩⟩⟩⟩⟩⟩
theorem kp_law_read_lsecond : Keep tb_law_read V_law_read.put_lsecond 3 [0, 1, 2, 4, 5, 6, 7, 8, 9, 10, 11, 12, 13] := ⟨kq, ⟨kq, ⟨kq, ⟨kq, ⟨kq, ⟨kq, ⟨kq, ⟨kq, ⟨kq, ⟨kq, ⟨kq, ⟨kq, ⟨kq, trivial⟩⟩⟩⟩⟩⟩⟩⟩⟩⟩⟩⟩⟩
theorem kp_law_read_linputs : Keep tb_law_read V_law_read.put_linputs 4 [0, 1, 2, 3, 5, 6, 7, 8, 9, 10, 11, 12, 13] := ⟨kq, ⟨kq, ⟨kq, ⟨kq, ⟨kq, ⟨kq, ⟨kq, ⟨kq, ⟨kq, ⟨kq, ⟨kq, ⟨kq, ⟨kq, trivial⟩⟩⟩⟩⟩⟩⟩⟩⟩⟩⟩⟩⟩
theorem kp_law_read_loutputs : Keep tb_law_read V_law_read.put_loutputs 5 [0, 1, 2, 3, 4, 6, 7, 8, 9, 10, 11, 12, 13] := ⟨kq, ⟨kq, ⟨kq, ⟨kq, ⟨kq, ⟨kq, ⟨kq, ⟨kq, ⟨kq, ⟨kq, ⟨kq, ⟨kq, ⟨kq, trivial⟩⟩⟩⟩⟩⟩⟩⟩⟩⟩⟩⟩⟩
theorem kp_law_read_llead_here : Keep tb_law_read V_law_read.put_llead_here 6 [0, 1, 2, 3, 4, 5, 7, 8, 9, 10, 11, 12, 13] := ⟨kq, ⟨kq, ⟨kq, ⟨kq, ⟨kq, ⟨kq, ⟨kq, ⟨kq, ⟨kq, ⟨kq, ⟨kq, ⟨kq, ⟨kq, trivial⟩⟩⟩⟩⟩⟩⟩⟩⟩⟩⟩⟩⟩
theorem kp_law_read_lopening : Keep tb_law_read V_law_read.put_lopening 7 [0, 1, 2, 3, 4, 5, 6, 8, 9, 10, 11, 12, 13] := ⟨kq, ⟨kq, ⟨kq, ⟨kq, ⟨kq, ⟨kq, ⟨kq, ⟨kq, ⟨kq, ⟨kq, ⟨kq, ⟨kq, ⟨kq, trivial⟩⟩⟩⟩⟩⟩⟩⟩⟩⟩⟩⟩⟩
theorem kp_law_read_lword_c0 : Keep tb_law_read V_law_read.put_lword_c0 8 [0, 1, 2, 3, 4, 5, 6, 7, 9, 10, 11, 12, 13] := ⟨kq, ⟨kq, ⟨kq, ⟨kq, ⟨kq, ⟨kq, ⟨kq, ⟨kq, ⟨kq, ⟨kq, ⟨kq, ⟨kq, ⟨kq, trivial⟩⟩⟩⟩⟩⟩⟩⟩⟩⟩⟩⟩⟩
theorem kp_law_read_lletter : Keep tb_law_read V_law_read.put_lletter 9 [0, 1, 2, 3, 4, 5, 6, 7, 8, 10, 11, 12, 13] := ⟨kq, ⟨kq, ⟨kq, ⟨kq, ⟨kq, ⟨kq, ⟨kq, ⟨kq, ⟨kq, ⟨kq, ⟨kq, ⟨kq, ⟨kq, trivial⟩⟩⟩⟩⟩⟩⟩⟩⟩⟩⟩⟩⟩
theorem kp_law_read_lrows : Keep tb_law_read V_law_read.put_lrows 10 [0, 1, 2, 3, 4, 5, 6, 7, 8, 9, 11, 12, 13] := ⟨kq, ⟨kq, ⟨kq, ⟨kq, ⟨kq, ⟨kq, ⟨kq, ⟨kq, ⟨kq, ⟨kq, ⟨kq, ⟨kq, ⟨kq, trivial⟩⟩⟩⟩⟩⟩⟩⟩⟩⟩⟩⟩⟩
theorem kp_law_read_lline_c1 : Keep tb_law_read V_law_read.put_lline_c1 11 [0, 1, 2, 3, 4, 5, 6, 7, 8, 9, 10, 12, 13] := ⟨kq, ⟨kq, ⟨kq, ⟨kq, ⟨kq, ⟨kq, ⟨kq, ⟨kq, ⟨kq, ⟨kq, ⟨kq, ⟨kq, ⟨kq, trivial⟩⟩⟩⟩⟩⟩⟩⟩⟩⟩⟩⟩⟩
theorem kp_law_read_lrow : Keep tb_law_read V_law_read.put_lrow 12 [0, 1, 2, 3, 4, 5, 6, 7, 8, 9, 10, 11, 13] := ⟨kq, ⟨kq, ⟨kq, ⟨kq, ⟨kq, ⟨kq, ⟨kq, ⟨kq, ⟨kq, ⟨kq, ⟨kq, ⟨kq, ⟨kq, trivial⟩⟩⟩⟩⟩⟩⟩⟩⟩⟩⟩⟩⟩
theorem kp_law_read_lpair : Keep tb_law_read V_law_read.put_lpair 13 [0, 1, 2, 3, 4, 5, 6, 7, 8, 9, 10, 11, 12] := ⟨kq, ⟨kq, ⟨kq, ⟨kq, ⟨kq, ⟨kq, ⟨kq, ⟨kq, ⟨kq, ⟨kq, ⟨kq, ⟨kq, ⟨kq, trivial⟩⟩⟩⟩⟩⟩⟩⟩⟩⟩⟩⟩⟩
def F_law_read : (Unit) → (Str × Unit) → X (Unit) (Option (Int × Int × Int × (List Int) × (List (List (Int × Int))))) := yRun (fun (i : Unit) (a : Str × Unit) => ({ llines := default, ltext := a.1, lfirst := default, lsecond := default, linputs := default, loutputs := default, llead_here := default, lopening := default, lword_c0 := default, lletter := default, lrows := default, lline_c1 := default, lrow := default, lpair := default } : V_law_read)) (fun s => (())) (none : Option (Option (Int × Int × Int × (List Int) × (List (List (Int × Int)))))) (ySeq (ySet V_law_read.put_llines (x1o (gSplit "\n") (xV V_law_read.ltext))) (ySeq (yIf (xOr (x2 (fun i j : Int => decide (i < j)) (x1 (fun xs => (xs.length : Int)) (xV V_law_read.llines)) (xC (4 : Int))) (x2o (gEqP okS true) (x2o gIx (xV V_law_read.llines) (x1 (fun i : Int => -i) (xC (1 : Int)))) (xC ("" : Str)))) (yRet (x1 (fun _ => (none : (Option (Int × Int × Int × (List Int) × (List (List (Int × Int))))))) (xC ()))) yNil) (ySeq (ySet V_law_read.put_lfirst (x1o (gSplit " ") (x2o gIx (xV V_law_read.llines) (xC (0 : Int))))) (ySeq (ySet V_law_read.put_lsecond (x1o (gSplit " ") (x2o gIx (xV V_law_read.llines) (xC (1 : Int))))) (ySeq (yIf (xOr (x2 (fun a b => if true = true then !decide (a = b) else decide (a = b)) (x1 (fun xs => (xs.length : Int)) (xV V_law_read.lfirst)) (xC (4 : Int))) (xOr (x2o (gEqP okS true) (x2o gIx (xV V_law_read.lfirst) (xC (0 : Int))) (xC ("machine" : Str))) (x2o (gEqP okS true) (x2o gIx (xV V_law_read.lsecond) (xC (0 : Int))) (xC ("opening" : Str))))) (yRet (x1 (fun _ => (none : (Option (Int × Int × Int × (List Int) × (List (List (Int × Int))))))) (xC ()))) yNil) (ySeq (ySet V_law_read.put_linputs (xCall F_law_number (fun _ => ()) (fun s _ => s) (xCs (x2o gIx (xV V_law_read.lfirst) (xC (1 : Int))) (xC ())))) (ySeq (ySet V_law_read.put_loutputs (xCall F_law_number (fun _ => ()) (fun s _ => s) (xCs (x2o gIx (xV V_law_read.lfirst) (xC (2 : Int))) (xC ())))) (ySeq (ySet V_law_read.put_llead_here (xCall F_law_lead (fun _ => ()) (fun s _ => s) (xCs (x2o gIx (xV V_law_read.lfirst) (xC (3 : Int))) (xC ())))) (ySeq (ySet V_law_read.put_lopening (xComp (xSl (xV V_law_read.lsecond) (x1 some (xC (1 : Int))) (xC none)) V_law_read.put_lword_c0 xYes (xCall F_law_number (fun _ => ()) (fun s _ => s) (xCs (xV V_law_read.lword_c0) (xC ()))))) (ySeq (yIf (xOr (x2 (fun i j : Int => decide (i < j)) (xV V_law_read.linputs) (xC (1 : Int))) (xOr (x2 (fun i j : Int => decide (i < j)) (xV V_law_read.loutputs) (xC (1 : Int))) (xOr (x2 (fun a b => if false = true then !decide (a = b) else decide (a = b)) (xV V_law_read.llead_here) (xC (9 : Int))) (x2 (fun a b => if true = true then !decide (a = b) else decide (a = b)) (x1 (fun xs => (xs.length : Int)) (xV V_law_read.lopening)) (x1 (fun x : Int × Int × Unit => max x.1 x.2.1) (xCs (xC (0 : Int)) (xCs (x1 (fun i : Int => -i) (xV V_law_read.llead_here)) xN))))))) (yRet (x1 (fun _ => (none : (Option (Int × Int × Int × (List Int) × (List (List (Int × Int))))))) (xC ()))) yNil) (ySeq (yFor (xV V_law_read.lopening) V_law_read.put_lletter (yIf (xOr (x2 (fun i j : Int => decide (i < j)) (xV V_law_read.lletter) (xC (0 : Int))) (x2 (fun i j : Int => decide (j ≤ i)) (xV V_law_read.lletter) (xV V_law_read.loutputs))) (yRet (x1 (fun _ => (none : (Option (Int × Int × Int × (List Int) × (List (List (Int × Int))))))) (xC ()))) yNil)) (ySeq (ySet V_law_read.put_lrows (xComp (xSl (xV V_law_read.llines) (x1 some (xC (2 : Int))) (x1 some (x2 (fun i j : Int => i - j) (x1 (fun xs => (xs.length : Int)) (xV V_law_read.llines)) (xC (1 : Int))))) V_law_read.put_lline_c1 xYes (xCall F_law_pairs (fun _ => ()) (fun s _ => s) (xCs (xV V_law_read.lline_c1) (xC ()))))) (ySeq (yFor (xV V_law_read.lrows) V_law_read.put_lrow (ySeq (yIf (x2 (fun a b => if true = true then !decide (a = b) else decide (a = b)) (x1 (fun xs => (xs.length : Int)) (xV V_law_read.lrow)) (xV V_law_read.linputs)) (yRet (x1 (fun _ => (none : (Option (Int × Int × Int × (List Int) × (List (List (Int × Int))))))) (xC ()))) yNil) (yFor (xV V_law_read.lrow) V_law_read.put_lpair (yIf (xOr (x2 (fun i j : Int => decide (j ≤ i)) (x1 (fun x : (Int × Int) => x.1) (xV V_law_read.lpair)) (x1 (fun xs => (xs.length : Int)) (xV V_law_read.lrows))) (x2 (fun i j : Int => decide (j ≤ i)) (x1 (fun x : (Int × Int) => x.2) (xV V_law_read.lpair)) (xV V_law_read.loutputs))) (yRet (x1 (fun _ => (none : (Option (Int × Int × Int × (List Int) × (List (List (Int × Int))))))) (xC ()))) yNil)))) (yRet (x1 some (x1 (fun (x : Int × Int × Int × (List Int) × (List (List (Int × Int))) × Unit) => (x.1, x.2.1, x.2.2.1, x.2.2.2.1, x.2.2.2.2.1)) (xCs (xV V_law_read.linputs) (xCs (xV V_law_read.loutputs) (xCs (xV V_law_read.llead_here) (xCs (xV V_law_read.lopening) (xCs (xV V_law_read.lrows) xN)))))))))))))))))))))
theorem ty_law_read : TFun (.fr MV.str (.nil) : PSpec (Unit) (Str × Unit)) m_law_read F_law_read (fz (oV (p5 MV.int MV.int MV.int (lV MV.int) (lV (lV (p2 MV.int MV.int)))))) := by
  unfold m_law_read F_law_read
  exact tf_mk (c := cx_law_read) (D0 := [0]) (D1 := [])
   (ts_seq (ts_set (D0 := [0]) 1 (tx_split (Ty.TP.tx (tp_v (i := 0) rfl rfl (fun _ => rfl)))) (kp_law_read_llines.sub rfl) (fun _ _ => rfl)) (ts_seq (ts_if (D' := [1, 0]) (D1 := [1, 0]) (txt_or (txt_v (tx_2 o_lt (Ty.TP.tx (tp_f1 f1_lenL (tp_v (i := 1) rfl rfl (fun _ => rfl)))) (Ty.TP.tx (tp_c (val := MV.int) rfl)))) (txt_v (tx_2o (o_eqP (neg := true) dtp_str) (tx_2o (o_ixF sq_l) (Ty.TP.tx (tp_v (i := 1) rfl rfl (fun _ => rfl))) (tx_1 o_neg (Ty.TP.tx (tp_c (val := MV.int) rfl)))) (Ty.TP.tx (tp_c (val := MV.str) rfl))))) (ts_ret (tx_as (va := nV) (vb := (oV (p5 MV.int MV.int MV.int (lV MV.int) (lV (lV (p2 MV.int MV.int)))))) (fun _ => rfl) (Ty.TP.tx (tp_c (val := nV) (a := ()) rfl)))) ts_nil) (ts_seq (ts_set (D0 := [1, 0]) 2 (tx_split (tx_2o (o_ixF sq_l) (Ty.TP.tx (tp_v (i := 1) rfl rfl (fun _ => rfl))) (Ty.TP.tx (tp_c (val := MV.int) rfl)))) (kp_law_read_lfirst.sub rfl) (fun _ _ => rfl)) (ts_seq (ts_set (D0 := [2, 1, 0]) 3 (tx_split (tx_2o (o_ixF sq_l) (Ty.TP.tx (tp_v (i := 1) rfl rfl (fun _ => rfl))) (Ty.TP.tx (tp_c (val := MV.int) rfl)))) (kp_law_read_lsecond.sub rfl) (fun _ _ => rfl)) (ts_seq (ts_if (D' := [3, 2, 1, 0]) (D1 := [3, 2, 1, 0]) (txt_or (txt_v (tx_2 (o_eq (neg := true) dt_int) (Ty.TP.tx (tp_f1 f1_lenL (tp_v (i := 2) rfl rfl (fun _ => rfl)))) (Ty.TP.tx (tp_c (val := MV.int) rfl)))) (txt_or (txt_v (tx_2o (o_eqP (neg := true) dtp_str) (tx_2o (o_ixF sq_l) (Ty.TP.tx (tp_v (i := 2) rfl rfl (fun _ => rfl))) (Ty.TP.tx (tp_c (val := MV.int) rfl))) (Ty.TP.tx (tp_c (val := MV.str) rfl)))) (txt_v (tx_2o (o_eqP (neg := true) dtp_str) (tx_2o (o_ixF sq_l) (Ty.TP.tx (tp_v (i := 3) rfl rfl (fun _ => rfl))) (Ty.TP.tx (tp_c (val := MV.int) rfl))) (Ty.TP.tx (tp_c (val := MV.str) rfl)))))) (ts_ret (tx_as (va := nV) (vb := (oV (p5 MV.int MV.int MV.int (lV MV.int) (lV (lV (p2 MV.int MV.int)))))) (fun _ => rfl) (Ty.TP.tx (tp_c (val := nV) (a := ()) rfl)))) ts_nil) (ts_seq (ts_set (D0 := [3, 2, 1, 0]) 4 (tx_call ty_law_number (txp_f (tx_2o (o_ixF sq_l) (Ty.TP.tx (tp_v (i := 2) rfl rfl (fun _ => rfl))) (Ty.TP.tx (tp_c (val := MV.int) rfl))) txp_n)) (kp_law_read_linputs.sub rfl) (fun _ _ => rfl)) (ts_seq (ts_set (D0 := [4, 3, 2, 1, 0]) 5 (tx_call ty_law_number (txp_f (tx_2o (o_ixF sq_l) (Ty.TP.tx (tp_v (i := 2) rfl rfl (fun _ => rfl))) (Ty.TP.tx (tp_c (val := MV.int) rfl))) txp_n)) (kp_law_read_loutputs.sub rfl) (fun _ _ => rfl)) (ts_seq (ts_set (D0 := [5, 4, 3, 2, 1, 0]) 6 (tx_call ty_law_lead (txp_f (tx_2o (o_ixF sq_l) (Ty.TP.tx (tp_v (i := 2) rfl rfl (fun _ => rfl))) (Ty.TP.tx (tp_c (val := MV.int) rfl))) txp_n)) (kp_law_read_llead_here.sub rfl) (fun _ _ => rfl)) (ts_seq (ts_set (D0 := [6, 5, 4, 3, 2, 1, 0]) 7 (tx_comp (ti_l (Ty.TP.tx (tp_sl os_l (tp_v (i := 3) rfl rfl (fun _ => rfl)) (tpi_s (tp_c (val := MV.int) rfl)) tpi_n))) (tg_nm (D0 := [6, 5, 4, 3, 2, 1, 0]) 8 (kp_law_read_lword_c0.sub rfl) (fun _ _ => rfl)) txt_yes (tx_call ty_law_number (txp_f (Ty.TP.tx (tp_v (i := 8) rfl rfl (fun _ => rfl))) txp_n))) (kp_law_read_lopening.sub rfl) (fun _ _ => rfl)) (ts_seq (ts_if (D' := [7, 6, 5, 4, 3, 2, 1, 0]) (D1 := [7, 6, 5, 4, 3, 2, 1, 0]) (txt_or (txt_v (tx_2 o_lt (Ty.TP.tx (tp_v (i := 4) rfl rfl (fun _ => rfl))) (Ty.TP.tx (tp_c (val := MV.int) rfl)))) (txt_or (txt_v (tx_2 o_lt (Ty.TP.tx (tp_v (i := 5) rfl rfl (fun _ => rfl))) (Ty.TP.tx (tp_c (val := MV.int) rfl)))) (txt_or (txt_v (tx_2 (o_eq (neg := false) dt_int) (Ty.TP.tx (tp_v (i := 6) rfl rfl (fun _ => rfl))) (Ty.TP.tx (tp_c (val := MV.int) rfl)))) (txt_v (tx_2 (o_eq (neg := true) dt_int) (Ty.TP.tx (tp_f1 f1_lenL (tp_v (i := 7) rfl rfl (fun _ => rfl)))) (tx_a (OpF.a ff_max) (txa_c (Ty.TP.tx (tp_c (val := MV.int) rfl)) (txa_c (tx_1 o_neg (Ty.TP.tx (tp_v (i := 6) rfl rfl (fun _ => rfl)))) (Ty.TPA.tx tpa_n))))))))) (ts_ret (tx_as (va := nV) (vb := (oV (p5 MV.int MV.int MV.int (lV MV.int) (lV (lV (p2 MV.int MV.int)))))) (fun _ => rfl) (Ty.TP.tx (tp_c (val := nV) (a := ()) rfl)))) ts_nil) (ts_seq (ts_for (Dl := [7, 6, 5, 4, 3, 2, 1, 0]) (D2 := [9, 7, 6, 5, 4, 3, 2, 1, 0]) (ti_l (Ty.TP.tx (tp_v (i := 7) rfl rfl (fun _ => rfl)))) (tg_nm (D0 := [7, 6, 5, 4, 3, 2, 1, 0]) 9 (kp_law_read_lletter.sub rfl) (fun _ _ => rfl)) (ts_if (D' := [9, 7, 6, 5, 4, 3, 2, 1, 0]) (D1 := [9, 7, 6, 5, 4, 3, 2, 1, 0]) (txt_or (txt_v (tx_2 o_lt (Ty.TP.tx (tp_v (i := 9) rfl rfl (fun _ => rfl))) (Ty.TP.tx (tp_c (val := MV.int) rfl)))) (txt_v (tx_2 o_ge (Ty.TP.tx (tp_v (i := 9) rfl rfl (fun _ => rfl))) (Ty.TP.tx (tp_v (i := 5) rfl rfl (fun _ => rfl)))))) (ts_ret (tx_as (va := nV) (vb := (oV (p5 MV.int MV.int MV.int (lV MV.int) (lV (lV (p2 MV.int MV.int)))))) (fun _ => rfl) (Ty.TP.tx (tp_c (val := nV) (a := ()) rfl)))) ts_nil)) (ts_seq (ts_set (D0 := [7, 6, 5, 4, 3, 2, 1, 0]) 10 (tx_comp (ti_l (Ty.TP.tx (tp_sl os_l (tp_v (i := 1) rfl rfl (fun _ => rfl)) (tpi_s (tp_c (val := MV.int) rfl)) (tpi_s (tp_2 (Op2.rd o_sub) (tp_f1 f1_lenL (tp_v (i := 1) rfl rfl (fun _ => rfl))) (tp_c (val := MV.int) rfl)))))) (tg_nm (D0 := [7, 6, 5, 4, 3, 2, 1, 0]) 11 (kp_law_read_lline_c1.sub rfl) (fun _ _ => rfl)) txt_yes (tx_call ty_law_pairs (txp_f (Ty.TP.tx (tp_v (i := 11) rfl rfl (fun _ => rfl))) txp_n))) (kp_law_read_lrows.sub rfl) (fun _ _ => rfl)) (ts_seq (ts_for (Dl := [10, 7, 6, 5, 4, 3, 2, 1, 0]) (D2 := [12, 10, 7, 6, 5, 4, 3, 2, 1, 0]) (ti_l (Ty.TP.tx (tp_v (i := 10) rfl rfl (fun _ => rfl)))) (tg_nm (D0 := [10, 7, 6, 5, 4, 3, 2, 1, 0]) 12 (kp_law_read_lrow.sub rfl) (fun _ _ => rfl)) (ts_seq (ts_if (D' := [12, 10, 7, 6, 5, 4, 3, 2, 1, 0]) (D1 := [12, 10, 7, 6, 5, 4, 3, 2, 1, 0]) (txt_v (tx_2 (o_eq (neg := true) dt_int) (Ty.TP.tx (tp_f1 f1_lenL (tp_v (i := 12) rfl rfl (fun _ => rfl)))) (Ty.TP.tx (tp_v (i := 4) rfl rfl (fun _ => rfl))))) (ts_ret (tx_as (va := nV) (vb := (oV (p5 MV.int MV.int MV.int (lV MV.int) (lV (lV (p2 MV.int MV.int)))))) (fun _ => rfl) (Ty.TP.tx (tp_c (val := nV) (a := ()) rfl)))) ts_nil) (ts_for (Dl := [12, 10, 7, 6, 5, 4, 3, 2, 1, 0]) (D2 := [13, 12, 10, 7, 6, 5, 4, 3, 2, 1, 0]) (ti_l (Ty.TP.tx (tp_v (i := 12) rfl rfl (fun _ => rfl)))) (tg_nm (D0 := [12, 10, 7, 6, 5, 4, 3, 2, 1, 0]) 13 (kp_law_read_lpair.sub rfl) (fun _ _ => rfl)) (ts_if (D' := [13, 12, 10, 7, 6, 5, 4, 3, 2, 1, 0]) (D1 := [13, 12, 10, 7, 6, 5, 4, 3, 2, 1, 0]) (txt_or (txt_v (tx_2 o_ge (tx_pr (vc := MV.int) (pr := (fun x : (Int × Int) => x.1)) (fun _ _ => rfl) (Ty.TP.tx (tp_v (i := 13) rfl rfl (fun _ => rfl)))) (Ty.TP.tx (tp_f1 f1_lenL (tp_v (i := 10) rfl rfl (fun _ => rfl)))))) (txt_v (tx_2 o_ge (tx_pr (vc := MV.int) (pr := (fun x : (Int × Int) => x.2)) (fun _ _ => rfl) (Ty.TP.tx (tp_v (i := 13) rfl rfl (fun _ => rfl)))) (Ty.TP.tx (tp_v (i := 5) rfl rfl (fun _ => rfl)))))) (ts_ret (tx_as (va := nV) (vb := (oV (p5 MV.int MV.int MV.int (lV MV.int) (lV (lV (p2 MV.int MV.int)))))) (fun _ => rfl) (Ty.TP.tx (tp_c (val := nV) (a := ()) rfl)))) ts_nil)))) (ts_ret (tx_some (tx_a (oa_tup (vc := (p5 MV.int MV.int MV.int (lV MV.int) (lV (lV (p2 MV.int MV.int))))) (t := (fun (x : Int × Int × Int × (List Int) × (List (List (Int × Int))) × Unit) => (x.1, x.2.1, x.2.2.1, x.2.2.2.1, x.2.2.2.2.1))) (fun _ => rfl) 5 (fun _ => rfl)) (txa_c (Ty.TP.tx (tp_v (i := 4) rfl rfl (fun _ => rfl))) (txa_c (Ty.TP.tx (tp_v (i := 5) rfl rfl (fun _ => rfl))) (txa_c (Ty.TP.tx (tp_v (i := 6) rfl rfl (fun _ => rfl))) (txa_c (Ty.TP.tx (tp_v (i := 7) rfl rfl (fun _ => rfl))) (txa_c (Ty.TP.tx (tp_v (i := 10) rfl rfl (fun _ => rfl))) (Ty.TPA.tx tpa_n))))))))))))))))))))))
   (fun _ _ => ⟨⟨rfl, rfl⟩, trivial⟩) (fun _ => trivial) (fun r h => by cases h)
structure V_read_words where
  words : (List Str)
  line : Str
  first : Str
@[reducible] def V_read_words.put_words (s : V_read_words) (v : (List Str)) : V_read_words := { s with words := v }
@[reducible] def V_read_words.put_line (s : V_read_words) (v : Str) : V_read_words := { s with line := v }
def tb_read_words : Nat → Slot V_read_words
  | 0 => ⟨0, fun s => (fz MV.str) s.line⟩
  | 1 => ⟨1, fun s => (fz MV.str) s.first⟩
  | 2 => ⟨2, fun s => (fz (lV MV.str)) s.words⟩
  | _ => ⟨0, fun _ => fz nV ()⟩
abbrev cx_read_words : Cx V_read_words (List Str) := ⟨tb_read_words, 3, [], [], [], [], (fz (lV MV.str))⟩
theorem kp_read_words_words : Keep tb_read_words V_read_words.put_words 2 [0, 1] := ⟨kq, ⟨kq, trivial⟩⟩
def F_read_words : (Unit) → (Str × Str × Unit) → X (Unit) (List Str) := yRun (fun (i : Unit) (a : Str × Str × Unit) => ({ words := default, line := a.1, first := a.2.1 } : V_read_words)) (fun s => (())) (none : Option (List Str)) (ySeq (ySet V_read_words.put_words (x1o (gSplit " ") (xV V_read_words.line))) (ySeq (yIf (x2o (gEqP okS true) (x2o gIx (xV V_read_words.words) (xC (0 : Int))) (xV V_read_words.first)) (yRaise "MachineSyntaxError") yNil) (yRet (xSl (xV V_read_words.words) (x1 some (xC (1 : Int))) (xC none)))))
theorem ty_read_words : TFun (.fr MV.str (.fr MV.str (.nil)) : PSpec (Unit) (Str × Str × Unit)) m_read_words F_read_words (fz (lV MV.str)) := by
  unfold m_read_words F_read_words
  exact tf_mk (c := cx_read_words) (D0 := [0, 1]) (D1 := [])
   (ts_seq (ts_set (D0 := [0, 1]) 2 (tx_split (Ty.TP.tx (tp_v (i := 0) rfl rfl (fun _ => rfl)))) (kp_read_words_words.sub rfl) (fun _ _ => rfl)) (ts_seq (ts_if (D' := [2, 0, 1]) (D1 := [2, 0, 1]) (txt_v (tx_2o (o_eqP (neg := true) dtp_str) (tx_2o (o_ixF sq_l) (Ty.TP.tx (tp_v (i := 2) rfl rfl (fun _ => rfl))) (Ty.TP.tx (tp_c (val := MV.int) rfl))) (Ty.TP.tx (tp_v (i := 1) rfl rfl (fun _ => rfl))))) ts_raise ts_nil) (ts_ret (Ty.TP.tx (tp_sl os_l (tp_v (i := 2) rfl rfl (fun _ => rfl)) (tpi_s (tp_c (val := MV.int) rfl)) tpi_n)))))
   (fun _ _ => ⟨⟨rfl, rfl⟩, ⟨⟨rfl, rfl⟩, trivial⟩⟩) (fun _ => trivial) (fun r h => by cases h)
structure V_read_number where
  word : Str
  char : Str
@[reducible] def V_read_number.put_char (s : V_read_number) (v : Str) : V_read_number := { s with char := v }
def tb_read_number : Nat → Slot V_read_number
  | 0 => ⟨0, fun s => (fz MV.str) s.word⟩
  | 1 => ⟨1, fun s => (fz MV.str) s.char⟩
  | _ => ⟨0, fun _ => fz nV ()⟩
abbrev cx_read_number : Cx V_read_number Int := ⟨tb_read_number, 2, [], [], [], [], (fz MV.int)⟩
theorem kp_read_number_char : Keep tb_read_number V_read_number.put_char 1 [0] := ⟨kq, trivial⟩
def F_read_number : (Unit) → (Str × Unit) → X (Unit) Int := yRun (fun (i : Unit) (a : Str × Unit) => ({ word := a.1, char := default } : V_read_number)) (fun s => (())) (none : Option Int) (ySeq (yIf (xOr (x2o (gEqP okS false) (xV V_read_number.word) (xC ("" : Str))) (xAnd (x2o (gEqP okS false) (x2o gSIx (xV V_read_number.word) (xC (0 : Int))) (xC ("0" : Str))) (x2 (fun i j : Int => decide (j < i)) (x1o gLenS (xV V_read_number.word)) (xC (1 : Int))))) (yRaise "MachineSyntaxError") yNil) (ySeq (yFor (x1 chs1 (xV V_read_number.word)) V_read_number.put_char (yIf (x2o (gInS true) (xV V_read_number.char) (xC ("0123456789" : Str))) (yRaise "MachineSyntaxError") yNil)) (yRet (x1o gIntT (xV V_read_number.word)))))
theorem ty_read_number : TFun (.fr MV.str (.nil) : PSpec (Unit) (Str × Unit)) m_read_number F_read_number (fz MV.int) := by
  unfold m_read_number F_read_number
  exact tf_mk (c := cx_read_number) (D0 := [0]) (D1 := [])
   (ts_seq (ts_if (D' := [0]) (D1 := [0]) (txt_or (txt_v (tx_2o (o_eqP (neg := false) dtp_str) (Ty.TP.tx (tp_v (i := 0) rfl rfl (fun _ => rfl))) (Ty.TP.tx (tp_c (val := MV.str) rfl)))) (txt_and (txt_v (tx_2o (o_eqP (neg := false) dtp_str) (tx_2o o_six (Ty.TP.tx (tp_v (i := 0) rfl rfl (fun _ => rfl))) (Ty.TP.tx (tp_c (val := MV.int) rfl))) (Ty.TP.tx (tp_c (val := MV.str) rfl)))) (txt_v (tx_2 o_gt (Ty.TP.tx (tp_f1o (Op1.rd f1_lenX) (tp_v (i := 0) rfl rfl (fun _ => rfl)))) (Ty.TP.tx (tp_c (val := MV.int) rfl)))))) ts_raise ts_nil) (ts_seq (ts_for (Dl := [0]) (D2 := [1, 0]) (ti_str (Ty.TP.tx (tp_v (i := 0) rfl rfl (fun _ => rfl)))) (tg_nm (D0 := [0]) 1 (kp_read_number_char.sub rfl) (fun _ _ => rfl)) (ts_if (D' := [1, 0]) (D1 := [1, 0]) (txt_v (tx_2o (o_inC (neg := true)) (Ty.TP.tx (tp_v (i := 1) rfl rfl (fun _ => rfl))) (Ty.TP.tx (tp_c (val := MV.str) rfl)))) ts_raise ts_nil)) (ts_ret (Ty.TP.tx (tp_f1o (Op1.rd f1_intT) (tp_v (i := 0) rfl rfl (fun _ => rfl)))))))
   (fun _ _ => ⟨⟨rfl, rfl⟩, trivial⟩) (fun _ => trivial) (fun r h => by cases h)
structure V_read_lead where
  word : Str
def tb_read_lead : Nat → Slot V_read_lead
  | 0 => ⟨0, fun s => (fz MV.str) s.word⟩
  | _ => ⟨0, fun _ => fz nV ()⟩
abbrev cx_read_lead : Cx V_read_lead Int := ⟨tb_read_lead, 1, [], [], [], [], (fz MV.int)⟩
def F_read_lead : (Unit) → (Str × Unit) → X (Unit) Int := yRun (fun (i : Unit) (a : Str × Unit) => ({ word := a.1 } : V_read_lead)) (fun s => (())) (none : Option Int) (ySeq (yIf (xAnd (x2o (gEqP okS false) (xSlS (xV V_read_lead.word) (xC none) (x1 some (xC (1 : Int)))) (xC ("-" : Str))) (x2o (gEqP okS true) (xSlS (xV V_read_lead.word) (x1 some (xC (1 : Int))) (x1 some (xC (2 : Int)))) (xC ("0" : Str)))) (yRet (x1 (fun i : Int => -i) (xCall F_read_number (fun _ => ()) (fun s _ => s) (xCs (xSlS (xV V_read_lead.word) (x1 some (xC (1 : Int))) (xC none)) (xC ()))))) yNil) (yRet (xCall F_read_number (fun _ => ()) (fun s _ => s) (xCs (xV V_read_lead.word) (xC ())))))
theorem ty_read_lead : TFun (.fr MV.str (.nil) : PSpec (Unit) (Str × Unit)) m_read_lead F_read_lead (fz MV.int) := by
  unfold m_read_lead F_read_lead
  exact tf_mk (c := cx_read_lead) (D0 := [0]) (D1 := [])
   (ts_seq (ts_if (D' := [0]) (D1 := [0]) (txt_and (txt_v (tx_2o (o_eqP (neg := false) dtp_str) (Ty.TP.tx (tp_slS (tp_v (i := 0) rfl rfl (fun _ => rfl)) tpi_n (tpi_s (tp_c (val := MV.int) rfl)))) (Ty.TP.tx (tp_c (val := MV.str) rfl)))) (txt_v (tx_2o (o_eqP (neg := true) dtp_str) (Ty.TP.tx (tp_slS (tp_v (i := 0) rfl rfl (fun _ => rfl)) (tpi_s (tp_c (val := MV.int) rfl)) (tpi_s (tp_c (val := MV.int) rfl)))) (Ty.TP.tx (tp_c (val := MV.str) rfl))))) (ts_ret (tx_1 o_neg (tx_call ty_read_number (txp_f (Ty.TP.tx (tp_slS (tp_v (i := 0) rfl rfl (fun _ => rfl)) (tpi_s (tp_c (val := MV.int) rfl)) tpi_n)) txp_n)))) ts_nil) (ts_ret (tx_call ty_read_number (txp_f (Ty.TP.tx (tp_v (i := 0) rfl rfl (fun _ => rfl))) txp_n))))
   (fun _ _ => ⟨⟨rfl, rfl⟩, trivial⟩) (fun _ => trivial) (fun r h => by cases h)
structure V_read_pair where
  numbers : (List Str)
  word : Str
@[reducible] def V_read_pair.put_numbers (s : V_read_pair) (v : (List Str)) : V_read_pair := { s with numbers := v }
def tb_read_pair : Nat → Slot V_read_pair
  | 0 => ⟨0, fun s => (fz MV.str) s.word⟩
  | 1 => ⟨1, fun s => (fz (lV MV.str)) s.numbers⟩
  | _ => ⟨0, fun _ => fz nV ()⟩
abbrev cx_read_pair : Cx V_read_pair (Int × Int) := ⟨tb_read_pair, 2, [], [], [], [], (fz (p2 MV.int MV.int))⟩
theorem kp_read_pair_numbers : Keep tb_read_pair V_read_pair.put_numbers 1 [0] := ⟨kq, trivial⟩
def F_read_pair : (Unit) → (Str × Unit) → X (Unit) (Int × Int) := yRun (fun (i : Unit) (a : Str × Unit) => ({ numbers := default, word := a.1 } : V_read_pair)) (fun s => (())) (none : Option (Int × Int)) (ySeq (ySet V_read_pair.put_numbers (x1o (gSplit "/") (xV V_read_pair.word))) (ySeq (yIf (x2 (fun a b => if true = true then !decide (a = b) else decide (a = b)) (x1 (fun xs => (xs.length : Int)) (xV V_read_pair.numbers)) (xC (2 : Int))) (yRaise "MachineSyntaxError") yNil) (yRet (x1 (fun (x : Int × Int × Unit) => (x.1, x.2.1)) (xCs (xCall F_read_number (fun _ => ()) (fun s _ => s) (xCs (x2o gIx (xV V_read_pair.numbers) (xC (0 : Int))) (xC ()))) (xCs (xCall F_read_number (fun _ => ()) (fun s _ => s) (xCs (x2o gIx (xV V_read_pair.numbers) (xC (1 : Int))) (xC ()))) xN))))))
theorem ty_read_pair : TFun (.fr MV.str (.nil) : PSpec (Unit) (Str × Unit)) m_read_pair F_read_pair (fz (p2 MV.int MV.int)) := by
  unfold m_read_pair F_read_pair
  exact tf_mk (c := cx_read_pair) (D0 := [0]) (D1 := [])
   (ts_seq (ts_set (D0 := [0]) 1 (tx_split (Ty.TP.tx (tp_v (i := 0) rfl rfl (fun _ => rfl)))) (kp_read_pair_numbers.sub rfl) (fun _ _ => rfl)) (ts_seq (ts_if (D' := [1, 0]) (D1 := [1, 0]) (txt_v (tx_2 (o_eq (neg := true) dt_int) (Ty.TP.tx (tp_f1 f1_lenL (tp_v (i := 1) rfl rfl (fun _ => rfl)))) (Ty.TP.tx (tp_c (val := MV.int) rfl)))) ts_raise ts_nil) (ts_ret (tx_a (oa_tup (vc := (p2 MV.int MV.int)) (t := (fun (x : Int × Int × Unit) => (x.1, x.2.1))) (fun _ => rfl) 2 (fun _ => rfl)) (txa_c (tx_call ty_read_number (txp_f (tx_2o (o_ixF sq_l) (Ty.TP.tx (tp_v (i := 1) rfl rfl (fun _ => rfl))) (Ty.TP.tx (tp_c (val := MV.int) rfl))) txp_n)) (txa_c (tx_call ty_read_number (txp_f (tx_2o (o_ixF sq_l) (Ty.TP.tx (tp_v (i := 1) rfl rfl (fun _ => rfl))) (Ty.TP.tx (tp_c (val := MV.int) rfl))) txp_n)) (Ty.TPA.tx tpa_n)))))))
   (fun _ _ => ⟨⟨rfl, rfl⟩, trivial⟩) (fun _ => trivial) (fun r h => by cases h)
structure V_all_below where
  numbers : (List Int)
  number : Int
  limit : Int
@[reducible] def V_all_below.put_numbers (s : V_all_below) (v : (List Int)) : V_all_below := { s with numbers := v }
@[reducible] def V_all_below.put_number (s : V_all_below) (v : Int) : V_all_below := { s with number := v }
def tb_all_below : Nat → Slot V_all_below
  | 0 => ⟨0, fun s => (fz (lV MV.int)) s.numbers⟩
  | 1 => ⟨1, fun s => (fz MV.int) s.limit⟩
  | 2 => ⟨2, fun s => (fz MV.int) s.number⟩
  | _ => ⟨0, fun _ => fz nV ()⟩
abbrev cx_all_below : Cx V_all_below Bool := ⟨tb_all_below, 3, [], [], [], [], (fz MV.bl)⟩
theorem kp_all_below_number : Keep tb_all_below V_all_below.put_number 2 [0, 1] := ⟨kq, ⟨kq, trivial⟩⟩
def F_all_below : (Unit) → ((List Int) × Int × Unit) → X (Unit) Bool := yRun (fun (i : Unit) (a : (List Int) × Int × Unit) => ({ numbers := a.1, number := default, limit := a.2.1 } : V_all_below)) (fun s => (())) (none : Option Bool) (ySeq (yFor (xV V_all_below.numbers) V_all_below.put_number (yIf (xOr (x2 (fun i j : Int => decide (i < j)) (xV V_all_below.number) (xC (0 : Int))) (x2 (fun i j : Int => decide (j ≤ i)) (xV V_all_below.number) (xV V_all_below.limit))) (yRet (xC false)) yNil)) (yRet (xC true)))
theorem ty_all_below : TFun (.fr (lV MV.int) (.fr MV.int (.nil)) : PSpec (Unit) ((List Int) × Int × Unit)) m_all_below F_all_below (fz MV.bl) := by
  unfold m_all_below F_all_below
  exact tf_mk (c := cx_all_below) (D0 := [0, 1]) (D1 := [])
   (ts_seq (ts_for (Dl := [0, 1]) (D2 := [2, 0, 1]) (ti_l (Ty.TP.tx (tp_v (i := 0) rfl rfl (fun _ => rfl)))) (tg_nm (D0 := [0, 1]) 2 (kp_all_below_number.sub rfl) (fun _ _ => rfl)) (ts_if (D' := [2, 0, 1]) (D1 := [2, 0, 1]) (txt_or (txt_v (tx_2 o_lt (Ty.TP.tx (tp_v (i := 2) rfl rfl (fun _ => rfl))) (Ty.TP.tx (tp_c (val := MV.int) rfl)))) (txt_v (tx_2 o_ge (Ty.TP.tx (tp_v (i := 2) rfl rfl (fun _ => rfl))) (Ty.TP.tx (tp_v (i := 1) rfl rfl (fun _ => rfl)))))) (ts_ret (Ty.TP.tx (tp_c (val := MV.bl) rfl))) ts_nil)) (ts_ret (Ty.TP.tx (tp_c (val := MV.bl) rfl))))
   (fun _ _ => ⟨⟨rfl, rfl⟩, ⟨⟨rfl, rfl⟩, trivial⟩⟩) (fun _ => trivial) (fun r h => by cases h)
structure V_Machine_init where
  valid : Bool
  inputs : Int
  outputs : Int
  lead : Int
  opening : (List Int)
  rows : (List (List (Int × Int)))
  row : (List (Int × Int))
  pair_c0 : (Int × Int)
  pair_c1 : (Int × Int)
  self_inputs : Int
  self_outputs : Int
  self_lead : Int
  self_opening : (List Int)
  self_rows : (List (List (Int × Int)))
  row_c2 : (List (Int × Int))
  pair_c3 : (Int × Int)
@[reducible] def V_Machine_init.put_valid (s : V_Machine_init) (v : Bool) : V_Machine_init := { s with valid := v }
@[reducible] def V_Machine_init.put_inputs (s : V_Machine_init) (v : Int) : V_Machine_init := { s with inputs := v }
@[reducible] def V_Machine_init.put_outputs (s : V_Machine_init) (v : Int) : V_Machine_init := { s with outputs := v }
@[reducible] def V_Machine_init.put_lead (s : V_Machine_init) (v : Int) : V_Machine_init := { s with lead := v }
@[reducible] def V_Machine_init.put_opening (s : V_Machine_init) (v : (List Int)) : V_Machine_init := { s with opening := v }
@[reducible] def V_Machine_init.put_rows (s : V_Machine_init) (v : (List (List (Int × Int)))) : V_Machine_init := { s with rows := v }
@[reducible] def V_Machine_init.put_row (s : V_Machine_init) (v : (List (Int × Int))) : V_Machine_init := { s with row := v }
@[reducible] def V_Machine_init.put_pair_c0 (s : V_Machine_init) (v : (Int × Int)) : V_Machine_init := { s with pair_c0 := v }
@[reducible] def V_Machine_init.put_pair_c1 (s : V_Machine_init) (v : (Int × Int)) : V_Machine_init := { s with pair_c1 := v }
@[reducible] def V_Machine_init.put_self_inputs (s : V_Machine_init) (v : Int) : V_Machine_init := { s with self_inputs := v }
@[reducible] def V_Machine_init.put_self_outputs (s : V_Machine_init) (v : Int) : V_Machine_init := { s with self_outputs := v }
@[reducible] def V_Machine_init.put_self_lead (s : V_Machine_init) (v : Int) : V_Machine_init := { s with self_lead := v }
@[reducible] def V_Machine_init.put_self_opening (s : V_Machine_init) (v : (List Int)) : V_Machine_init := { s with self_opening := v }
@[reducible] def V_Machine_init.put_self_rows (s : V_Machine_init) (v : (List (List (Int × Int)))) : V_Machine_init := { s with self_rows := v }
@[reducible] def V_Machine_init.put_row_c2 (s : V_Machine_init) (v : (List (Int × Int))) : V_Machine_init := { s with row_c2 := v }
@[reducible] def V_Machine_init.put_pair_c3 (s : V_Machine_init) (v : (Int × Int)) : V_Machine_init := { s with pair_c3 := v }
def tb_Machine_init : Nat → Slot V_Machine_init
  | 0 => ⟨0, fun s => insP "Machine" [] []⟩
  | 1 => ⟨1, fun s => (fz MV.int) s.inputs⟩
  | 2 => ⟨2, fun s => (fz MV.int) s.outputs⟩
  | 3 => ⟨3, fun s => (fz MV.int) s.lead⟩
  | 4 => ⟨4, fun s => (fz (lV MV.int)) s.opening⟩
  | 5 => ⟨5, fun s => (fz (lV (lV (p2 MV.int MV.int)))) s.rows⟩
  | 6 => ⟨6, fun s => (fz MV.bl) s.valid⟩
  | 7 => ⟨7, fun s => (fz (lV (p2 MV.int MV.int))) s.row⟩
  | 8 => ⟨8, fun s => (fz (p2 MV.int MV.int)) s.pair_c0⟩
  | 9 => ⟨8, fun s => (fz (p2 MV.int MV.int)) s.pair_c1⟩
  | 10 => ⟨0, fun s => insP "Machine" ["inputs"] [MV.int s.self_inputs]⟩
  | 11 => ⟨0, fun s => insP "Machine" ["inputs", "outputs"] [MV.int s.self_inputs, MV.int s.self_outputs]⟩
  | 12 => ⟨0, fun s => insP "Machine" ["inputs", "outputs", "lead"] [MV.int s.self_inputs, MV.int s.self_outputs, MV.int s.self_lead]⟩
  | 13 => ⟨0, fun s => insP "Machine" ["inputs", "outputs", "lead", "opening"] [MV.int s.self_inputs, MV.int s.self_outputs, MV.int s.self_lead, (tV MV.int) s.self_opening]⟩
  | 14 => ⟨0, fun s => insP "Machine" ["inputs", "outputs", "lead", "opening", "rows"] [MV.int s.self_inputs, MV.int s.self_outputs, MV.int s.self_lead, (tV MV.int) s.self_opening, (tV (tV (p2 MV.int MV.int))) s.self_rows]⟩
  | 15 => ⟨7, fun s => (fz (lV (p2 MV.int MV.int))) s.row_c2⟩
  | 16 => ⟨8, fun s => (fz (p2 MV.int MV.int)) s.pair_c3⟩
  | _ => ⟨0, fun _ => fz nV ()⟩
abbrev cx_Machine_init : Cx V_Machine_init Unit := ⟨tb_Machine_init, 9, [], [], [], [0], (fz nV)⟩
theorem kp_Machine_init_valid : Keep tb_Machine_init V_Machine_init.put_valid 6 [0, 1, 2, 3, 4, 5, 7, 8, 9, 10, 11, 12, 13, 14, 15, 16] := ⟨kq, ⟨kq, ⟨kq, ⟨kq, ⟨kq, ⟨kq, ⟨kq, ⟨kq, ⟨kq, ⟨kq, ⟨kq, ⟨kq, ⟨kq, ⟨kq, ⟨kq, ⟨kq, trivial⟩⟩⟩⟩⟩⟩⟩⟩⟩⟩⟩⟩⟩⟩⟩⟩
theorem kp_Machine_init_row : Keep tb_Machine_init V_Machine_init.put_row 7 [0, 1, 2, 3, 4, 5, 6, 8, 9, 10, 11, 12, 13, 14, 16] := ⟨kq, ⟨kq, ⟨kq, ⟨kq, ⟨kq, ⟨kq, ⟨kq, ⟨kq, ⟨kq, ⟨kq, ⟨kq, ⟨kq, ⟨kq, ⟨kq, ⟨kq, trivial⟩⟩⟩⟩⟩⟩⟩⟩⟩⟩⟩⟩⟩⟩⟩
theorem kp_Machine_init_pair_c0 : Keep tb_Machine_init V_Machine_init.put_pair_c0 8 [0, 1, 2, 3, 4, 5, 6, 7, 10, 11, 12, 13, 14, 15] := ⟨kq, ⟨kq, ⟨kq, ⟨kq, ⟨kq, ⟨kq, ⟨kq, ⟨kq, ⟨kq, ⟨kq, ⟨kq, ⟨kq, ⟨kq, ⟨kq, trivial⟩⟩⟩⟩⟩⟩⟩⟩⟩⟩⟩⟩⟩⟩
theorem kp_Machine_init_pair_c1 : Keep tb_Machine_init V_Machine_init.put_pair_c1 8 [0, 1, 2, 3, 4, 5, 6, 7, 10, 11, 12, 13, 14, 15] := ⟨kq, ⟨kq, ⟨kq, ⟨kq, ⟨kq, ⟨kq, ⟨kq, ⟨kq, ⟨kq, ⟨kq, ⟨kq, ⟨kq, ⟨kq, ⟨kq, trivial⟩⟩⟩⟩⟩⟩⟩⟩⟩⟩⟩⟩⟩⟩
theorem kp_Machine_init_self_inputs : Keep tb_Machine_init V_Machine_init.put_self_inputs 999 [0, 1, 2, 3, 4, 5, 6, 7, 8, 9, 15, 16] := ⟨kq, ⟨kq, ⟨kq, ⟨kq, ⟨kq, ⟨kq, ⟨kq, ⟨kq, ⟨kq, ⟨kq, ⟨kq, ⟨kq, trivial⟩⟩⟩⟩⟩⟩⟩⟩⟩⟩⟩⟩
theorem kp_Machine_init_self_outputs : Keep tb_Machine_init V_Machine_init.put_self_outputs 999 [0, 1, 2, 3, 4, 5, 6, 7, 8, 9, 10, 15, 16] := ⟨kq, ⟨kq, ⟨kq, ⟨kq, ⟨kq, ⟨kq, ⟨kq, ⟨kq, ⟨kq, ⟨kq, ⟨kq, ⟨kq, ⟨kq, trivial⟩⟩⟩⟩⟩⟩⟩⟩⟩⟩⟩⟩⟩
theorem kp_Machine_init_self_lead : Keep tb_Machine_init V_Machine_init.put_self_lead 999 [0, 1, 2, 3, 4, 5, 6, 7, 8, 9, 10, 11, 15, 16] := ⟨kq, ⟨kq, ⟨kq, ⟨kq, ⟨kq, ⟨kq, ⟨kq, ⟨kq, ⟨kq, ⟨kq, ⟨kq, ⟨kq, ⟨kq, ⟨kq, trivial⟩⟩⟩⟩⟩⟩⟩⟩⟩⟩⟩⟩⟩⟩
theorem kp_Machine_init_self_opening : Keep tb_Machine_init V_Machine_init.put_self_opening 999 [0, 1, 2, 3, 4, 5, 6, 7, 8, 9, 10, 11, 12, 15, 16] := ⟨kq, ⟨kq, ⟨kq, ⟨kq, ⟨kq, ⟨kq, ⟨kq, ⟨kq, ⟨kq, ⟨kq, ⟨kq, ⟨kq, ⟨kq, ⟨kq, ⟨kq, trivial⟩⟩⟩⟩⟩⟩⟩⟩⟩⟩⟩⟩⟩⟩⟩
theorem kp_Machine_init_self_rows : Keep tb_Machine_init V_Machine_init.put_self_rows 999 [0, 1, 2, 3, 4, 5, 6, 7, 8, 9, 10, 11, 12, 13, 15, 16] := ⟨kq, ⟨kq, ⟨kq, ⟨kq, ⟨kq, ⟨kq, ⟨kq, ⟨kq, ⟨kq, ⟨kq, ⟨kq, ⟨kq, ⟨kq, ⟨kq, ⟨kq, ⟨kq, trivial⟩⟩⟩⟩⟩⟩⟩⟩⟩⟩⟩⟩⟩⟩⟩⟩
theorem kp_Machine_init_row_c2 : Keep tb_Machine_init V_Machine_init.put_row_c2 7 [0, 1, 2, 3, 4, 5, 6, 8, 9, 10, 11, 12, 13, 14, 16] := ⟨kq, ⟨kq, ⟨kq, ⟨kq, ⟨kq, ⟨kq, ⟨kq, ⟨kq, ⟨kq, ⟨kq, ⟨kq, ⟨kq, ⟨kq, ⟨kq, ⟨kq, trivial⟩⟩⟩⟩⟩⟩⟩⟩⟩⟩⟩⟩⟩⟩⟩
theorem kp_Machine_init_pair_c3 : Keep tb_Machine_init V_Machine_init.put_pair_c3 8 [0, 1, 2, 3, 4, 5, 6, 7, 10, 11, 12, 13, 14, 15] := ⟨kq, ⟨kq, ⟨kq, ⟨kq, ⟨kq, ⟨kq, ⟨kq, ⟨kq, ⟨kq, ⟨kq, ⟨kq, ⟨kq, ⟨kq, ⟨kq, trivial⟩⟩⟩⟩⟩⟩⟩⟩⟩⟩⟩⟩⟩⟩
theorem kp_Machine_init_SELF : Keep tb_Machine_init (fun (s : V_Machine_init) (_ : Unit) => s) 0 [1, 2, 3, 4, 5, 6, 7, 8, 9, 15, 16] := ⟨kq, ⟨kq, ⟨kq, ⟨kq, ⟨kq, ⟨kq, ⟨kq, ⟨kq, ⟨kq, ⟨kq, ⟨kq, trivial⟩⟩⟩⟩⟩⟩⟩⟩⟩⟩⟩
def F_Machine_init : Int × Int × Int × (List Int) × (List (List (Int × Int))) × Unit → X Unit C_Machine := yInit (fun (a : Int × Int × Int × (List Int) × (List (List (Int × Int))) × Unit) => ({ valid := default, inputs := a.1, outputs := a.2.1, lead := a.2.2.1, opening := a.2.2.2.1, rows := a.2.2.2.2.1, row := default, pair_c0 := default, pair_c1 := default, self_inputs := default, self_outputs := default, self_lead := default, self_opening := default, self_rows := default, row_c2 := default, pair_c3 := default } : V_Machine_init)) (fun s => (⟨s.self_inputs, s.self_outputs, s.self_lead, s.self_opening, s.self_rows⟩ : C_Machine)) (ySeq (ySet V_Machine_init.put_valid (xAnd (x2 (fun i j : Int => decide (j ≤ i)) (xV V_Machine_init.inputs) (xC (1 : Int))) (xAnd (x2 (fun i j : Int => decide (j ≤ i)) (xV V_Machine_init.outputs) (xC (1 : Int))) (xCh (fun i j => some ((fun i j : Int => decide (i ≤ j)) i j)) (fun i j => some ((fun i j : Int => decide (i ≤ j)) i j)) (x1 (fun i : Int => -i) (xC (3 : Int))) (xV V_Machine_init.lead) (xC (2 : Int)))))) (ySeq (ySet V_Machine_init.put_valid (xAnd (xV V_Machine_init.valid) (xAnd (x2 (fun a b => if false = true then !decide (a = b) else decide (a = b)) (x1 (fun xs => (xs.length : Int)) (xV V_Machine_init.opening)) (x1 (fun x : Int × Int × Unit => max x.1 x.2.1) (xCs (xC (0 : Int)) (xCs (x1 (fun i : Int => -i) (xV V_Machine_init.lead)) xN)))) (x2 (fun i j : Int => decide (j ≤ i)) (x1 (fun xs => (xs.length : Int)) (xV V_Machine_init.rows)) (xC (1 : Int)))))) (ySeq (ySet V_Machine_init.put_valid (xAnd (xV V_Machine_init.valid) (xCall (fNox F_all_below) (fun _ => ()) (fun s _ => s) (xCs (xV V_Machine_init.opening) (xCs (xV V_Machine_init.outputs) (xC ())))))) (ySeq (yFor (xV V_Machine_init.rows) V_Machine_init.put_row (ySeq (ySet V_Machine_init.put_valid (xAnd (xV V_Machine_init.valid) (x2 (fun a b => if false = true then !decide (a = b) else decide (a = b)) (x1 (fun xs => (xs.length : Int)) (xV V_Machine_init.row)) (xV V_Machine_init.inputs)))) (ySeq (ySet V_Machine_init.put_valid (xAnd (xV V_Machine_init.valid) (xCall (fNox F_all_below) (fun _ => ()) (fun s _ => s) (xCs (xComp (xV V_Machine_init.row) V_Machine_init.put_pair_c0 xYes (x1 (fun x : (Int × Int) => x.1) (xV V_Machine_init.pair_c0))) (xCs (x1 (fun xs => (xs.length : Int)) (xV V_Machine_init.rows)) (xC ())))))) (ySet V_Machine_init.put_valid (xAnd (xV V_Machine_init.valid) (xCall (fNox F_all_below) (fun _ => ()) (fun s _ => s) (xCs (xComp (xV V_Machine_init.row) V_Machine_init.put_pair_c1 xYes (x1 (fun x : (Int × Int) => x.2) (xV V_Machine_init.pair_c1))) (xCs (xV V_Machine_init.outputs) (xC ()))))))))) (ySeq (yIf (xNot (xV V_Machine_init.valid)) (yRaise "InvalidMachine") yNil) (ySeq (ySet V_Machine_init.put_self_inputs (xV V_Machine_init.inputs)) (ySeq (ySet V_Machine_init.put_self_outputs (xV V_Machine_init.outputs)) (ySeq (ySet V_Machine_init.put_self_lead (xV V_Machine_init.lead)) (ySeq (ySet V_Machine_init.put_self_opening (x1 (fun xs => xs) (xV V_Machine_init.opening))) (ySet V_Machine_init.put_self_rows (x1 (fun xs => xs) (xComp (xV V_Machine_init.rows) V_Machine_init.put_row_c2 xYes (x1 (fun xs => xs) (xComp (xV V_Machine_init.row_c2) V_Machine_init.put_pair_c3 xYes (x1 (fun (x : Int × Int × Unit) => (x.1, x.2.1)) (xCs (x1 (fun x : (Int × Int) => x.1) (xV V_Machine_init.pair_c3)) (xCs (x1 (fun x : (Int × Int) => x.2) (xV V_Machine_init.pair_c3)) xN)))))))))))))))))
theorem ty_Machine_init : TMk "Machine" m_Machine_init (fun (a : Int × Int × Int × (List Int) × (List (List (Int × Int))) × Unit) => [MV.int a.1, MV.int a.2.1, MV.int a.2.2.1, (lV MV.int) a.2.2.2.1, (lV (lV (p2 MV.int MV.int))) a.2.2.2.2.1]) F_Machine_init v_Machine := by
  unfold m_Machine_init F_Machine_init
  exact tmk_mk (c := cx_Machine_init) (ps := .fr MV.int (.fr MV.int (.fr MV.int (.fr (lV MV.int) (.fr (lV (lV (p2 MV.int MV.int))) (.nil)))))) (D0 := [0, 1, 2, 3, 4, 5]) (D1 := [14, 6, 1, 2, 3, 4, 5]) (xs := fun s => [MV.int s.self_inputs, MV.int s.self_outputs, MV.int s.self_lead, (tV MV.int) s.self_opening, (tV (tV (p2 MV.int MV.int))) s.self_rows]) 14
   (ts_seq (ts_set (D0 := [0, 1, 2, 3, 4, 5]) 6 (tx_and (tx_2 o_ge (Ty.TP.tx (tp_v (i := 1) rfl rfl (fun _ => rfl))) (Ty.TP.tx (tp_c (val := MV.int) rfl))) (tx_and (tx_2 o_ge (Ty.TP.tx (tp_v (i := 2) rfl rfl (fun _ => rfl))) (Ty.TP.tx (tp_c (val := MV.int) rfl))) (tx_ch o_le o_le (tx_1 o_neg (Ty.TP.tx (tp_c (val := MV.int) rfl))) (Ty.TP.tx (tp_v (i := 3) rfl rfl (fun _ => rfl))) (Ty.TP.tx (tp_c (val := MV.int) rfl))))) (kp_Machine_init_valid.sub rfl) (fun _ _ => rfl)) (ts_seq (ts_set (D0 := [0, 1, 2, 3, 4, 5]) 6 (tx_and (Ty.TP.tx (tp_v (i := 6) rfl rfl (fun _ => rfl))) (tx_and (tx_2 (o_eq (neg := false) dt_int) (Ty.TP.tx (tp_f1 f1_lenL (tp_v (i := 4) rfl rfl (fun _ => rfl)))) (tx_a (OpF.a ff_max) (txa_c (Ty.TP.tx (tp_c (val := MV.int) rfl)) (txa_c (tx_1 o_neg (Ty.TP.tx (tp_v (i := 3) rfl rfl (fun _ => rfl)))) (Ty.TPA.tx tpa_n))))) (tx_2 o_ge (Ty.TP.tx (tp_f1 f1_lenL (tp_v (i := 5) rfl rfl (fun _ => rfl)))) (Ty.TP.tx (tp_c (val := MV.int) rfl))))) (kp_Machine_init_valid.sub rfl) (fun _ _ => rfl)) (ts_seq (ts_set (D0 := [0, 1, 2, 3, 4, 5]) 6 (tx_and (Ty.TP.tx (tp_v (i := 6) rfl rfl (fun _ => rfl))) (tx_call (tf_nox ty_all_below) (txp_f (Ty.TP.tx (tp_v (i := 4) rfl rfl (fun _ => rfl))) (txp_f (Ty.TP.tx (tp_v (i := 2) rfl rfl (fun _ => rfl))) txp_n)))) (kp_Machine_init_valid.sub rfl) (fun _ _ => rfl)) (ts_seq (ts_for (Dl := [6, 0, 1, 2, 3, 4, 5]) (D2 := [6, 7, 0, 1, 2, 3, 4, 5]) (ti_l (Ty.TP.tx (tp_v (i := 5) rfl rfl (fun _ => rfl)))) (tg_nm (D0 := [6, 0, 1, 2, 3, 4, 5]) 7 (kp_Machine_init_row.sub rfl) (fun _ _ => rfl)) (ts_seq (ts_set (D0 := [7, 0, 1, 2, 3, 4, 5]) 6 (tx_and (Ty.TP.tx (tp_v (i := 6) rfl rfl (fun _ => rfl))) (tx_2 (o_eq (neg := false) dt_int) (Ty.TP.tx (tp_f1 f1_lenL (tp_v (i := 7) rfl rfl (fun _ => rfl)))) (Ty.TP.tx (tp_v (i := 1) rfl rfl (fun _ => rfl))))) (kp_Machine_init_valid.sub rfl) (fun _ _ => rfl)) (ts_seq (ts_set (D0 := [7, 0, 1, 2, 3, 4, 5]) 6 (tx_and (Ty.TP.tx (tp_v (i := 6) rfl rfl (fun _ => rfl))) (tx_call (tf_nox ty_all_below) (txp_f (tx_comp (ti_l (Ty.TP.tx (tp_v (i := 7) rfl rfl (fun _ => rfl)))) (tg_nm (D0 := [6, 7, 0, 1, 2, 3, 4, 5]) 8 (kp_Machine_init_pair_c0.sub rfl) (fun _ _ => rfl)) txt_yes (tx_pr (vc := MV.int) (pr := (fun x : (Int × Int) => x.1)) (fun _ _ => rfl) (Ty.TP.tx (tp_v (i := 8) rfl rfl (fun _ => rfl))))) (txp_f (Ty.TP.tx (tp_f1 f1_lenL (tp_v (i := 5) rfl rfl (fun _ => rfl)))) txp_n)))) (kp_Machine_init_valid.sub rfl) (fun _ _ => rfl)) (ts_set (D0 := [7, 0, 1, 2, 3, 4, 5]) 6 (tx_and (Ty.TP.tx (tp_v (i := 6) rfl rfl (fun _ => rfl))) (tx_call (tf_nox ty_all_below) (txp_f (tx_comp (ti_l (Ty.TP.tx (tp_v (i := 7) rfl rfl (fun _ => rfl)))) (tg_nm (D0 := [6, 7, 0, 1, 2, 3, 4, 5]) 9 (kp_Machine_init_pair_c1.sub rfl) (fun _ _ => rfl)) txt_yes (tx_pr (vc := MV.int) (pr := (fun x : (Int × Int) => x.2)) (fun _ _ => rfl) (Ty.TP.tx (tp_v (i := 9) rfl rfl (fun _ => rfl))))) (txp_f (Ty.TP.tx (tp_v (i := 2) rfl rfl (fun _ => rfl))) txp_n)))) (kp_Machine_init_valid.sub rfl) (fun _ _ => rfl))))) (ts_seq (ts_if (D' := [6, 0, 1, 2, 3, 4, 5]) (D1 := [6, 0, 1, 2, 3, 4, 5]) (txt_not (txt_v (Ty.TP.tx (tp_v (i := 6) rfl rfl (fun _ => rfl))))) ts_raise ts_nil) (ts_seq (ts_fld (D0 := [6, 1, 2, 3, 4, 5]) 0 10 (Ty.TP.tx (tp_v (i := 1) rfl rfl (fun _ => rfl))) (fun _ => rfl) (fun _ _ => rfl) (by decide +kernel) (by decide +kernel) (by decide) (kp_Machine_init_self_inputs.sub rfl) (kp_Machine_init_SELF.sub rfl : Keep _ _ 0 [6, 1, 2, 3, 4, 5]).same) (ts_seq (ts_fld (D0 := [6, 1, 2, 3, 4, 5]) 10 11 (Ty.TP.tx (tp_v (i := 2) rfl rfl (fun _ => rfl))) (fun _ => rfl) (fun _ _ => rfl) (by decide +kernel) (by decide +kernel) (by decide) (kp_Machine_init_self_outputs.sub rfl) (kp_Machine_init_SELF.sub rfl : Keep _ _ 0 [6, 1, 2, 3, 4, 5]).same) (ts_seq (ts_fld (D0 := [6, 1, 2, 3, 4, 5]) 11 12 (Ty.TP.tx (tp_v (i := 3) rfl rfl (fun _ => rfl))) (fun _ => rfl) (fun _ _ => rfl) (by decide +kernel) (by decide +kernel) (by decide) (kp_Machine_init_self_lead.sub rfl) (kp_Machine_init_SELF.sub rfl : Keep _ _ 0 [6, 1, 2, 3, 4, 5]).same) (ts_seq (ts_fld (D0 := [6, 1, 2, 3, 4, 5]) 12 13 (Ty.TP.tx (tp_f1 (Op1.rd f1_tupL) (tp_v (i := 4) rfl rfl (fun _ => rfl)))) (fun _ => rfl) (fun _ _ => rfl) (by decide +kernel) (by decide +kernel) (by decide) (kp_Machine_init_self_opening.sub rfl) (kp_Machine_init_SELF.sub rfl : Keep _ _ 0 [6, 1, 2, 3, 4, 5]).same) (ts_fld (D0 := [6, 1, 2, 3, 4, 5]) 13 14 (tx_f1 f1_tupL (tx_comp (ti_l (Ty.TP.tx (tp_v (i := 5) rfl rfl (fun _ => rfl)))) (tg_nm (D0 := [13, 6, 1, 2, 3, 4, 5]) 15 (kp_Machine_init_row_c2.sub rfl) (fun _ _ => rfl)) txt_yes (tx_f1 f1_tupL (tx_comp (ti_l (Ty.TP.tx (tp_v (i := 15) rfl rfl (fun _ => rfl)))) (tg_nm (D0 := [15, 13, 6, 1, 2, 3, 4, 5]) 16 (kp_Machine_init_pair_c3.sub rfl) (fun _ _ => rfl)) txt_yes (tx_a (oa_tup (vc := (p2 MV.int MV.int)) (t := (fun (x : Int × Int × Unit) => (x.1, x.2.1))) (fun _ => rfl) 2 (fun _ => rfl)) (txa_c (tx_pr (vc := MV.int) (pr := (fun x : (Int × Int) => x.1)) (fun _ _ => rfl) (Ty.TP.tx (tp_v (i := 16) rfl rfl (fun _ => rfl)))) (txa_c (tx_pr (vc := MV.int) (pr := (fun x : (Int × Int) => x.2)) (fun _ _ => rfl) (Ty.TP.tx (tp_v (i := 16) rfl rfl (fun _ => rfl)))) (Ty.TPA.tx tpa_n)))))))) (fun _ => rfl) (fun _ _ => rfl) (by decide +kernel) (by decide +kernel) (by decide) (kp_Machine_init_self_rows.sub rfl) (kp_Machine_init_SELF.sub rfl : Keep _ _ 0 [6, 1, 2, 3, 4, 5]).same))))))))))
   (fun _ => ⟨⟨rfl, rfl⟩, ⟨⟨rfl, rfl⟩, ⟨⟨rfl, rfl⟩, ⟨⟨rfl, rfl⟩, ⟨⟨rfl, rfl⟩, ⟨⟨rfl, rfl⟩, trivial⟩⟩⟩⟩⟩⟩) (fun _ _ => ⟨_, rfl, ⟨_, rfl, ⟨_, rfl, ⟨_, rfl, ⟨_, rfl, ⟨rfl, rfl⟩⟩⟩⟩⟩⟩) (fun _ => rfl) (fun _ => rfl)
structure V_parse_machine where
  lines : (List Str)
  text : Str
  sizes : (List Str)
  inputs : Int
  outputs : Int
  lead : Int
  opening : (List Int)
  word_c0 : Str
  rows : (List (List (Int × Int)))
  line : Str
  word_c1 : Str
@[reducible] def V_parse_machine.put_lines (s : V_parse_machine) (v : (List Str)) : V_parse_machine := { s with lines := v }
@[reducible] def V_parse_machine.put_sizes (s : V_parse_machine) (v : (List Str)) : V_parse_machine := { s with sizes := v }
@[reducible] def V_parse_machine.put_inputs (s : V_parse_machine) (v : Int) : V_parse_machine := { s with inputs := v }
@[reducible] def V_parse_machine.put_outputs (s : V_parse_machine) (v : Int) : V_parse_machine := { s with outputs := v }
@[reducible] def V_parse_machine.put_lead (s : V_parse_machine) (v : Int) : V_parse_machine := { s with lead := v }
@[reducible] def V_parse_machine.put_opening (s : V_parse_machine) (v : (List Int)) : V_parse_machine := { s with opening := v }
@[reducible] def V_parse_machine.put_word_c0 (s : V_parse_machine) (v : Str) : V_parse_machine := { s with word_c0 := v }
@[reducible] def V_parse_machine.put_rows (s : V_parse_machine) (v : (List (List (Int × Int)))) : V_parse_machine := { s with rows := v }
@[reducible] def V_parse_machine.put_line (s : V_parse_machine) (v : Str) : V_parse_machine := { s with line := v }
@[reducible] def V_parse_machine.put_word_c1 (s : V_parse_machine) (v : Str) : V_parse_machine := { s with word_c1 := v }
def tb_parse_machine : Nat → Slot V_parse_machine
  | 0 => ⟨0, fun s => (fz MV.str) s.text⟩
  | 1 => ⟨1, fun s => (fz (lV MV.str)) s.lines⟩
  | 2 => ⟨2, fun s => (fz (lV MV.str)) s.sizes⟩
  | 3 => ⟨3, fun s => (fz MV.int) s.inputs⟩
  | 4 => ⟨4, fun s => (fz MV.int) s.outputs⟩
  | 5 => ⟨5, fun s => (fz MV.int) s.lead⟩
  | 6 => ⟨6, fun s => (fz (lV MV.int)) s.opening⟩
  | 7 => ⟨7, fun s => (fz MV.str) s.word_c0⟩
  | 8 => ⟨8, fun s => (own1 (lV (p2 MV.int MV.int))) s.rows⟩
  | 9 => ⟨9, fun s => (fz MV.str) s.line⟩
  | 10 => ⟨7, fun s => (fz MV.str) s.word_c1⟩
  | 11 => ⟨8, fun s => (fz (lV (lV (p2 MV.int MV.int)))) s.rows⟩
  | _ => ⟨0, fun _ => fz nV ()⟩
abbrev cx_parse_machine : Cx V_parse_machine C_Machine := ⟨tb_parse_machine, 10, [], [], [], [], (fz v_Machine)⟩
theorem kp_parse_machine_lines : Keep tb_parse_machine V_parse_machine.put_lines 1 [0, 2, 3, 4, 5, 6, 7, 8, 9, 10, 11] := ⟨kq, ⟨kq, ⟨kq, ⟨kq, ⟨kq, ⟨kq, ⟨kq, ⟨kq, ⟨kq, ⟨kq, ⟨kq, trivial⟩⟩⟩⟩⟩⟩⟩⟩⟩⟩⟩
theorem kp_parse_machine_sizes : Keep tb_parse_machine V_parse_machine.put_sizes 2 [0, 1, 3, 4, 5, 6, 7, 8, 9, 10, 11] := ⟨kq, ⟨kq, ⟨kq, ⟨kq, ⟨kq, ⟨kq, ⟨kq, ⟨kq, ⟨kq, ⟨kq, ⟨kq, trivial⟩⟩⟩⟩⟩⟩⟩⟩⟩⟩⟩
theorem kp_parse_machine_inputs : Keep tb_parse_machine V_parse_machine.put_inputs 3 [0, 1, 2, 4, 5, 6, 7, 8, 9, 10, 11] := ⟨kq, ⟨kq, ⟨kq, ⟨kq, ⟨kq, ⟨kq, ⟨kq, ⟨kq, ⟨kq, ⟨kq, ⟨kq, trivial⟩⟩⟩⟩⟩⟩⟩⟩⟩⟩⟩
theorem kp_parse_machine_outputs : Keep tb_parse_machine V_parse_machine.put_outputs 4 [0, 1, 2, 3, 5, 6, 7, 8, 9, 10, 11] := ⟨kq, ⟨kq, ⟨kq, ⟨kq, ⟨kq, ⟨kq, ⟨kq, ⟨kq, ⟨kq, ⟨kq, ⟨kq, trivial⟩⟩⟩⟩⟩⟩⟩⟩⟩⟩⟩
theorem kp_parse_machine_lead : Keep tb_parse_machine V_parse_machine.put_lead 5 [0, 1, 2, 3, 4, 6, 7, 8, 9, 10, 11] := ⟨kq, ⟨kq, ⟨kq, ⟨kq, ⟨kq, ⟨kq, ⟨kq, ⟨kq, ⟨kq, ⟨kq, ⟨kq, trivial⟩⟩⟩⟩⟩⟩⟩⟩⟩⟩⟩
theorem kp_parse_machine_opening : Keep tb_parse_machine V_parse_machine.put_opening 6 [0, 1, 2, 3, 4, 5, 7, 8, 9, 10, 11] := ⟨kq, ⟨kq, ⟨kq, ⟨kq, ⟨kq, ⟨kq, ⟨kq, ⟨kq, ⟨kq, ⟨kq, ⟨kq, trivial⟩⟩⟩⟩⟩⟩⟩⟩⟩⟩⟩
theorem kp_parse_machine_word_c0 : Keep tb_parse_machine V_parse_machine.put_word_c0 7 [0, 1, 2, 3, 4, 5, 6, 8, 9, 11] := ⟨kq, ⟨kq, ⟨kq, ⟨kq, ⟨kq, ⟨kq, ⟨kq, ⟨kq, ⟨kq, ⟨kq, trivial⟩⟩⟩⟩⟩⟩⟩⟩⟩⟩
theorem kp_parse_machine_rows : Keep tb_parse_machine V_parse_machine.put_rows 8 [0, 1, 2, 3, 4, 5, 6, 7, 9, 10] := ⟨kq, ⟨kq, ⟨kq, ⟨kq, ⟨kq, ⟨kq, ⟨kq, ⟨kq, ⟨kq, ⟨kq, trivial⟩⟩⟩⟩⟩⟩⟩⟩⟩⟩
theorem kp_parse_machine_line : Keep tb_parse_machine V_parse_machine.put_line 9 [0, 1, 2, 3, 4, 5, 6, 7, 8, 10, 11] := ⟨kq, ⟨kq, ⟨kq, ⟨kq, ⟨kq, ⟨kq, ⟨kq, ⟨kq, ⟨kq, ⟨kq, ⟨kq, trivial⟩⟩⟩⟩⟩⟩⟩⟩⟩⟩⟩
theorem kp_parse_machine_word_c1 : Keep tb_parse_machine V_parse_machine.put_word_c1 7 [0, 1, 2, 3, 4, 5, 6, 8, 9, 11] := ⟨kq, ⟨kq, ⟨kq, ⟨kq, ⟨kq, ⟨kq, ⟨kq, ⟨kq, ⟨kq, ⟨kq, trivial⟩⟩⟩⟩⟩⟩⟩⟩⟩⟩
def F_parse_machine : (Unit) → (Str × Unit) → X (Unit) C_Machine := yRun (fun (i : Unit) (a : Str × Unit) => ({ lines := default, text := a.1, sizes := default, inputs := default, outputs := default, lead := default, opening := default, word_c0 := default, rows := default, line := default, word_c1 := default } : V_parse_machine)) (fun s => (())) (none : Option C_Machine) (ySeq (ySet V_parse_machine.put_lines (x1o (gSplit "\n") (xV V_parse_machine.text))) (ySeq (yIf (xOr (x2 (fun i j : Int => decide (i < j)) (x1 (fun xs => (xs.length : Int)) (xV V_parse_machine.lines)) (xC (4 : Int))) (x2o (gEqP okS true) (x2o gIx (xV V_parse_machine.lines) (x1 (fun i : Int => -i) (xC (1 : Int)))) (xC ("" : Str)))) (yRaise "MachineSyntaxError") yNil) (ySeq (ySet V_parse_machine.put_sizes (xCall F_read_words (fun _ => ()) (fun s _ => s) (xCs (x2o gIx (xV V_parse_machine.lines) (xC (0 : Int))) (xCs (xC ("machine" : Str)) (xC ()))))) (ySeq (yIf (x2 (fun a b => if true = true then !decide (a = b) else decide (a = b)) (x1 (fun xs => (xs.length : Int)) (xV V_parse_machine.sizes)) (xC (3 : Int))) (yRaise "MachineSyntaxError") yNil) (ySeq (ySet V_parse_machine.put_inputs (xCall F_read_number (fun _ => ()) (fun s _ => s) (xCs (x2o gIx (xV V_parse_machine.sizes) (xC (0 : Int))) (xC ())))) (ySeq (ySet V_parse_machine.put_outputs (xCall F_read_number (fun _ => ()) (fun s _ => s) (xCs (x2o gIx (xV V_parse_machine.sizes) (xC (1 : Int))) (xC ())))) (ySeq (ySet V_parse_machine.put_lead (xCall F_read_lead (fun _ => ()) (fun s _ => s) (xCs (x2o gIx (xV V_parse_machine.sizes) (xC (2 : Int))) (xC ())))) (ySeq (ySet V_parse_machine.put_opening (xCompX (xCall F_read_words (fun _ => ()) (fun s _ => s) (xCs (x2o gIx (xV V_parse_machine.lines) (xC (1 : Int))) (xCs (xC ("opening" : Str)) (xC ())))) V_parse_machine.put_word_c0 xYes (xCall F_read_number (fun _ => ()) (fun s _ => s) (xCs (xV V_parse_machine.word_c0) (xC ()))))) (ySeq (ySet V_parse_machine.put_rows (x1 (fun (x : Unit) => ([] : List (List (Int × Int)))) xN)) (ySeq (yFor (xSl (xV V_parse_machine.lines) (x1 some (xC (2 : Int))) (x1 some (x1 (fun i : Int => -i) (xC (1 : Int))))) V_parse_machine.put_line (yExpr (xMeth V_parse_machine.rows V_parse_machine.put_rows gApp (xCs (xCompX (x1o (gSplit " ") (xV V_parse_machine.line)) V_parse_machine.put_word_c1 xYes (xCall F_read_pair (fun _ => ()) (fun s _ => s) (xCs (xV V_parse_machine.word_c1) (xC ())))) xN)))) (yTryN (yRet (xMake F_Machine_init (xCs (xV V_parse_machine.inputs) (xCs (xV V_parse_machine.outputs) (xCs (xV V_parse_machine.lead) (xCs (xV V_parse_machine.opening) (xCs (xV V_parse_machine.rows) xN))))))) [("InvalidMachine", true)] "MachineSyntaxError")))))))))))
theorem ty_parse_machine : TFun (.fr MV.str (.nil) : PSpec (Unit) (Str × Unit)) m_parse_machine F_parse_machine (fz v_Machine) := by
  unfold m_parse_machine F_parse_machine
  exact tf_mk (c := cx_parse_machine) (D0 := [0]) (D1 := [])
   (ts_seq (ts_set (D0 := [0]) 1 (tx_split (Ty.TP.tx (tp_v (i := 0) rfl rfl (fun _ => rfl)))) (kp_parse_machine_lines.sub rfl) (fun _ _ => rfl)) (ts_seq (ts_if (D' := [1, 0]) (D1 := [1, 0]) (txt_or (txt_v (tx_2 o_lt (Ty.TP.tx (tp_f1 f1_lenL (tp_v (i := 1) rfl rfl (fun _ => rfl)))) (Ty.TP.tx (tp_c (val := MV.int) rfl)))) (txt_v (tx_2o (o_eqP (neg := true) dtp_str) (tx_2o (o_ixF sq_l) (Ty.TP.tx (tp_v (i := 1) rfl rfl (fun _ => rfl))) (tx_1 o_neg (Ty.TP.tx (tp_c (val := MV.int) rfl)))) (Ty.TP.tx (tp_c (val := MV.str) rfl))))) ts_raise ts_nil) (ts_seq (ts_set (D0 := [1, 0]) 2 (tx_call ty_read_words (txp_f (tx_2o (o_ixF sq_l) (Ty.TP.tx (tp_v (i := 1) rfl rfl (fun _ => rfl))) (Ty.TP.tx (tp_c (val := MV.int) rfl))) (txp_f (Ty.TP.tx (tp_c (val := MV.str) rfl)) txp_n))) (kp_parse_machine_sizes.sub rfl) (fun _ _ => rfl)) (ts_seq (ts_if (D' := [2, 1, 0]) (D1 := [2, 1, 0]) (txt_v (tx_2 (o_eq (neg := true) dt_int) (Ty.TP.tx (tp_f1 f1_lenL (tp_v (i := 2) rfl rfl (fun _ => rfl)))) (Ty.TP.tx (tp_c (val := MV.int) rfl)))) ts_raise ts_nil) (ts_seq (ts_set (D0 := [2, 1, 0]) 3 (tx_call ty_read_number (txp_f (tx_2o (o_ixF sq_l) (Ty.TP.tx (tp_v (i := 2) rfl rfl (fun _ => rfl))) (Ty.TP.tx (tp_c (val := MV.int) rfl))) txp_n)) (kp_parse_machine_inputs.sub rfl) (fun _ _ => rfl)) (ts_seq (ts_set (D0 := [3, 2, 1, 0]) 4 (tx_call ty_read_number (txp_f (tx_2o (o_ixF sq_l) (Ty.TP.tx (tp_v (i := 2) rfl rfl (fun _ => rfl))) (Ty.TP.tx (tp_c (val := MV.int) rfl))) txp_n)) (kp_parse_machine_outputs.sub rfl) (fun _ _ => rfl)) (ts_seq (ts_set (D0 := [4, 3, 2, 1, 0]) 5 (tx_call ty_read_lead (txp_f (tx_2o (o_ixF sq_l) (Ty.TP.tx (tp_v (i := 2) rfl rfl (fun _ => rfl))) (Ty.TP.tx (tp_c (val := MV.int) rfl))) txp_n)) (kp_parse_machine_lead.sub rfl) (fun _ _ => rfl)) (ts_seq (ts_set (D0 := [5, 4, 3, 2, 1, 0]) 6 (tx_compX (ti_l (tx_call ty_read_words (txp_f (tx_2o (o_ixF sq_l) (Ty.TP.tx (tp_v (i := 1) rfl rfl (fun _ => rfl))) (Ty.TP.tx (tp_c (val := MV.int) rfl))) (txp_f (Ty.TP.tx (tp_c (val := MV.str) rfl)) txp_n)))) (tg_nm (D0 := [5, 4, 3, 2, 1, 0]) 7 (kp_parse_machine_word_c0.sub rfl) (fun _ _ => rfl)) txt_yes (tx_call ty_read_number (txp_f (Ty.TP.tx (tp_v (i := 7) rfl rfl (fun _ => rfl))) txp_n))) (kp_parse_machine_opening.sub rfl) (fun _ _ => rfl)) (ts_seq (ts_set (D0 := [6, 5, 4, 3, 2, 1, 0]) 8 (tx_lst (va := (lV (p2 MV.int MV.int))) (fun _ => rfl) 0 (fun _ => rfl) (Ty.TPA.tx tpa_n)) (kp_parse_machine_rows.sub rfl) (fun _ _ => rfl)) (ts_seq (ts_for (Dl := [8, 6, 5, 4, 3, 2, 1, 0]) (D2 := [9, 8, 6, 5, 4, 3, 2, 1, 0]) (ti_l (Ty.TP.tx (tp_sl os_l (tp_v (i := 1) rfl rfl (fun _ => rfl)) (tpi_s (tp_c (val := MV.int) rfl)) (tpi_s (tp_1 (Op1.rd o_neg) (tp_c (val := MV.int) rfl)))))) (tg_nm (D0 := [8, 6, 5, 4, 3, 2, 1, 0]) 9 (kp_parse_machine_line.sub rfl) (fun _ _ => rfl)) (ts_expr (tx_meth (D0 := [9, 6, 5, 4, 3, 2, 1, 0]) 8 mo_app (txa_c (tx_compX (ti_l (tx_split (Ty.TP.tx (tp_v (i := 9) rfl rfl (fun _ => rfl))))) (tg_nm (D0 := [9, 8, 6, 5, 4, 3, 2, 1, 0]) 10 (kp_parse_machine_word_c1.sub rfl) (fun _ _ => rfl)) txt_yes (tx_call ty_read_pair (txp_f (Ty.TP.tx (tp_v (i := 10) rfl rfl (fun _ => rfl))) txp_n))) (Ty.TPA.tx tpa_n)) (fun _ => rfl) (fun _ _ => rfl) (kp_parse_machine_rows.sub rfl)))) (ts_tryN (ts_frz (D0 := [6, 5, 4, 3, 2, 1, 0]) 8 11 (ts_ret (tx_make ty_Machine_init (txa_c (Ty.TP.tx (tp_v (i := 3) rfl rfl (fun _ => rfl))) (txa_c (Ty.TP.tx (tp_v (i := 4) rfl rfl (fun _ => rfl))) (txa_c (Ty.TP.tx (tp_v (i := 5) rfl rfl (fun _ => rfl))) (txa_c (Ty.TP.tx (tp_v (i := 6) rfl rfl (fun _ => rfl))) (txa_c (Ty.TP.tx (tp_v (i := 11) rfl rfl (fun _ => rfl))) (Ty.TPA.tx tpa_n)))))) (fun _ => rfl))) (fun _ => frz_1 fix_l) rfl rfl (kp_parse_machine_rows.sub rfl : Keep _ _ _ [6, 5, 4, 3, 2, 1, 0]).same))))))))))))
   (fun _ _ => ⟨⟨rfl, rfl⟩, trivial⟩) (fun _ => trivial) (fun r h => by cases h)
structure V_law_outcome where
  ltext : Str
@[reducible] def V_law_outcome.put_ltext (s : V_law_outcome) (v : Str) : V_law_outcome := { s with ltext := v }
def tb_law_outcome : Nat → Slot V_law_outcome
  | 0 => ⟨0, fun s => (fz MV.str) s.ltext⟩
  | _ => ⟨0, fun _ => fz nV ()⟩
abbrev cx_law_outcome : Cx V_law_outcome (Option C_Machine) := ⟨tb_law_outcome, 2, [], [], [], [], (fz (oV v_Machine))⟩
def F_law_outcome : (Unit) → (Str × Unit) → X (Unit) (Option C_Machine) := yRun (fun (i : Unit) (a : Str × Unit) => ({ ltext := a.1 } : V_law_outcome)) (fun s => (())) (none : Option (Option C_Machine)) (ySeq (yTry2 (yRet (x1 some (xCall F_parse_machine (fun _ => ()) (fun s _ => s) (xCs (xV V_law_outcome.ltext) (xC ()))))) [([("InvalidMachine", false), ("MachineSyntaxError", true)], (yRetC none))]) yBad)
theorem ty_law_outcome : TFun (.fr MV.str (.nil) : PSpec (Unit) (Str × Unit)) m_law_outcome F_law_outcome (fz (oV v_Machine)) := by
  unfold m_law_outcome F_law_outcome
  exact tf_mk (c := cx_law_outcome) (D0 := [0]) (D1 := [])
   (ts_seq (ts_try2 (De := [0]) (ts_sub (D1 := [0]) (D2 := [0]) (ts_ret (tx_some (tx_call ty_parse_machine (txp_f (Ty.TP.tx (tp_v (i := 0) rfl rfl (fun _ => rfl))) txp_n))))) (thd_isRet (fun C h => lk_flt h) (fun _ => ⟨rfl, rfl⟩) .nil)) ts_bad)
   (fun _ _ => ⟨⟨rfl, rfl⟩, trivial⟩) (fun _ => trivial) (fun r h => by cases h)
structure V_law_is_integer where
  lactual : Int
def tb_law_is_integer : Nat → Slot V_law_is_integer
  | 0 => ⟨0, fun s => (fz MV.int) s.lactual⟩
  | _ => ⟨0, fun _ => fz nV ()⟩
abbrev cx_law_is_integer : Cx V_law_is_integer Bool := ⟨tb_law_is_integer, 1, [], [], [], [], (fz MV.bl)⟩
def F_law_is_integer : (Unit) → (Int × Unit) → X (Unit) Bool := yRun (fun (i : Unit) (a : Int × Unit) => ({ lactual := a.1 } : V_law_is_integer)) (fun s => (())) (none : Option Bool) (yRet (xAnd (x1 (fun _ => true) (xV V_law_is_integer.lactual)) (xNot (x1 (fun _ => false) (xV V_law_is_integer.lactual)))))
theorem ty_law_is_integer : TFun (.fr MV.int (.nil) : PSpec (Unit) (Int × Unit)) m_law_is_integer F_law_is_integer (fz MV.bl) := by
  unfold m_law_is_integer F_law_is_integer
  exact tf_mk (c := cx_law_is_integer) (D0 := [0]) (D1 := [])
   (ts_ret (tx_and (tx_1 (o_isi (c := fun _ => true) (fun a h => f_isi rfl (by decide +kernel))) (Ty.TP.tx (tp_v (i := 0) rfl rfl (fun _ => rfl)))) (tx_not (tx_1 (o_isi (c := fun _ => false) (fun a h => f_isi rfl (by decide +kernel))) (Ty.TP.tx (tp_v (i := 0) rfl rfl (fun _ => rfl)))))))
   (fun _ _ => ⟨⟨rfl, rfl⟩, trivial⟩) (fun _ => trivial) (fun r h => by cases h)
structure V_law_integers where
  lactual : (List Int)
  litem : Int
  llow : Int
  lhigh : Int
@[reducible] def V_law_integers.put_litem (s : V_law_integers) (v : Int) : V_law_integers := { s with litem := v }
def tb_law_integers : Nat → Slot V_law_integers
  | 0 => ⟨0, fun s => (fz (tV MV.int)) s.lactual⟩
  | 1 => ⟨1, fun s => (fz MV.int) s.llow⟩
  | 2 => ⟨2, fun s => (fz MV.int) s.lhigh⟩
  | 3 => ⟨3, fun s => (fz MV.int) s.litem⟩
  | _ => ⟨0, fun _ => fz nV ()⟩
abbrev cx_law_integers : Cx V_law_integers Bool := ⟨tb_law_integers, 4, [], [], [], [], (fz MV.bl)⟩
theorem kp_law_integers_litem : Keep tb_law_integers V_law_integers.put_litem 3 [0, 1, 2] := ⟨kq, ⟨kq, ⟨kq, trivial⟩⟩⟩
def F_law_integers : (Unit) → ((List Int) × Int × Int × Unit) → X (Unit) Bool := yRun (fun (i : Unit) (a : (List Int) × Int × Int × Unit) => ({ lactual := a.1, litem := default, llow := a.2.1, lhigh := a.2.2.1 } : V_law_integers)) (fun s => (())) (none : Option Bool) (ySeq (yIf (xNot (x1 (fun _ => true) (xV V_law_integers.lactual))) (yRet (xC false)) yNil) (ySeq (yFor (xV V_law_integers.lactual) V_law_integers.put_litem (yIf (xOr (xNot (xCall F_law_is_integer (fun _ => ()) (fun s _ => s) (xCs (xV V_law_integers.litem) (xC ())))) (xOr (x2 (fun i j : Int => decide (i < j)) (xV V_law_integers.litem) (xV V_law_integers.llow)) (x2 (fun i j : Int => decide (j ≤ i)) (xV V_law_integers.litem) (xV V_law_integers.lhigh)))) (yRet (xC false)) yNil)) (yRet (xC true))))
theorem ty_law_integers : TFun (.fr (tV MV.int) (.fr MV.int (.fr MV.int (.nil))) : PSpec (Unit) ((List Int) × Int × Int × Unit)) m_law_integers F_law_integers (fz MV.bl) := by
  unfold m_law_integers F_law_integers
  exact tf_mk (c := cx_law_integers) (D0 := [0, 1, 2]) (D1 := [])
   (ts_seq (ts_if (D' := [0, 1, 2]) (D1 := [0, 1, 2]) (txt_not (txt_v (tx_1 (o_isi (c := fun _ => true) (fun a h => f_isi rfl (by decide +kernel))) (Ty.TP.tx (tp_v (i := 0) rfl rfl (fun _ => rfl)))))) (ts_ret (Ty.TP.tx (tp_c (val := MV.bl) rfl))) ts_nil) (ts_seq (ts_for (Dl := [0, 1, 2]) (D2 := [3, 0, 1, 2]) (ti_t (Ty.TP.tx (tp_v (i := 0) rfl rfl (fun _ => rfl)))) (tg_nm (D0 := [0, 1, 2]) 3 (kp_law_integers_litem.sub rfl) (fun _ _ => rfl)) (ts_if (D' := [3, 0, 1, 2]) (D1 := [3, 0, 1, 2]) (txt_or (txt_not (txt_v (tx_call ty_law_is_integer (txp_f (Ty.TP.tx (tp_v (i := 3) rfl rfl (fun _ => rfl))) txp_n)))) (txt_or (txt_v (tx_2 o_lt (Ty.TP.tx (tp_v (i := 3) rfl rfl (fun _ => rfl))) (Ty.TP.tx (tp_v (i := 1) rfl rfl (fun _ => rfl))))) (txt_v (tx_2 o_ge (Ty.TP.tx (tp_v (i := 3) rfl rfl (fun _ => rfl))) (Ty.TP.tx (tp_v (i := 2) rfl rfl (fun _ => rfl))))))) (ts_ret (Ty.TP.tx (tp_c (val := MV.bl) rfl))) ts_nil)) (ts_ret (Ty.TP.tx (tp_c (val := MV.bl) rfl)))))
   (fun _ _ => ⟨⟨rfl, rfl⟩, ⟨⟨rfl, rfl⟩, ⟨⟨rfl, rfl⟩, trivial⟩⟩⟩) (fun _ => trivial) (fun r h => by cases h)
structure V_law_integers_2 where
  lactual : (Int × Int)
  litem : Int
  llow : Int
  lhigh : Int
@[reducible] def V_law_integers_2.put_litem (s : V_law_integers_2) (v : Int) : V_law_integers_2 := { s with litem := v }
def tb_law_integers_2 : Nat → Slot V_law_integers_2
  | 0 => ⟨0, fun s => (fz (p2 MV.int MV.int)) s.lactual⟩
  | 1 => ⟨1, fun s => (fz MV.int) s.llow⟩
  | 2 => ⟨2, fun s => (fz MV.int) s.lhigh⟩
  | 3 => ⟨3, fun s => (fz MV.int) s.litem⟩
  | _ => ⟨0, fun _ => fz nV ()⟩
abbrev cx_law_integers_2 : Cx V_law_integers_2 Bool := ⟨tb_law_integers_2, 4, [], [], [], [], (fz MV.bl)⟩
theorem kp_law_integers_2_litem : Keep tb_law_integers_2 V_law_integers_2.put_litem 3 [0, 1, 2] := ⟨kq, ⟨kq, ⟨kq, trivial⟩⟩⟩
def F_law_integers_2 : (Unit) → ((Int × Int) × Int × Int × Unit) → X (Unit) Bool := yRun (fun (i : Unit) (a : (Int × Int) × Int × Int × Unit) => ({ lactual := a.1, litem := default, llow := a.2.1, lhigh := a.2.2.1 } : V_law_integers_2)) (fun s => (())) (none : Option Bool) (ySeq (yIf (xNot (x1 (fun _ => true) (xV V_law_integers_2.lactual))) (yRet (xC false)) yNil) (ySeq (yFor (x1 (fun x => [x.1, x.2]) (xV V_law_integers_2.lactual)) V_law_integers_2.put_litem (yIf (xOr (xNot (xCall F_law_is_integer (fun _ => ()) (fun s _ => s) (xCs (xV V_law_integers_2.litem) (xC ())))) (xOr (x2 (fun i j : Int => decide (i < j)) (xV V_law_integers_2.litem) (xV V_law_integers_2.llow)) (x2 (fun i j : Int => decide (j ≤ i)) (xV V_law_integers_2.litem) (xV V_law_integers_2.lhigh)))) (yRet (xC false)) yNil)) (yRet (xC true))))
theorem ty_law_integers_2 : TFun (.fr (p2 MV.int MV.int) (.fr MV.int (.fr MV.int (.nil))) : PSpec (Unit) ((Int × Int) × Int × Int × Unit)) m_law_integers F_law_integers_2 (fz MV.bl) := by
  unfold m_law_integers F_law_integers_2
  exact tf_mk (c := cx_law_integers_2) (D0 := [0, 1, 2]) (D1 := [])
   (ts_seq (ts_if (D' := [0, 1, 2]) (D1 := [0, 1, 2]) (txt_not (txt_v (tx_1 (o_isi (c := fun _ => true) (fun a h => f_isi rfl (by decide +kernel))) (Ty.TP.tx (tp_v (i := 0) rfl rfl (fun _ => rfl)))))) (ts_ret (Ty.TP.tx (tp_c (val := MV.bl) rfl))) ts_nil) (ts_seq (ts_for (Dl := [0, 1, 2]) (D2 := [3, 0, 1, 2]) (ti_t (tx_as (va := (p2 MV.int MV.int)) (vb := (tV MV.int)) (fun _ => rfl) (Ty.TP.tx (tp_v (i := 0) rfl rfl (fun _ => rfl))))) (tg_nm (D0 := [0, 1, 2]) 3 (kp_law_integers_2_litem.sub rfl) (fun _ _ => rfl)) (ts_if (D' := [3, 0, 1, 2]) (D1 := [3, 0, 1, 2]) (txt_or (txt_not (txt_v (tx_call ty_law_is_integer (txp_f (Ty.TP.tx (tp_v (i := 3) rfl rfl (fun _ => rfl))) txp_n)))) (txt_or (txt_v (tx_2 o_lt (Ty.TP.tx (tp_v (i := 3) rfl rfl (fun _ => rfl))) (Ty.TP.tx (tp_v (i := 1) rfl rfl (fun _ => rfl))))) (txt_v (tx_2 o_ge (Ty.TP.tx (tp_v (i := 3) rfl rfl (fun _ => rfl))) (Ty.TP.tx (tp_v (i := 2) rfl rfl (fun _ => rfl))))))) (ts_ret (Ty.TP.tx (tp_c (val := MV.bl) rfl))) ts_nil)) (ts_ret (Ty.TP.tx (tp_c (val := MV.bl) rfl)))))
   (fun _ _ => ⟨⟨rfl, rfl⟩, ⟨⟨rfl, rfl⟩, ⟨⟨rfl, rfl⟩, trivial⟩⟩⟩) (fun _ => trivial) (fun r h => by cases h)
structure V_law_is_machine where
  lactual : (Option C_Machine)
  lnumber_here : Int
  linputs : Int
  loutputs : Int
  llead_here : Int
  lrow : (List (Int × Int))
  lpair : (Int × Int)
@[reducible] def V_law_is_machine.put_lnumber_here (s : V_law_is_machine) (v : Int) : V_law_is_machine := { s with lnumber_here := v }
@[reducible] def V_law_is_machine.put_linputs (s : V_law_is_machine) (v : Int) : V_law_is_machine := { s with linputs := v }
@[reducible] def V_law_is_machine.put_loutputs (s : V_law_is_machine) (v : Int) : V_law_is_machine := { s with loutputs := v }
@[reducible] def V_law_is_machine.put_llead_here (s : V_law_is_machine) (v : Int) : V_law_is_machine := { s with llead_here := v }
@[reducible] def V_law_is_machine.put_lrow (s : V_law_is_machine) (v : (List (Int × Int))) : V_law_is_machine := { s with lrow := v }
@[reducible] def V_law_is_machine.put_lpair (s : V_law_is_machine) (v : (Int × Int)) : V_law_is_machine := { s with lpair := v }
def tb_law_is_machine : Nat → Slot V_law_is_machine
  | 0 => ⟨0, fun s => (fz (oV v_Machine)) s.lactual⟩
  | 1 => ⟨1, fun s => (fz MV.int) s.linputs⟩
  | 2 => ⟨2, fun s => (fz MV.int) s.loutputs⟩
  | 3 => ⟨3, fun s => (fz MV.int) s.llead_here⟩
  | 4 => ⟨4, fun s => (fz MV.int) s.lnumber_here⟩
  | 5 => ⟨5, fun s => (fz (tV (p2 MV.int MV.int))) s.lrow⟩
  | 6 => ⟨6, fun s => (fz (p2 MV.int MV.int)) s.lpair⟩
  | _ => ⟨0, fun _ => fz nV ()⟩
abbrev cx_law_is_machine : Cx V_law_is_machine Bool := ⟨tb_law_is_machine, 7, [], [], [], [], (fz MV.bl)⟩
theorem kp_law_is_machine_lnumber_here : Keep tb_law_is_machine V_law_is_machine.put_lnumber_here 4 [0, 1, 2, 3, 5, 6] := ⟨kq, ⟨kq, ⟨kq, ⟨kq, ⟨kq, ⟨kq, trivial⟩⟩⟩⟩⟩⟩
theorem kp_law_is_machine_lrow : Keep tb_law_is_machine V_law_is_machine.put_lrow 5 [0, 1, 2, 3, 4, 6] := ⟨kq, ⟨kq, ⟨kq, ⟨kq, ⟨kq, ⟨kq, trivial⟩⟩⟩⟩⟩⟩
theorem kp_law_is_machine_lpair : Keep tb_law_is_machine V_law_is_machine.put_lpair 6 [0, 1, 2, 3, 4, 5] := ⟨kq, ⟨kq, ⟨kq, ⟨kq, ⟨kq, ⟨kq, trivial⟩⟩⟩⟩⟩⟩
def F_law_is_machine : (Unit) → ((Option C_Machine) × Int × Int × Int × Unit) → X (Unit) Bool := yRun (fun (i : Unit) (a : (Option C_Machine) × Int × Int × Int × Unit) => ({ lactual := a.1, lnumber_here := default, linputs := a.2.1, loutputs := a.2.2.1, llead_here := a.2.2.2.1, lrow := default, lpair := default } : V_law_is_machine)) (fun s => (())) (none : Option Bool) (ySeq (yFor (x1 (fun x => [x.1, x.2.1, x.2.2]) (x1 (fun (x : Int × Int × Int × Unit) => (x.1, x.2.1, x.2.2.1)) (xCs (x1 C_Machine.inputs (xUn (xV V_law_is_machine.lactual))) (xCs (x1 C_Machine.outputs (xUn (xV V_law_is_machine.lactual))) (xCs (x1 C_Machine.lead (xUn (xV V_law_is_machine.lactual))) xN))))) V_law_is_machine.put_lnumber_here (yIf (xNot (xCall F_law_is_integer (fun _ => ()) (fun s _ => s) (xCs (xV V_law_is_machine.lnumber_here) (xC ())))) (yRet (xC false)) yNil)) (ySeq (yIf (xOr (x2 (fun a b => if true = true then !decide (a = b) else decide (a = b)) (x1 C_Machine.inputs (xUn (xV V_law_is_machine.lactual))) (xV V_law_is_machine.linputs)) (xOr (x2 (fun a b => if true = true then !decide (a = b) else decide (a = b)) (x1 C_Machine.outputs (xUn (xV V_law_is_machine.lactual))) (xV V_law_is_machine.loutputs)) (x2 (fun a b => if true = true then !decide (a = b) else decide (a = b)) (x1 C_Machine.lead (xUn (xV V_law_is_machine.lactual))) (xV V_law_is_machine.llead_here)))) (yRet (xC false)) yNil) (ySeq (yIf (xOr (xNot (xCall F_law_integers (fun _ => ()) (fun s _ => s) (xCs (x1 C_Machine.opening (xUn (xV V_law_is_machine.lactual))) (xCs (xC (0 : Int)) (xCs (xV V_law_is_machine.loutputs) (xC ())))))) (x2 (fun a b => if true = true then !decide (a = b) else decide (a = b)) (x1 (fun xs => (xs.length : Int)) (x1 C_Machine.opening (xUn (xV V_law_is_machine.lactual)))) (x1 (fun x : Int × Int × Unit => max x.1 x.2.1) (xCs (xC (0 : Int)) (xCs (x1 (fun i : Int => -i) (xV V_law_is_machine.llead_here)) xN))))) (yRet (xC false)) yNil) (ySeq (yIf (xOr (xNot (x1 (fun _ => true) (x1 C_Machine.rows (xUn (xV V_law_is_machine.lactual))))) (x2 (fun a b => if false = true then !decide (a = b) else decide (a = b)) (x1 (fun xs => (xs.length : Int)) (x1 C_Machine.rows (xUn (xV V_law_is_machine.lactual)))) (xC (0 : Int)))) (yRet (xC false)) yNil) (ySeq (yFor (x1 C_Machine.rows (xUn (xV V_law_is_machine.lactual))) V_law_is_machine.put_lrow (ySeq (yIf (xOr (xNot (x1 (fun _ => true) (xV V_law_is_machine.lrow))) (x2 (fun a b => if true = true then !decide (a = b) else decide (a = b)) (x1 (fun xs => (xs.length : Int)) (xV V_law_is_machine.lrow)) (xV V_law_is_machine.linputs))) (yRet (xC false)) yNil) (yFor (xV V_law_is_machine.lrow) V_law_is_machine.put_lpair (ySeq (yIf (xOr (xNot (xCall F_law_integers_2 (fun _ => ()) (fun s _ => s) (xCs (xV V_law_is_machine.lpair) (xCs (xC (0 : Int)) (xCs (x1 (fun x : Int × Int × Unit => max x.1 x.2.1) (xCs (xV V_law_is_machine.loutputs) (xCs (x1 (fun xs => (xs.length : Int)) (x1 C_Machine.rows (xUn (xV V_law_is_machine.lactual)))) xN))) (xC ())))))) (x2 (fun a b => if true = true then !decide (a = b) else decide (a = b)) (x1 (fun xs => (xs.length : Int)) (x1 (fun x => [x.1, x.2]) (xV V_law_is_machine.lpair))) (xC (2 : Int)))) (yRet (xC false)) yNil) (yIf (xOr (x2 (fun i j : Int => decide (j ≤ i)) (x1 (fun x : (Int × Int) => x.1) (xV V_law_is_machine.lpair)) (x1 (fun xs => (xs.length : Int)) (x1 C_Machine.rows (xUn (xV V_law_is_machine.lactual))))) (x2 (fun i j : Int => decide (j ≤ i)) (x1 (fun x : (Int × Int) => x.2) (xV V_law_is_machine.lpair)) (xV V_law_is_machine.loutputs))) (yRet (xC false)) yNil))))) (yRet (xC true)))))))
theorem ty_law_is_machine : TFun (.fr (oV v_Machine) (.fr MV.int (.fr MV.int (.fr MV.int (.nil)))) : PSpec (Unit) ((Option C_Machine) × Int × Int × Int × Unit)) m_law_is_machine F_law_is_machine (fz MV.bl) := by
  unfold m_law_is_machine F_law_is_machine
  exact tf_mk (c := cx_law_is_machine) (D0 := [0, 1, 2, 3]) (D1 := [])
   (ts_seq (ts_for (Dl := [0, 1, 2, 3]) (D2 := [4, 0, 1, 2, 3]) (ti_t (tx_as (va := (p3 MV.int MV.int MV.int)) (vb := (tV MV.int)) (fun _ => rfl) (tx_a (oa_tup (vc := (p3 MV.int MV.int MV.int)) (t := (fun (x : Int × Int × Int × Unit) => (x.1, x.2.1, x.2.2.1))) (fun _ => rfl) 3 (fun _ => rfl)) (txa_c (tx_1 (o_fld (vb := MV.int) (pr := C_Machine.inputs) (fun _ _ => f_fldT rfl (by decide +kernel) rfl)) (tx_un (Ty.TP.tx (tp_v (i := 0) rfl rfl (fun _ => rfl))))) (txa_c (tx_1 (o_fld (vb := MV.int) (pr := C_Machine.outputs) (fun _ _ => f_fldT rfl (by decide +kernel) rfl)) (tx_un (Ty.TP.tx (tp_v (i := 0) rfl rfl (fun _ => rfl))))) (txa_c (tx_1 (o_fld (vb := MV.int) (pr := C_Machine.lead) (fun _ _ => f_fldT rfl (by decide +kernel) rfl)) (tx_un (Ty.TP.tx (tp_v (i := 0) rfl rfl (fun _ => rfl))))) (Ty.TPA.tx tpa_n))))))) (tg_nm (D0 := [0, 1, 2, 3]) 4 (kp_law_is_machine_lnumber_here.sub rfl) (fun _ _ => rfl)) (ts_if (D' := [4, 0, 1, 2, 3]) (D1 := [4, 0, 1, 2, 3]) (txt_not (txt_v (tx_call ty_law_is_integer (txp_f (Ty.TP.tx (tp_v (i := 4) rfl rfl (fun _ => rfl))) txp_n)))) (ts_ret (Ty.TP.tx (tp_c (val := MV.bl) rfl))) ts_nil)) (ts_seq (ts_if (D' := [0, 1, 2, 3]) (D1 := [0, 1, 2, 3]) (txt_or (txt_v (tx_2 (o_eq (neg := true) dt_int) (tx_1 (o_fld (vb := MV.int) (pr := C_Machine.inputs) (fun _ _ => f_fldT rfl (by decide +kernel) rfl)) (tx_un (Ty.TP.tx (tp_v (i := 0) rfl rfl (fun _ => rfl))))) (Ty.TP.tx (tp_v (i := 1) rfl rfl (fun _ => rfl))))) (txt_or (txt_v (tx_2 (o_eq (neg := true) dt_int) (tx_1 (o_fld (vb := MV.int) (pr := C_Machine.outputs) (fun _ _ => f_fldT rfl (by decide +kernel) rfl)) (tx_un (Ty.TP.tx (tp_v (i := 0) rfl rfl (fun _ => rfl))))) (Ty.TP.tx (tp_v (i := 2) rfl rfl (fun _ => rfl))))) (txt_v (tx_2 (o_eq (neg := true) dt_int) (tx_1 (o_fld (vb := MV.int) (pr := C_Machine.lead) (fun _ _ => f_fldT rfl (by decide +kernel) rfl)) (tx_un (Ty.TP.tx (tp_v (i := 0) rfl rfl (fun _ => rfl))))) (Ty.TP.tx (tp_v (i := 3) rfl rfl (fun _ => rfl))))))) (ts_ret (Ty.TP.tx (tp_c (val := MV.bl) rfl))) ts_nil) (ts_seq (ts_if (D' := [0, 1, 2, 3]) (D1 := [0, 1, 2, 3]) (txt_or (txt_not (txt_v (tx_call ty_law_integers (txp_f (tx_1 (o_fld (vb := (tV MV.int)) (pr := C_Machine.opening) (fun _ _ => f_fldT rfl (by decide +kernel) rfl)) (tx_un (Ty.TP.tx (tp_v (i := 0) rfl rfl (fun _ => rfl))))) (txp_f (Ty.TP.tx (tp_c (val := MV.int) rfl)) (txp_f (Ty.TP.tx (tp_v (i := 2) rfl rfl (fun _ => rfl))) txp_n)))))) (txt_v (tx_2 (o_eq (neg := true) dt_int) (Ty.TP.tx (tp_f1 f1_lenT (tp_1 (Op1.rd (o_fld (vb := (tV MV.int)) (pr := C_Machine.opening) (fun _ _ => f_fldT rfl (by decide +kernel) rfl))) (tp_un (tp_v (i := 0) rfl rfl (fun _ => rfl)))))) (tx_a (OpF.a ff_max) (txa_c (Ty.TP.tx (tp_c (val := MV.int) rfl)) (txa_c (tx_1 o_neg (Ty.TP.tx (tp_v (i := 3) rfl rfl (fun _ => rfl)))) (Ty.TPA.tx tpa_n))))))) (ts_ret (Ty.TP.tx (tp_c (val := MV.bl) rfl))) ts_nil) (ts_seq (ts_if (D' := [0, 1, 2, 3]) (D1 := [0, 1, 2, 3]) (txt_or (txt_not (txt_v (tx_1 (o_isi (c := fun _ => true) (fun a h => f_isi rfl (by decide +kernel))) (tx_1 (o_fld (vb := (tV (tV (p2 MV.int MV.int)))) (pr := C_Machine.rows) (fun _ _ => f_fldT rfl (by decide +kernel) rfl)) (tx_un (Ty.TP.tx (tp_v (i := 0) rfl rfl (fun _ => rfl)))))))) (txt_v (tx_2 (o_eq (neg := false) dt_int) (Ty.TP.tx (tp_f1 f1_lenT (tp_1 (Op1.rd (o_fld (vb := (tV (tV (p2 MV.int MV.int)))) (pr := C_Machine.rows) (fun _ _ => f_fldT rfl (by decide +kernel) rfl))) (tp_un (tp_v (i := 0) rfl rfl (fun _ => rfl)))))) (Ty.TP.tx (tp_c (val := MV.int) rfl))))) (ts_ret (Ty.TP.tx (tp_c (val := MV.bl) rfl))) ts_nil) (ts_seq (ts_for (Dl := [0, 1, 2, 3]) (D2 := [5, 0, 1, 2, 3]) (ti_t (tx_1 (o_fld (vb := (tV (tV (p2 MV.int MV.int)))) (pr := C_Machine.rows) (fun _ _ => f_fldT rfl (by decide +kernel) rfl)) (tx_un (Ty.TP.tx (tp_v (i := 0) rfl rfl (fun _ => rfl)))))) (tg_nm (D0 := [0, 1, 2, 3]) 5 (kp_law_is_machine_lrow.sub rfl) (fun _ _ => rfl)) (ts_seq (ts_if (D' := [5, 0, 1, 2, 3]) (D1 := [5, 0, 1, 2, 3]) (txt_or (txt_not (txt_v (tx_1 (o_isi (c := fun _ => true) (fun a h => f_isi rfl (by decide +kernel))) (Ty.TP.tx (tp_v (i := 5) rfl rfl (fun _ => rfl)))))) (txt_v (tx_2 (o_eq (neg := true) dt_int) (Ty.TP.tx (tp_f1 f1_lenT (tp_v (i := 5) rfl rfl (fun _ => rfl)))) (Ty.TP.tx (tp_v (i := 1) rfl rfl (fun _ => rfl)))))) (ts_ret (Ty.TP.tx (tp_c (val := MV.bl) rfl))) ts_nil) (ts_for (Dl := [5, 0, 1, 2, 3]) (D2 := [6, 5, 0, 1, 2, 3]) (ti_t (Ty.TP.tx (tp_v (i := 5) rfl rfl (fun _ => rfl)))) (tg_nm (D0 := [5, 0, 1, 2, 3]) 6 (kp_law_is_machine_lpair.sub rfl) (fun _ _ => rfl)) (ts_seq (ts_if (D' := [6, 5, 0, 1, 2, 3]) (D1 := [6, 5, 0, 1, 2, 3]) (txt_or (txt_not (txt_v (tx_call ty_law_integers_2 (txp_f (Ty.TP.tx (tp_v (i := 6) rfl rfl (fun _ => rfl))) (txp_f (Ty.TP.tx (tp_c (val := MV.int) rfl)) (txp_f (tx_a (OpF.a ff_max) (txa_c (Ty.TP.tx (tp_v (i := 2) rfl rfl (fun _ => rfl))) (txa_c (Ty.TP.tx (tp_f1 f1_lenT (tp_1 (Op1.rd (o_fld (vb := (tV (tV (p2 MV.int MV.int)))) (pr := C_Machine.rows) (fun _ _ => f_fldT rfl (by decide +kernel) rfl))) (tp_un (tp_v (i := 0) rfl rfl (fun _ => rfl)))))) (Ty.TPA.tx tpa_n)))) txp_n)))))) (txt_v (tx_2 (o_eq (neg := true) dt_int) (Ty.TP.tx (tp_f1 f1_lenT (tp_as (va := (p2 MV.int MV.int)) (vb := (tV MV.int)) (fun _ => rfl) (tp_v (i := 6) rfl rfl (fun _ => rfl))))) (Ty.TP.tx (tp_c (val := MV.int) rfl))))) (ts_ret (Ty.TP.tx (tp_c (val := MV.bl) rfl))) ts_nil) (ts_if (D' := [6, 5, 0, 1, 2, 3]) (D1 := [6, 5, 0, 1, 2, 3]) (txt_or (txt_v (tx_2 o_ge (tx_pr (vc := MV.int) (pr := (fun x : (Int × Int) => x.1)) (fun _ _ => rfl) (Ty.TP.tx (tp_v (i := 6) rfl rfl (fun _ => rfl)))) (Ty.TP.tx (tp_f1 f1_lenT (tp_1 (Op1.rd (o_fld (vb := (tV (tV (p2 MV.int MV.int)))) (pr := C_Machine.rows) (fun _ _ => f_fldT rfl (by decide +kernel) rfl))) (tp_un (tp_v (i := 0) rfl rfl (fun _ => rfl)))))))) (txt_v (tx_2 o_ge (tx_pr (vc := MV.int) (pr := (fun x : (Int × Int) => x.2)) (fun _ _ => rfl) (Ty.TP.tx (tp_v (i := 6) rfl rfl (fun _ => rfl)))) (Ty.TP.tx (tp_v (i := 2) rfl rfl (fun _ => rfl)))))) (ts_ret (Ty.TP.tx (tp_c (val := MV.bl) rfl))) ts_nil))))) (ts_ret (Ty.TP.tx (tp_c (val := MV.bl) rfl))))))))
   (fun _ _ => ⟨⟨rfl, rfl⟩, ⟨⟨rfl, rfl⟩, ⟨⟨rfl, rfl⟩, ⟨⟨rfl, rfl⟩, trivial⟩⟩⟩⟩) (fun _ => trivial) (fun r h => by cases h)
structure V_law where
  ldraws_here : (List Int)
  lscript : (List Int)
  linputs : Int
  loutputs : Int
  llead_here : Int
  lopening : (List Int)
  lrows : (List (List (Int × Int)))
  ltext : Str
  lk : Int
  lexpected : (Option (Int × Int × Int × (List Int) × (List (List (Int × Int)))))
  lfound : (Option C_Machine)
  lrow_c0 : (List (Int × Int))
@[reducible] def V_law.put_ldraws_here (s : V_law) (v : (List Int)) : V_law := { s with ldraws_here := v }
@[reducible] def V_law.put_linputs (s : V_law) (v : Int) : V_law := { s with linputs := v }
@[reducible] def V_law.put_loutputs (s : V_law) (v : Int) : V_law := { s with loutputs := v }
@[reducible] def V_law.put_llead_here (s : V_law) (v : Int) : V_law := { s with llead_here := v }
@[reducible] def V_law.put_lopening (s : V_law) (v : (List Int)) : V_law := { s with lopening := v }
@[reducible] def V_law.put_lrows (s : V_law) (v : (List (List (Int × Int)))) : V_law := { s with lrows := v }
@[reducible] def V_law.put_ltext (s : V_law) (v : Str) : V_law := { s with ltext := v }
@[reducible] def V_law.put_lk (s : V_law) (v : Int) : V_law := { s with lk := v }
@[reducible] def V_law.put_lexpected (s : V_law) (v : (Option (Int × Int × Int × (List Int) × (List (List (Int × Int)))))) : V_law := { s with lexpected := v }
@[reducible] def V_law.put_lfound (s : V_law) (v : (Option C_Machine)) : V_law := { s with lfound := v }
@[reducible] def V_law.put_lrow_c0 (s : V_law) (v : (List (Int × Int))) : V_law := { s with lrow_c0 := v }
def tb_law : Nat → Slot V_law
  | 0 => ⟨0, fun s => (fz (sV MV.int)) s.lscript⟩
  | 1 => ⟨1, fun s => (own1 MV.int) s.ldraws_here⟩
  | 2 => ⟨2, fun s => (fz MV.int) s.linputs⟩
  | 3 => ⟨3, fun s => (fz MV.int) s.loutputs⟩
  | 4 => ⟨4, fun s => (fz MV.int) s.llead_here⟩
  | 5 => ⟨5, fun s => (fz (lV MV.int)) s.lopening⟩
  | 6 => ⟨6, fun s => (fz (lV (lV (p2 MV.int MV.int)))) s.lrows⟩
  | 7 => ⟨7, fun s => (fz MV.str) s.ltext⟩
  | 8 => ⟨8, fun s => (fz MV.int) s.lk⟩
  | 9 => ⟨9, fun s => (fz (oV (p5 MV.int MV.int MV.int (lV MV.int) (lV (lV (p2 MV.int MV.int)))))) s.lexpected⟩
  | 10 => ⟨10, fun s => (fz (oV v_Machine)) s.lfound⟩
  | 11 => ⟨11, fun s => (fz (tV (p2 MV.int MV.int))) s.lrow_c0⟩
  | _ => ⟨0, fun _ => fz nV ()⟩
abbrev cx_law : Cx V_law Bool := ⟨tb_law, 12, [], [], [], [], (fz MV.bl)⟩
theorem kp_law_ldraws_here : Keep tb_law V_law.put_ldraws_here 1 [0, 2, 3, 4, 5, 6, 7, 8, 9, 10, 11] := ⟨kq, ⟨kq, ⟨kq, ⟨kq, ⟨kq, ⟨kq, ⟨kq, ⟨kq, ⟨kq, ⟨kq, ⟨kq, trivial⟩⟩⟩⟩⟩⟩⟩⟩⟩⟩⟩
theorem kp_law_linputs : Keep tb_law V_law.put_linputs 2 [0, 1, 3, 4, 5, 6, 7, 8, 9, 10, 11] := ⟨kq, ⟨kq, ⟨kq, ⟨kq, ⟨kq, ⟨kq, ⟨kq, ⟨kq, ⟨kq, ⟨kq, ⟨kq, trivial⟩⟩⟩⟩⟩⟩⟩⟩⟩⟩⟩
theorem kp_law_loutputs : Keep tb_law V_law.put_loutputs 3 [0, 1, 2, 4, 5, 6, 7, 8, 9, 10, 11] := ⟨kq, ⟨kq, ⟨kq, ⟨kq, ⟨kq, ⟨kq, ⟨kq, ⟨kq, ⟨kq, ⟨kq, ⟨kq, trivial⟩⟩⟩⟩⟩⟩⟩⟩⟩⟩⟩
theorem kp_law_llead_here : Keep tb_law V_law.put_llead_here 4 [0, 1, 2, 3, 5, 6, 7, 8, 9, 10, 11] := ⟨kq, ⟨kq, ⟨kq, ⟨kq, ⟨kq, ⟨kq, ⟨kq, ⟨kq, ⟨kq, ⟨kq, ⟨kq, trivial⟩⟩⟩⟩⟩⟩⟩⟩⟩⟩⟩
theorem kp_law_lopening : Keep tb_law V_law.put_lopening 5 [0, 1, 2, 3, 4, 6, 7, 8, 9, 10, 11] := ⟨kq, ⟨kq, ⟨kq, ⟨kq, ⟨kq, ⟨kq, ⟨kq, ⟨kq, ⟨kq, ⟨kq, ⟨kq, trivial⟩⟩⟩⟩⟩⟩⟩⟩⟩⟩⟩
theorem kp_law_lrows : Keep tb_law V_law.put_lrows 6 [0, 1, 2, 3, 4, 5, 7, 8, 9, 10, 11] := ⟨kq, ⟨kq, ⟨kq, ⟨kq, ⟨kq, ⟨kq, ⟨kq, ⟨kq, ⟨kq, ⟨kq, ⟨kq, trivial⟩⟩⟩⟩⟩⟩⟩⟩⟩⟩⟩
theorem kp_law_ltext : Keep tb_law V_law.put_ltext 7 [0, 1, 2, 3, 4, 5, 6, 8, 9, 10, 11] := ⟨kq, ⟨kq, ⟨kq, ⟨kq, ⟨kq, ⟨kq, ⟨kq, ⟨kq, ⟨kq, ⟨kq, ⟨kq, trivial⟩⟩⟩⟩⟩⟩⟩⟩⟩⟩⟩
theorem kp_law_lk : Keep tb_law V_law.put_lk 8 [0, 1, 2, 3, 4, 5, 6, 7, 9, 10, 11] := ⟨kq, ⟨kq, ⟨kq, ⟨kq, ⟨kq, ⟨kq, ⟨kq, ⟨kq, ⟨kq, ⟨kq, ⟨kq, trivial⟩⟩⟩⟩⟩⟩⟩⟩⟩⟩⟩
theorem kp_law_lexpected : Keep tb_law V_law.put_lexpected 9 [0, 1, 2, 3, 4, 5, 6, 7, 8, 10, 11] := ⟨kq, ⟨kq, ⟨kq, ⟨kq, ⟨kq, ⟨kq, ⟨kq, ⟨kq, ⟨kq, ⟨kq, ⟨kq, trivial⟩⟩⟩⟩⟩⟩⟩⟩⟩⟩⟩
theorem kp_law_lfound : Keep tb_law V_law.put_lfound 10 [0, 1, 2, 3, 4, 5, 6, 7, 8, 9, 11] := ⟨kq, ⟨kq, ⟨kq, ⟨kq, ⟨kq, ⟨kq, ⟨kq, ⟨kq, ⟨kq, ⟨kq, ⟨kq, trivial⟩⟩⟩⟩⟩⟩⟩⟩⟩⟩⟩
theorem kp_law_lrow_c0 : Keep tb_law V_law.put_lrow_c0 11 [0, 1, 2, 3, 4, 5, 6, 7, 8, 9, 10] := ⟨kq, ⟨kq, ⟨kq, ⟨kq, ⟨kq, ⟨kq, ⟨kq, ⟨kq, ⟨kq, ⟨kq, ⟨kq, trivial⟩⟩⟩⟩⟩⟩⟩⟩⟩⟩⟩
def F_law : (Unit) → ((List Int) × Unit) → X (Unit) Bool := yRun (fun (i : Unit) (a : (List Int) × Unit) => ({ ldraws_here := default, lscript := a.1, linputs := default, loutputs := default, llead_here := default, lopening := default, lrows := default, ltext := default, lk := default, lexpected := default, lfound := default, lrow_c0 := default } : V_law)) (fun s => (())) (none : Option Bool) (ySeq (ySet V_law.put_ldraws_here (xCall F_law_draws (fun _ => ()) (fun s _ => s) (xCs (xV V_law.lscript) (xCs (xC (100 : Int)) (xC ()))))) (ySeq (ySet V_law.put_linputs (x2 (fun i j : Int => i + j) (xC (1 : Int)) (xCall F_law_take (fun s => (V_law.ldraws_here s, ())) (fun s a => V_law.put_ldraws_here s a.1) (xCs (xC (2 : Int)) (xC ()))))) (ySeq (ySet V_law.put_loutputs (x2 (fun i j : Int => i + j) (xC (1 : Int)) (xCall F_law_take (fun s => (V_law.ldraws_here s, ())) (fun s a => V_law.put_ldraws_here s a.1) (xCs (xC (3 : Int)) (xC ()))))) (ySeq (ySet V_law.put_llead_here (x2 (fun i j : Int => i - j) (xCall F_law_take (fun s => (V_law.ldraws_here s, ())) (fun s a => V_law.put_ldraws_here s a.1) (xCs (xC (6 : Int)) (xC ()))) (xC (3 : Int)))) (ySeq (ySet (fun (s : V_law) (x : ((List Int) × (List (List (Int × Int))))) => (V_law.put_lrows (V_law.put_lopening s x.1) x.2)) (xCall F_law_machine (fun s => (V_law.ldraws_here s, ())) (fun s a => V_law.put_ldraws_here s a.1) (xCs (xV V_law.linputs) (xCs (xV V_law.loutputs) (xCs (xV V_law.llead_here) (xCs (xC (3 : Int)) (xC ()))))))) (ySeq (ySet V_law.put_ltext (xCall F_law_machine_text (fun _ => ()) (fun s _ => s) (xCs (xV V_law.linputs) (xCs (xV V_law.loutputs) (xCs (xV V_law.llead_here) (xCs (xV V_law.lopening) (xCs (xV V_law.lrows) (xC ())))))))) (ySeq (yFor (x1o gRng1 (xCs (x2 (fun i j : Int => i + j) (xC (1 : Int)) (xCall F_law_take (fun s => (V_law.ldraws_here s, ())) (fun s a => V_law.put_ldraws_here s a.1) (xCs (xC (2 : Int)) (xC ())))) xN)) V_law.put_lk (ySet V_law.put_ltext (xCall F_law_change (fun s => (V_law.ldraws_here s, ())) (fun s a => V_law.put_ldraws_here s a.1) (xCs (xV V_law.ltext) (xC ()))))) (ySeq (ySet V_law.put_lexpected (xCall F_law_read (fun _ => ()) (fun s _ => s) (xCs (xV V_law.ltext) (xC ())))) (ySeq (ySet V_law.put_lfound (xCall F_law_outcome (fun _ => ()) (fun s _ => s) (xCs (xV V_law.ltext) (xC ())))) (ySeq (yIf (x1 (fun o : (Option (Int × Int × Int × (List Int) × (List (List (Int × Int))))) => if false = true then o.isSome else o.isNone) (xV V_law.lexpected)) (yRet (x1 (fun o : (Option C_Machine) => if false = true then o.isSome else o.isNone) (xV V_law.lfound))) yNil) (ySeq (yIf (xOr (x1 (fun o : (Option C_Machine) => if false = true then o.isSome else o.isNone) (xV V_law.lfound)) (xOr (x2o (fun (_ : C_Machine) (_ : Int) => some false) (xUn (xV V_law.lfound)) (xC (0 : Int))) (xNot (xCall F_law_is_machine (fun _ => ()) (fun s _ => s) (xCs (xV V_law.lfound) (xCs (x1 (fun x : (Int × Int × Int × (List Int) × (List (List (Int × Int)))) => x.1) (xUn (xV V_law.lexpected))) (xCs (x1 (fun x : (Int × Int × Int × (List Int) × (List (List (Int × Int)))) => x.2.1) (xUn (xV V_law.lexpected))) (xCs (x1 (fun x : (Int × Int × Int × (List Int) × (List (List (Int × Int)))) => x.2.2.1) (xUn (xV V_law.lexpected))) (xC ()))))))))) (yRet (xC false)) yNil) (yRet (xAnd (x2 (fun a b => if false = true then !decide (a = b) else decide (a = b)) (x1 (fun xs => xs) (x1 C_Machine.opening (xUn (xV V_law.lfound)))) (x1 (fun x : (Int × Int × Int × (List Int) × (List (List (Int × Int)))) => x.2.2.2.1) (xUn (xV V_law.lexpected)))) (x2 (fun a b => if false = true then !decide (a = b) else decide (a = b)) (xComp (x1 C_Machine.rows (xUn (xV V_law.lfound))) V_law.put_lrow_c0 xYes (x1 (fun xs => xs) (xV V_law.lrow_c0))) (x1 (fun x : (Int × Int × Int × (List Int) × (List (List (Int × Int)))) => x.2.2.2.2) (xUn (xV V_law.lexpected)))))))))))))))))
theorem ty_law : TFun (.fr (sV MV.int) (.nil) : PSpec (Unit) ((List Int) × Unit)) m_law F_law (fz MV.bl) := by
  unfold m_law F_law
  exact tf_mk (c := cx_law) (D0 := [0]) (D1 := [])
   (ts_seq (ts_set (D0 := [0]) 1 (tx_call ty_law_draws (txp_f (Ty.TP.tx (tp_v (i := 0) rfl rfl (fun _ => rfl))) (txp_f (Ty.TP.tx (tp_c (val := MV.int) rfl)) txp_n))) (kp_law_ldraws_here.sub rfl) (fun _ _ => rfl)) (ts_seq (ts_set (D0 := [1, 0]) 2 (tx_2 o_add (Ty.TP.tx (tp_c (val := MV.int) rfl)) (tx_callK1 (D0 := [0]) 1 ty_law_take (txp_i (txp_f (Ty.TP.tx (tp_c (val := MV.int) rfl)) txp_n)) (fun _ => ⟨rfl, trivial⟩) (fun _ _ => ⟨rfl, trivial⟩) (kp_law_ldraws_here.sub rfl))) (kp_law_linputs.sub rfl) (fun _ _ => rfl)) (ts_seq (ts_set (D0 := [2, 1, 0]) 3 (tx_2 o_add (Ty.TP.tx (tp_c (val := MV.int) rfl)) (tx_callK1 (D0 := [2, 0]) 1 ty_law_take (txp_i (txp_f (Ty.TP.tx (tp_c (val := MV.int) rfl)) txp_n)) (fun _ => ⟨rfl, trivial⟩) (fun _ _ => ⟨rfl, trivial⟩) (kp_law_ldraws_here.sub rfl))) (kp_law_loutputs.sub rfl) (fun _ _ => rfl)) (ts_seq (ts_set (D0 := [3, 2, 1, 0]) 4 (tx_2 o_sub (tx_callK1 (D0 := [3, 2, 0]) 1 ty_law_take (txp_i (txp_f (Ty.TP.tx (tp_c (val := MV.int) rfl)) txp_n)) (fun _ => ⟨rfl, trivial⟩) (fun _ _ => ⟨rfl, trivial⟩) (kp_law_ldraws_here.sub rfl)) (Ty.TP.tx (tp_c (val := MV.int) rfl))) (kp_law_llead_here.sub rfl) (fun _ _ => rfl)) (ts_seq (ts_asg (tx_callK1 (D0 := [4, 3, 2, 0]) 1 ty_law_machine (txp_i (txp_f (Ty.TP.tx (tp_v (i := 2) rfl rfl (fun _ => rfl))) (txp_f (Ty.TP.tx (tp_v (i := 3) rfl rfl (fun _ => rfl))) (txp_f (Ty.TP.tx (tp_v (i := 4) rfl rfl (fun _ => rfl))) (txp_f (Ty.TP.tx (tp_c (val := MV.int) rfl)) txp_n))))) (fun _ => ⟨rfl, trivial⟩) (fun _ _ => ⟨rfl, trivial⟩) (kp_law_ldraws_here.sub rfl)) (tg_tup (tgs_cons (tg_nm (D0 := [4, 3, 2, 1, 0]) 5 (kp_law_lopening.sub rfl) (fun _ _ => rfl)) (tgs_one (tg_nm (D0 := [5, 4, 3, 2, 1, 0]) 6 (kp_law_lrows.sub rfl) (fun _ _ => rfl)))))) (ts_seq (ts_set (D0 := [6, 5, 4, 3, 2, 1, 0]) 7 (tx_call ty_law_machine_text (txp_f (Ty.TP.tx (tp_v (i := 2) rfl rfl (fun _ => rfl))) (txp_f (Ty.TP.tx (tp_v (i := 3) rfl rfl (fun _ => rfl))) (txp_f (Ty.TP.tx (tp_v (i := 4) rfl rfl (fun _ => rfl))) (txp_f (Ty.TP.tx (tp_v (i := 5) rfl rfl (fun _ => rfl))) (txp_f (Ty.TP.tx (tp_v (i := 6) rfl rfl (fun _ => rfl))) txp_n)))))) (kp_law_ltext.sub rfl) (fun _ _ => rfl)) (ts_seq (ts_for (Dl := [7, 6, 5, 4, 3, 2, 1, 0]) (D2 := [7, 8, 6, 5, 4, 3, 2, 1, 0]) (ti_range1 (txa_c (tx_2 o_add (Ty.TP.tx (tp_c (val := MV.int) rfl)) (tx_callK1 (D0 := [7, 6, 5, 4, 3, 2, 0]) 1 ty_law_take (txp_i (txp_f (Ty.TP.tx (tp_c (val := MV.int) rfl)) txp_n)) (fun _ => ⟨rfl, trivial⟩) (fun _ _ => ⟨rfl, trivial⟩) (kp_law_ldraws_here.sub rfl))) (Ty.TPA.tx tpa_n))) (tg_nm (D0 := [7, 6, 5, 4, 3, 2, 1, 0]) 8 (kp_law_lk.sub rfl) (fun _ _ => rfl)) (ts_set (D0 := [8, 6, 5, 4, 3, 2, 1, 0]) 7 (tx_callK1 (D0 := [8, 7, 6, 5, 4, 3, 2, 0]) 1 ty_law_change (txp_i (txp_f (Ty.TP.tx (tp_v (i := 7) rfl rfl (fun _ => rfl))) txp_n)) (fun _ => ⟨rfl, trivial⟩) (fun _ _ => ⟨rfl, trivial⟩) (kp_law_ldraws_here.sub rfl)) (kp_law_ltext.sub rfl) (fun _ _ => rfl))) (ts_seq (ts_set (D0 := [7, 6, 5, 4, 3, 2, 1, 0]) 9 (tx_call ty_law_read (txp_f (Ty.TP.tx (tp_v (i := 7) rfl rfl (fun _ => rfl))) txp_n)) (kp_law_lexpected.sub rfl) (fun _ _ => rfl)) (ts_seq (ts_set (D0 := [9, 7, 6, 5, 4, 3, 2, 1, 0]) 10 (tx_call ty_law_outcome (txp_f (Ty.TP.tx (tp_v (i := 7) rfl rfl (fun _ => rfl))) txp_n)) (kp_law_lfound.sub rfl) (fun _ _ => rfl)) (ts_seq (ts_if (D' := [10, 9, 7, 6, 5, 4, 3, 2, 1, 0]) (D1 := [10, 9, 7, 6, 5, 4, 3, 2, 1, 0]) (txt_v (tx_isN (neg := false) (by intro a h; cases h) (Ty.TP.tx (tp_v (i := 9) rfl rfl (fun _ => rfl))))) (ts_ret (tx_isN (neg := false) (by intro a h; cases h) (Ty.TP.tx (tp_v (i := 10) rfl rfl (fun _ => rfl))))) ts_nil) (ts_seq (ts_if (D' := [10, 9, 7, 6, 5, 4, 3, 2, 1, 0]) (D1 := [10, 9, 7, 6, 5, 4, 3, 2, 1, 0]) (txt_or (txt_v (tx_isN (neg := false) (by intro a h; cases h) (Ty.TP.tx (tp_v (i := 10) rfl rfl (fun _ => rfl))))) (txt_or (txt_v (tx_2o (o_eqI (fun _ => ⟨_, _, rfl⟩)) (tx_un (Ty.TP.tx (tp_v (i := 10) rfl rfl (fun _ => rfl)))) (Ty.TP.tx (tp_c (val := MV.int) rfl)))) (txt_not (txt_v (tx_call ty_law_is_machine (txp_f (Ty.TP.tx (tp_v (i := 10) rfl rfl (fun _ => rfl))) (txp_f (tx_pr (vc := MV.int) (pr := (fun x : (Int × Int × Int × (List Int) × (List (List (Int × Int)))) => x.1)) (fun _ _ => rfl) (tx_un (Ty.TP.tx (tp_v (i := 9) rfl rfl (fun _ => rfl))))) (txp_f (tx_pr (vc := MV.int) (pr := (fun x : (Int × Int × Int × (List Int) × (List (List (Int × Int)))) => x.2.1)) (fun _ _ => rfl) (tx_un (Ty.TP.tx (tp_v (i := 9) rfl rfl (fun _ => rfl))))) (txp_f (tx_pr (vc := MV.int) (pr := (fun x : (Int × Int × Int × (List Int) × (List (List (Int × Int)))) => x.2.2.1)) (fun _ _ => rfl) (tx_un (Ty.TP.tx (tp_v (i := 9) rfl rfl (fun _ => rfl))))) txp_n))))))))) (ts_ret (Ty.TP.tx (tp_c (val := MV.bl) rfl))) ts_nil) (ts_ret (tx_and (tx_2 (o_eq (neg := false) (dt_l dt_int)) (Ty.TP.tx (tp_f1 (f1_list sq_t) (tp_1 (Op1.rd (o_fld (vb := (tV MV.int)) (pr := C_Machine.opening) (fun _ _ => f_fldT rfl (by decide +kernel) rfl))) (tp_un (tp_v (i := 10) rfl rfl (fun _ => rfl)))))) (tx_pr (vc := (lV MV.int)) (pr := (fun x : (Int × Int × Int × (List Int) × (List (List (Int × Int)))) => x.2.2.2.1)) (fun _ _ => rfl) (tx_un (Ty.TP.tx (tp_v (i := 9) rfl rfl (fun _ => rfl)))))) (tx_2 (o_eq (neg := false) (dt_l (dt_l (dt_p2 dt_int dt_int)))) (tx_comp (ti_t (tx_1 (o_fld (vb := (tV (tV (p2 MV.int MV.int)))) (pr := C_Machine.rows) (fun _ _ => f_fldT rfl (by decide +kernel) rfl)) (tx_un (Ty.TP.tx (tp_v (i := 10) rfl rfl (fun _ => rfl)))))) (tg_nm (D0 := [10, 9, 7, 6, 5, 4, 3, 2, 1, 0]) 11 (kp_law_lrow_c0.sub rfl) (fun _ _ => rfl)) txt_yes (Ty.TP.tx (tp_f1 (f1_list sq_t) (tp_v (i := 11) rfl rfl (fun _ => rfl))))) (tx_pr (vc := (lV (lV (p2 MV.int MV.int)))) (pr := (fun x : (Int × Int × Int × (List Int) × (List (List (Int × Int)))) => x.2.2.2.2)) (fun _ _ => rfl) (tx_un (Ty.TP.tx (tp_v (i := 9) rfl rfl (fun _ => rfl)))))))))))))))))))
   (fun _ _ => ⟨⟨rfl, rfl⟩, trivial⟩) (fun _ => trivial) (fun r h => by cases h)
end K44
set_option Elab.async false
set_option linter.all false
namespace Gr
inductive Star {α : Type} (R : α → α → Prop) : α → α → Prop where
  | refl (a : α) : Star R a a
  | step {a b c : α} (h : R a b) (t : Star R b c) : Star R a c
section
variable {α : Type} {R S : α → α → Prop} {a b c : α}
theorem Star.one (h : R a b) : Star R a b := .step h (.refl b)
theorem Star.trans (h : Star R a b) : Star R b c → Star R a c := by
  induction h with
  | refl _ => exact id
  | step h _ ih => exact fun q => .step h (ih q)
theorem Star.snoc (h : Star R a b) (q : R b c) : Star R a c := h.trans (.one q)
theorem Star.mono (k : ∀ a b, R a b → S a b) (h : Star R a b) : Star S a b := by
  induction h with
  | refl _ => exact .refl _
  | step h _ ih => exact .step (k _ _ h) ih
theorem Star.keep {P : α → Prop} (h : Star R a b) (k : ∀ a b, R a b → P a → P b) (p : P a) : P b := by
  induction h with
  | refl _ => exact p
  | step h _ ih => exact ih (k _ _ h p)
theorem Star.back {P : α → Prop} (h : Star R a b) (k : ∀ a b, R a b → P b → P a) (p : P b) : P a := by
  induction h with
  | refl _ => exact p
  | step h _ ih => exact k _ _ h (ih p)
theorem Star.last (h : Star R a b) : a = b ∨ ∃ c, Star R a c ∧ R c b := by
  induction h with
  | refl _ => exact .inl rfl
  | step h t ih =>
    rcases ih with rfl | ⟨c, h1, h2⟩
    · exact .inr ⟨_, .refl _, h⟩
    · exact .inr ⟨c, .step h h1, h2⟩
end
def Ok (g : List (List Int)) : Prop := ∀ r ∈ g, ∀ t ∈ r, 0 ≤ t ∧ t < g.length
def Node (g : List (List Int)) (v : Int) : Prop := 0 ≤ v ∧ v < g.length
def Ed (g : List (List Int)) (u v : Int) : Prop := 0 ≤ u ∧ ∃ r, g[u.toNat]? = some r ∧ v ∈ r
theorem Ed.l {g : List (List Int)} {u v : Int} (h : Ed g u v) : Node g u := by
  obtain ⟨h0, r, e, _⟩ := h
  have := (List.getElem?_eq_some_iff.mp e).1
  exact ⟨h0, by omega⟩
theorem Ed.r {g : List (List Int)} (k : Ok g) {u v : Int} (h : Ed g u v) : Node g v := by
  obtain ⟨h0, r, e, m⟩ := h
  exact k r (List.mem_of_getElem? e) v m
theorem star_node {g : List (List Int)} (k : Ok g) {u v : Int} (h : Star (Ed g) u v) (hu : Node g u) : Node g v := h.keep (fun _ _ e _ => e.r k) hu
def Tr (f : List Bool) (v : Int) : Prop := 0 ≤ v ∧ f[v.toNat]? = some true
instance {f : List Bool} {v : Int} : Decidable (Tr f v) := inferInstanceAs (Decidable (_ ∧ _))
theorem Tr.lt {f : List Bool} {v : Int} (h : Tr f v) : v < f.length := by
  have := (List.getElem?_eq_some_iff.mp h.2).1
  have := h.1
  omega
theorem tr_set {f : List Bool} {k v : Int} (h0 : 0 ≤ k) (hk : k < f.length) : Tr (f.set k.toNat true) v ↔ v = k ∨ Tr f v := by
  unfold Tr
  constructor
  · rintro ⟨v0, e⟩
    by_cases h : v = k
    · exact .inl h
    · rw [List.getElem?_set_ne (by omega)] at e
      exact .inr ⟨v0, e⟩
  · rintro (rfl | ⟨v0, e⟩)
    · exact ⟨h0, List.getElem?_set_self (by omega)⟩
    · refine ⟨v0, ?_⟩
      by_cases h : v = k
      · subst h; exact List.getElem?_set_self (by omega)
      · rw [List.getElem?_set_ne (by omega)]; exact e
def Good (g : List (List Int)) (F : List Int) : Prop := ∀ A r B, F = A ++ r :: B → ∀ w, Star (fun x y => Ed g x y ∧ (x ∈ A ∨ x = r)) w r → Star (Ed g) r w
structure Dfs (g : List (List Int)) (F P : List Int) : Prop where
  nd : (F ++ P).Nodup
  nodes : ∀ v ∈ F ++ P, Node g v
  closed : ∀ u ∈ F, ∀ v, Ed g u v → v ∈ F ∨ v ∈ P
  path : ∀ i u v, P[i]? = some u → P[i + 1]? = some v → Ed g u v
  good : Good g F
  mark : ∀ i p, P[i]? = some p → ∃ A B, F = A ++ B ∧ (∀ u ∈ A, ∀ v, Ed g u v → v ∈ A ∨ v ∈ P.take i) ∧ ∀ u ∈ B, Star (Ed g) p u
theorem Dfs.nil {g : List (List Int)} : Dfs g [] [] where
  nd := List.nodup_nil
  nodes := fun v h => nomatch h
  closed := fun u h => nomatch h
  path := fun i u v h => by simp at h
  good := fun A r B h => by simp at h
  mark := fun i p h => by simp at h
theorem Dfs.push {g : List (List Int)} {F P : List Int} (d : Dfs g F P) {t : Int} (ht : Node g t) (hn : t ∉ F ++ P) (he : ∀ p, P.getLast? = some p → Ed g p t) : Dfs g F (P ++ [t]) where
  nd := by
    rw [← List.append_assoc, List.nodup_append]
    exact ⟨d.nd, by simp, fun a ha b hb e => by
      rw [List.mem_singleton.mp hb] at e
      exact hn (e ▸ ha)⟩
  nodes := fun v hv => by
    rw [← List.append_assoc] at hv
    rcases List.mem_append.mp hv with hv | hv
    · exact d.nodes v hv
    · rw [List.mem_singleton.mp hv]; exact ht
  closed := fun u hu v e => (d.closed u hu v e).imp id fun h => List.mem_append_left _ h
  path := fun i u v h1 h2 => by
    by_cases hi : i + 1 < P.length
    · rw [List.getElem?_append_left (by omega)] at h1
      rw [List.getElem?_append_left hi] at h2
      exact d.path i u v h1 h2
    · have hl := (List.getElem?_eq_some_iff.mp h2).1
      simp at hl
      have e : i + 1 = P.length := by omega
      rw [List.getElem?_append_left (by omega)] at h1
      rw [e] at h2
      simp at h2
      subst h2
      refine he u ?_
      rw [List.getLast?_eq_getElem?]
      have : P.length - 1 = i := by omega
      rw [this]; exact h1
  good := d.good
  mark := fun i p h => by
    by_cases hi : i < P.length
    · rw [List.getElem?_append_left hi] at h
      obtain ⟨A, B, h1, h2, h3⟩ := d.mark i p h
      refine ⟨A, B, h1, fun u hu v e => ?_, h3⟩
      rw [List.take_append_of_le_length (by omega)]
      exact h2 u hu v e
    · have hl := (List.getElem?_eq_some_iff.mp h).1
      simp at hl
      have e : i = P.length := by omega
      refine ⟨F, [], by simp, fun u hu v e' => ?_, fun u hu => nomatch hu⟩
      rw [e]
      simp
      exact d.closed u hu v e'
theorem Dfs.below {g : List (List Int)} {F P : List Int} (d : Dfs g F P) : ∀ (k i : Nat) (u v : Int), P[i]? = some u → P[i + k]? = some v → Star (Ed g) u v
  | 0, i, u, v, h1, h2 => by
    rw [Nat.add_zero, h1] at h2
    cases h2
    exact .refl _
  | k + 1, i, u, v, h1, h2 => by
    have hl := (List.getElem?_eq_some_iff.mp h2).1
    obtain ⟨w, hw⟩ : ∃ w, P[i + 1]? = some w := ⟨_, List.getElem?_eq_getElem (by omega)⟩
    exact .step (d.path i u w h1 hw) (d.below k (i + 1) w v hw (by rw [show i + 1 + k = i + (k + 1) by omega]; exact h2))
def Mut (g : List (List Int)) (u v : Int) : Prop := Star (Ed g) u v ∧ Star (Ed g) v u
theorem Mut.symm {g : List (List Int)} {u v : Int} (h : Mut g u v) : Mut g v u := ⟨h.2, h.1⟩
theorem Mut.trans {g : List (List Int)} {u v w : Int} (h : Mut g u v) (k : Mut g v w) : Mut g u w := ⟨h.1.trans k.1, k.2.trans h.2⟩
theorem class_of {g : List (List Int)} {F A B : List Int} {r : Int} {U : Int → Prop} (hg : Good g F) (hF : F = A ++ r :: B) (hU : ∀ v, U v → v ∈ A ∨ v = r) (hr : U r) (hcl : ∀ u v, Ed g u v → ¬ U v → ¬ U u) (hcls : ∀ u v, Mut g u v → U u → U v) (w : Int) :
    Star (fun x y => Ed g x y ∧ U x) w r ↔ Mut g r w := by
  constructor
  · intro h
    refine ⟨hg A r B hF w (h.mono fun a b q => ⟨q.1, hU a q.2⟩), h.mono fun a b q => q.1⟩
  · rintro ⟨h1, h2⟩
    have gen : ∀ a c, Star (Ed g) a c → (∀ x, Star (Ed g) a x → Star (Ed g) x c → U x) → Star (fun x y => Ed g x y ∧ U x) a c := by
      intro a c ha
      induction ha with
      | refl _ => exact fun _ => .refl _
      | step e t ih => exact fun k => .step ⟨e, k _ (.refl _) (.step e t)⟩ (ih fun x h1 h2 => k x (.step e h1) h2)
    exact gen w r h2 fun x hx1 hx2 => hcls r x ⟨h1.trans hx1, hx2⟩ hr
end Gr
set_option Elab.async false
set_option linter.all false
namespace Gr
structure Mk (sn0 : List Bool) (st0 done : List Int) (sn : List Bool) (st : List Int) : Prop where
  len : sn.length = sn0.length
  tr : ∀ v, Tr sn v ↔ Tr sn0 v ∨ v ∈ done
  stk : ∀ v, v ∈ st ↔ v ∈ st0 ∨ (v ∈ done ∧ ¬ Tr sn0 v)
  cnt : sn.count false + st.length = sn0.count false + st0.length
theorem Mk.zero {sn : List Bool} {st : List Int} : Mk sn st [] sn st := ⟨rfl, fun v => by simp, fun v => by simp, rfl⟩
theorem count_set_false {sn : List Bool} {k : Nat} (h : sn[k]? = some false) : (sn.set k true).count false + 1 = sn.count false := by
  have hk := (List.getElem?_eq_some_iff.mp h).1
  have e := (List.getElem?_eq_some_iff.mp h).2
  rw [List.count_set hk, e]
  have : 0 < sn.count false := List.count_pos_iff.mpr (List.mem_of_getElem? h)
  simp
  omega
theorem not_tr {sn : List Bool} {t : Int} (h0 : 0 ≤ t) (h : t < sn.length) (n : ¬ Tr sn t) : sn[t.toNat]? = some false := by
  have e := List.getElem?_eq_getElem (l := sn) (i := t.toNat) (by omega)
  cases hb : sn[t.toNat]'(by omega) with
  | false => rw [e, hb]
  | true => exact absurd ⟨h0, by rw [e, hb]⟩ n
theorem Mk.step {sn0 sn : List Bool} {st0 st done : List Int} (m : Mk sn0 st0 done sn st) {t : Int} (h0 : 0 ≤ t) (h : t < sn.length) : (Tr sn t → Mk sn0 st0 (done ++ [t]) sn st) ∧ (¬ Tr sn t → Mk sn0 st0 (done ++ [t]) (sn.set t.toNat true) (st ++ [t])) := by
  constructor
  · intro ht
    refine ⟨m.len, fun v => ?_, fun v => ?_, m.cnt⟩
    · rw [m.tr]; simp
      constructor
      · rintro (q | q); exact .inl q; exact .inr (.inl q)
      · rintro (q | q | rfl); exact .inl q; exact .inr q; exact (m.tr _).mp ht
    · rw [m.stk]; simp
      constructor
      · rintro (q | ⟨q, r⟩); exact .inl q; exact .inr ⟨.inl q, r⟩
      · rintro (q | ⟨q | rfl, r⟩)
        · exact .inl q
        · exact .inr ⟨q, r⟩
        · rcases (m.tr _).mp ht with q | q
          · exact absurd q r
          · exact .inr ⟨q, r⟩
  · intro ht
    refine ⟨by rw [List.length_set]; exact m.len, fun v => ?_, fun v => ?_, ?_⟩
    · rw [tr_set h0 h, m.tr]; simp
      constructor
      · rintro (rfl | q | q)
        · exact .inr (.inr rfl)
        · exact .inl q
        · exact .inr (.inl q)
      · rintro (q | q | rfl)
        · exact .inr (.inl q)
        · exact .inr (.inr q)
        · exact .inl rfl
    · simp; rw [m.stk]
      constructor
      · rintro ((q | ⟨q, r⟩) | rfl)
        · exact .inl q
        · exact .inr ⟨.inl q, r⟩
        · exact .inr ⟨.inr rfl, fun q => ht ((m.tr _).mpr (.inl q))⟩
      · rintro (q | ⟨q | rfl, r⟩)
        · exact .inl (.inl q)
        · exact .inl (.inr ⟨q, r⟩)
        · exact .inr rfl
    · have := count_set_false (not_tr h0 h ht)
      have := m.cnt
      rw [List.length_append]; simp; omega
structure Wk (R : Int → Int → Prop) (n : Nat) (P : Int → Prop) (sn : List Bool) (st : List Int) : Prop where
  len : sn.length = n
  p : ∀ v, Tr sn v → P v
  stk : ∀ v ∈ st, Tr sn v
  cl : ∀ u, Tr sn u → u ∈ st ∨ ∀ w, R u w → Tr sn w
  cnt : sn.count false + st.length ≤ n
theorem Wk.pop {R : Int → Int → Prop} {n : Nat} {P : Int → Prop} {sn sn' : List Bool} {st st' : List Int} {u : Int} {ts : List Int} (w : Wk R n P sn (st ++ [u])) (m : Mk sn st ts sn' st') (ht : ∀ t, t ∈ ts ↔ R u t) (hP : ∀ u v, R u v → P u → P v) : Wk R n P sn' st' where
  len := m.len.trans w.len
  p := fun v hv => by
    rcases (m.tr v).mp hv with q | q
    · exact w.p v q
    · exact hP u v ((ht v).mp q) (w.p u (w.stk u (by simp)))
  stk := fun v hv => by
    rcases (m.stk v).mp hv with q | q
    · exact (m.tr v).mpr (.inl (w.stk v (by simp [q])))
    · exact (m.tr v).mpr (.inr q.1)
  cl := fun x hx => by
    by_cases hxu : x = u
    · subst hxu
      exact .inr fun y hy => (m.tr y).mpr (.inr ((ht y).mpr hy))
    · by_cases hx0 : Tr sn x
      · rcases w.cl x hx0 with q | q
        · simp at q
          rcases q with q | q
          · exact .inl ((m.stk x).mpr (.inl q))
          · exact absurd q hxu
        · exact .inr fun y hy => (m.tr y).mpr (.inl (q y hy))
      · rcases (m.tr x).mp hx with q | q
        · exact absurd q hx0
        · exact .inl ((m.stk x).mpr (.inr ⟨q, hx0⟩))
  cnt := by
    have := w.cnt
    have := m.cnt
    rw [List.length_append] at *
    simp at *; omega
theorem Wk.end {R : Int → Int → Prop} {n : Nat} {P : Int → Prop} {sn : List Bool} (w : Wk R n P sn []) {u v : Int} (h : Star R u v) (hu : Tr sn u) : Tr sn v :=
  h.keep (fun a b e ha => by
    rcases w.cl a ha with q | q
    · cases q
    · exact q b e) hu
end Gr
set_option Elab.async false
set_option linter.all false
namespace Gr
def row (g : List (List Int)) (v : Int) : List Int := g.getD v.toNat []
theorem ed_row_iff {g : List (List Int)} {v w : Int} (h : Node g v) : Ed g v w ↔ w ∈ row g v := by
  unfold Ed row
  have e := List.getElem?_eq_getElem (l := g) (i := v.toNat) (by have := h.1; have := h.2; omega)
  have e' : g.getD v.toNat [] = g[v.toNat]'(by have := h.1; have := h.2; omega) := by rw [List.getD_eq_getElem?_getD, e]; rfl
  rw [e']
  constructor
  · rintro ⟨_, r, e2, m⟩
    rw [e] at e2; cases e2; exact m
  · intro m; exact ⟨h.1, _, e, m⟩
structure Fin (g : List (List Int)) (seen : List Bool) (order path places : List Int) : Prop where
  d : Dfs g order path
  len : seen.length = g.length
  tr : ∀ v, Tr seen v ↔ v ∈ order ∨ v ∈ path
  pl : places.length = path.length
  ex : ∀ (i : Nat) p k, path[i]? = some p → places[i]? = some k → 0 ≤ k ∧ k ≤ (row g p).length ∧ ∀ m, m < k.toNat → ∀ t, (row g p)[m]? = some t → Tr seen t
  cnt : seen.count false + order.length + path.length = g.length
theorem tr_mono {seen : List Bool} {t v : Int} (h0 : 0 ≤ t) (h : t < seen.length) (k : Tr seen v) : Tr (seen.set t.toNat true) v := (tr_set h0 h).mpr (.inr k)
theorem Fin.start {g : List (List Int)} {seen : List Bool} {order : List Int} {r : Int} (f : Fin g seen order [] []) (hr : Node g r) (hn : ¬ Tr seen r) : Fin g (seen.set r.toNat true) order [r] [0] := by
  have hl : r < (seen.length : Int) := by rw [f.len]; exact hr.2
  refine ⟨f.d.push (P := []) hr (fun q => hn ((f.tr r).mpr (by simpa using q))) (fun p q => by simp at q), by rw [List.length_set]; exact f.len, fun v => ?_, rfl, fun i p k h1 h2 => ?_, ?_⟩
  · rw [tr_set hr.1 hl, f.tr]; simp
    constructor
    · rintro (q | q); exact .inr q; exact .inl q
    · rintro (q | q); exact .inr q; exact .inl q
  · cases i with
    | zero =>
      simp at h1 h2
      subst h1 h2
      exact ⟨Int.le_refl _, by omega, fun m hm => by simp at hm⟩
    | succ i => simp at h1
  · have := count_set_false (not_tr hr.1 hl hn)
    have := f.cnt
    simp at *; omega
theorem last_at {P : List Int} {v : Int} : (P ++ [v])[P.length]? = some v := by simp
theorem Fin.at {g : List (List Int)} {seen : List Bool} {order P K : List Int} {v k : Int} (f : Fin g seen order (P ++ [v]) (K ++ [k])) : Node g v ∧ 0 ≤ k ∧ k ≤ (row g v).length := by
  have pl : K.length = P.length := by have := f.pl; simpa using this
  obtain ⟨q1, q2, _⟩ := f.ex P.length v k last_at (by rw [← pl]; exact last_at)
  exact ⟨f.d.nodes v (by simp), q1, q2⟩
theorem Fin.look {g : List (List Int)} {seen : List Bool} {order P K : List Int} {v k t : Int} (f : Fin g seen order (P ++ [v]) (K ++ [k])) (hk : (row g v)[k.toNat]? = some t) (ht : Tr seen t) : Fin g seen order (P ++ [v]) (K ++ [k + 1]) := by
  have pl : K.length = P.length := by have := f.pl; simpa using this
  obtain ⟨_, k0, _⟩ := f.at
  refine ⟨f.d, f.len, f.tr, by simp [pl], fun i p k' h1 h2 => ?_, f.cnt⟩
  by_cases hi : i < P.length
  · exact f.ex i p k' h1 (by rw [List.getElem?_append_left (by omega)] at h2 ⊢; exact h2)
  · have hl := (List.getElem?_eq_some_iff.mp h1).1
    simp at hl
    have e : i = P.length := by omega
    subst e
    rw [last_at] at h1
    cases h1
    rw [← pl, last_at] at h2
    cases h2
    obtain ⟨_, _, q⟩ := f.ex P.length v k last_at (by rw [← pl]; exact last_at)
    have := (List.getElem?_eq_some_iff.mp hk).1
    refine ⟨by omega, by omega, fun m hm t' e => ?_⟩
    by_cases hm2 : m < k.toNat
    · exact q m hm2 t' e
    · have : m = k.toNat := by omega
      subst this
      rw [hk] at e; cases e; exact ht
theorem Fin.push {g : List (List Int)} (hg : Ok g) {seen : List Bool} {order P K : List Int} {v k t : Int} (f : Fin g seen order (P ++ [v]) (K ++ [k])) (hk : (row g v)[k.toNat]? = some t) (ht : ¬ Tr seen t) : Fin g (seen.set t.toNat true) order (P ++ [v] ++ [t]) (K ++ [k + 1] ++ [0]) := by
  have pl : K.length = P.length := by have := f.pl; simpa using this
  obtain ⟨nv, k0, _⟩ := f.at
  have he : Ed g v t := (ed_row_iff nv).mpr (List.mem_of_getElem? hk)
  have nt := he.r hg
  have hl : t < (seen.length : Int) := by rw [f.len]; exact nt.2
  refine ⟨f.d.push nt (fun q => ht ((f.tr t).mpr (List.mem_append.mp q))) (fun p q => by simp at q; subst q; exact he), by rw [List.length_set]; exact f.len, fun x => ?_, by simp [pl], fun i p k' h1 h2 => ?_, ?_⟩
  · rw [tr_set nt.1 hl, f.tr]; simp
    constructor
    · rintro (q | q | q | q); exact .inr (.inr (.inr q)); exact .inl q; exact .inr (.inl q); exact .inr (.inr (.inl q))
    · rintro (q | q | q | q); exact .inr (.inl q); exact .inr (.inr (.inl q)); exact .inr (.inr (.inr q)); exact .inl q
  · by_cases hi : i < P.length
    · obtain ⟨q1, q2, q3⟩ := f.ex i p k' (by rw [List.append_assoc] at h1; rw [List.getElem?_append_left hi] at h1 ⊢; exact h1) (by rw [List.append_assoc] at h2; rw [List.getElem?_append_left (by omega)] at h2 ⊢; exact h2)
      exact ⟨q1, q2, fun m hm t' e => tr_mono nt.1 hl (q3 m hm t' e)⟩
    · by_cases hi2 : i = P.length
      · subst hi2
        have e1 : p = v := by
          rw [List.append_assoc, List.getElem?_append_right (Nat.le_refl _)] at h1
          simpa using h1.symm
        have e2 : k' = k + 1 := by
          rw [List.append_assoc, List.getElem?_append_right (by omega), pl, Nat.sub_self] at h2
          simpa using h2.symm
        subst e1 e2
        obtain ⟨_, _, q⟩ := f.ex P.length p k last_at (by rw [← pl]; exact last_at)
        have := (List.getElem?_eq_some_iff.mp hk).1
        refine ⟨by omega, by omega, fun m hm t' e => ?_⟩
        by_cases hm2 : m < k.toNat
        · exact tr_mono nt.1 hl (q m hm2 t' e)
        · have : m = k.toNat := by omega
          subst this
          rw [hk] at e; cases e
          exact (tr_set nt.1 hl).mpr (.inl rfl)
      · have hl1 := (List.getElem?_eq_some_iff.mp h1).1
        simp at hl1
        have hi3 : i = P.length + 1 := by omega
        subst hi3
        have e1 : p = t := by
          rw [List.getElem?_append_right (by simp)] at h1
          simpa using h1.symm
        have e2 : k' = 0 := by
          rw [List.getElem?_append_right (by simp; omega)] at h2
          simp [pl] at h2; exact h2.symm
        subst e1 e2
        exact ⟨Int.le_refl _, by omega, fun m hm => by simp at hm⟩
  · have := count_set_false (not_tr nt.1 hl ht)
    have := f.cnt
    simp at *; omega
def mu (seen : List Bool) (places : List Int) : Nat := 1002 * seen.count false + (places.map fun k => (1001 - k).toNat).sum
structure Cls (g : List (List Int)) (ns : List Int) (count : Int) : Prop where
  len : ns.length = g.length
  below : ∀ (v : Nat) x, ns[v]? = some x → x < count
  cl : ∀ (u v : Nat) x y, ns[u]? = some x → ns[v]? = some y → 0 ≤ x → (x = y ↔ Mut g u v)
end Gr
set_option Elab.async false
set_option linter.all false
namespace Gr
def fl (ns : List Int) : List Bool := ns.map fun x => decide (0 ≤ x)
theorem tr_fl {ns : List Int} {v : Int} : Tr (fl ns) v ↔ 0 ≤ v ∧ ∃ x, ns[v.toNat]? = some x ∧ 0 ≤ x := by
  unfold Tr fl
  rw [List.getElem?_map]
  constructor
  · rintro ⟨h0, e⟩
    obtain ⟨x, e1, e2⟩ := Option.map_eq_some_iff.mp e
    exact ⟨h0, x, e1, by simpa using e2⟩
  · rintro ⟨h0, x, e, hx⟩
    exact ⟨h0, by rw [e]; simp [hx]⟩
theorem fl_len {ns : List Int} : (fl ns).length = ns.length := by unfold fl; simp
theorem fl_set {ns : List Int} {k : Nat} {c : Int} (h : 0 ≤ c) : fl (ns.set k c) = (fl ns).set k true := by
  unfold fl; rw [List.map_set]; simp [h]
structure Cl (g : List (List Int)) (ns : List Int) (count : Int) : Prop where
  len : ns.length = g.length
  pos : 0 ≤ count
  lt : ∀ (v : Nat) x, ns[v]? = some x → x < count
  back : ∀ u v, Ed g u v → Tr (fl ns) v → Tr (fl ns) u
  cls : ∀ (u v : Nat) x y, ns[u]? = some x → ns[v]? = some y → 0 ≤ x → 0 ≤ y → (x = y ↔ Mut g u v)
structure Co (g : List (List Int)) (ns0 : List Int) (count r : Int) (ns st : List Int) : Prop where
  w : Wk (fun u t => Ed g t u) g.length (fun v => Tr (fl ns0) v ∨ Star (fun x y => Ed g x y ∧ Node g x ∧ ¬ Tr (fl ns0) x) v r) (fl ns) st
  old : ∀ (v : Nat) x, ns0[v]? = some x → 0 ≤ x → ns[v]? = some x
  new : ∀ (v : Nat) x y, ns0[v]? = some x → x < 0 → ns[v]? = some y → y < 0 ∨ y = count
  rt : Tr (fl ns) r
theorem Cl.star {g : List (List Int)} {ns : List Int} {count : Int} (c : Cl g ns count) {u v : Int} (h : Star (Ed g) u v) (hv : Tr (fl ns) v) : Tr (fl ns) u := h.back (fun a b e h => c.back a b e h) hv
theorem Co.start {g : List (List Int)} {ns : List Int} {count r : Int} (c : Cl g ns count) (hr : Node g r) (hn : ¬ Tr (fl ns) r) : Co g ns count r (ns.set r.toNat count) [r] := by
  have hl : r < ((fl ns).length : Int) := by rw [fl_len, c.len]; exact hr.2
  refine ⟨⟨by rw [fl_len, List.length_set]; exact c.len, fun v hv => ?_, fun v hv => ?_, fun u hu => ?_, ?_⟩, fun v x h1 h2 => ?_, fun v x y h1 h2 h3 => ?_, by rw [fl_set c.pos]; exact (tr_set hr.1 hl).mpr (.inl rfl)⟩
  · rw [fl_set c.pos, tr_set hr.1 hl] at hv
    rcases hv with rfl | hv
    · exact .inr (.refl _)
    · exact .inl hv
  · rw [List.mem_singleton.mp hv, fl_set c.pos]
    exact (tr_set hr.1 hl).mpr (.inl rfl)
  · rw [fl_set c.pos] at hu ⊢
    rcases (tr_set hr.1 hl).mp hu with rfl | hu
    · exact .inl (by simp)
    · exact .inr fun w hw => (tr_set hr.1 hl).mpr (.inr (c.back w u hw hu))
  · rw [fl_set c.pos]
    have := count_set_false (not_tr hr.1 hl hn)
    have := List.count_le_length (a := false) (l := fl ns)
    rw [fl_len, c.len] at this
    simp; omega
  · rw [List.getElem?_set_ne]
    · exact h1
    · intro e
      subst e
      exact hn (tr_fl.mpr ⟨hr.1, x, h1, h2⟩)
  · by_cases e : r.toNat = v
    · subst e
      rw [List.getElem?_set_self (by rw [c.len]; have := hr.1; have := hr.2; omega)] at h3
      cases h3; exact .inr rfl
    · rw [List.getElem?_set_ne e, h1] at h3
      cases h3; exact .inl h2
theorem Co.keep {ns0 ns : List Int} {count t : Int} {g : List (List Int)} (c : Cl g ns0 count) (h0 : 0 ≤ t) (hn : ¬ Tr (fl ns) t) (hl : t < ns.length)
    (old : ∀ (v : Nat) x, ns0[v]? = some x → 0 ≤ x → ns[v]? = some x) (new : ∀ (v : Nat) x y, ns0[v]? = some x → x < 0 → ns[v]? = some y → y < 0 ∨ y = count) :
    (∀ (v : Nat) x, ns0[v]? = some x → 0 ≤ x → (ns.set t.toNat count)[v]? = some x) ∧ (∀ (v : Nat) x y, ns0[v]? = some x → x < 0 → (ns.set t.toNat count)[v]? = some y → y < 0 ∨ y = count) := by
  constructor
  · intro v x h1 h2
    rw [List.getElem?_set_ne]
    · exact old v x h1 h2
    · intro e
      subst e
      exact hn (tr_fl.mpr ⟨h0, x, old _ x h1 h2, h2⟩)
  · intro v x y h1 h2 h3
    by_cases e : t.toNat = v
    · subst e
      rw [List.getElem?_set_self (by omega)] at h3
      cases h3; exact .inr rfl
    · rw [List.getElem?_set_ne e] at h3
      exact new v x y h1 h2 h3
theorem Co.fin {g : List (List Int)} (hg : Ok g) {F A B : List Int} {ns0 ns : List Int} {count r : Int} (good : Good g F) (hF : F = A ++ r :: B) (all : ∀ v, Node g v → v ∈ F) (done : ∀ v ∈ B, Tr (fl ns0) v) (c : Cl g ns0 count) (hr : Node g r) (hn : ¬ Tr (fl ns0) r) (o : Co g ns0 count r ns []) : Cl g ns (count + 1) ∧ (∀ v, Tr (fl ns0) v → Tr (fl ns) v) ∧ Tr (fl ns) r := by
  have len : ns.length = ns0.length := by have := o.w.len; rw [fl_len] at this; rw [this, c.len]
  have at0 : ∀ (v : Nat) x, ns[v]? = some x → ∃ x0, ns0[v]? = some x0 := fun v x h => by
    have := (List.getElem?_eq_some_iff.mp h).1
    exact ⟨_, List.getElem?_eq_getElem (by omega)⟩
  have back : ∀ u v, Ed g u v → Tr (fl ns) v → Tr (fl ns) u := fun u v h hv => by
    rcases o.w.cl v hv with q | q
    · cases q
    · exact q u h
  have old : ∀ v, Tr (fl ns0) v → Tr (fl ns) v := fun v hv => by
    obtain ⟨h0, x, e, hx⟩ := tr_fl.mp hv
    exact tr_fl.mpr ⟨h0, x, o.old _ x e hx, hx⟩
  have cls := fun w => class_of (w := w) (U := fun v => Node g v ∧ ¬ Tr (fl ns0) v) good hF (fun v ⟨h1, h2⟩ => by
      have := all v h1
      rw [hF] at this
      rcases List.mem_append.mp this with h | h
      · exact .inl h
      · rcases List.mem_cons.mp h with h | h
        · exact .inr h
        · exact absurd (done v h) h2) ⟨hr, hn⟩ (fun u v e h h' => h ⟨e.r hg, fun q => h'.2 (c.back u v e q)⟩) (fun u v m h => ⟨star_node hg m.1 h.1, fun q => h.2 (c.star m.1 q)⟩)
  -- who is new
  have isnew : ∀ v, Tr (fl ns) v → ¬ Tr (fl ns0) v → Mut g r v := fun v h1 h2 => by
    rcases o.w.p v h1 with q | q
    · exact absurd q h2
    · exact (cls v).mp q
  have val : ∀ (v : Nat) x, ns[v]? = some x → 0 ≤ x → (Tr (fl ns0) v ∧ ns0[v]? = some x) ∨ (¬ Tr (fl ns0) v ∧ x = count ∧ Mut g r v) := fun v x h hx => by
    obtain ⟨x0, e0⟩ := at0 v x h
    by_cases h0 : 0 ≤ x0
    · have := o.old v x0 e0 h0
      rw [h] at this; cases this
      exact .inl ⟨tr_fl.mpr ⟨by omega, x, by simpa using e0, hx⟩, e0⟩
    · have nt : ¬ Tr (fl ns0) v := fun q => by
        obtain ⟨_, y, e, hy⟩ := tr_fl.mp q
        simp at e
        rw [e0] at e; cases e; omega
      rcases o.new v x0 x e0 (by omega) h with q | q
      · omega
      · exact .inr ⟨nt, q, isnew v (tr_fl.mpr ⟨by omega, x, by simpa using h, hx⟩) nt⟩
  have rr : Tr (fl ns) r := o.rt
  refine ⟨⟨by rw [len, c.len], by have := c.pos; omega, fun v x h => ?_, back, fun u v x y h1 h2 hx hy => ?_⟩, old, rr⟩
  · obtain ⟨x0, e0⟩ := at0 v x h
    by_cases hx : 0 ≤ x
    · rcases val v x h hx with ⟨_, q⟩ | ⟨_, q, _⟩
      · have := c.lt v x q; omega
      · omega
    · have := c.pos; omega
  · rcases val u x h1 hx with ⟨a1, a2⟩ | ⟨a1, a2, a3⟩
    · rcases val v y h2 hy with ⟨b1, b2⟩ | ⟨b1, b2, b3⟩
      · exact c.cls u v x y a2 b2 hx hy
      · constructor
        · intro e
          have := c.lt u x a2
          omega
        · intro m
          exact absurd (c.star m.2 a1) b1
    · rcases val v y h2 hy with ⟨b1, b2⟩ | ⟨b1, b2, b3⟩
      · constructor
        · intro e
          have := c.lt v y b2
          omega
        · intro m
          exact absurd (c.star m.1 b1) a1
      · exact ⟨fun _ => a3.symm.trans b3, fun _ => by rw [a2, b2]⟩
end Gr
set_option Elab.async false
set_option linter.all false
namespace Gr
end Gr
set_option Elab.async false
set_option linter.all false
set_option maxRecDepth 100000
namespace Gr
open Ty
def CycR (R : Int → Int → Prop) (v : Int) : Prop := ∃ w, R v w ∧ Star R w v
def Tot (g : List (List Int)) (I : Int → Prop) : Prop := ∀ k, I k → ∃ t, Ed g k t ∧ I t
section
variable {g : List (List Int)} {o pr : Int → Int}
def St (g : List (List Int)) (o : Int → Int) (I : Int → Prop) (W σ : Int → Int) (u t : Int) : Prop := I u ∧ I t ∧ Ed g u t ∧ (o u = W u → t = σ u)
def Le (pr : Int → Int) (L : Int) (R : Int → Int → Prop) (u t : Int) : Prop := R u t ∧ pr u ≤ L ∧ pr t ≤ L
structure Sol (g : List (List Int)) (o pr : Int → Int) (I : Int → Prop) (W σ : Int → Int) : Prop where
  w : ∀ k, I k → W k = 0 ∨ W k = 1
  own : ∀ k, I k → o k = W k → Ed g k (σ k) ∧ I (σ k) ∧ W (σ k) = W k
  opp : ∀ k, I k → o k ≠ W k → σ k = -1 ∧ ∀ t, Ed g k t → I t → W t = W k
  cyc : ∀ v, I v → pr v % 2 ≠ W v → ¬ CycR (Le pr (pr v) (St g o I W σ)) v
structure Fd (g : List (List Int)) (o : Int → Int) (P : Int) (I T : Int → Prop) (fd : Int → Int) : Prop where
  zero : ∀ k, I k → (fd k = 0 ↔ T k)
  own : ∀ k, I k → 0 < fd k → o k = P → ∃ t, Ed g k t ∧ I t ∧ 0 ≤ fd t ∧ fd t < fd k
  opp : ∀ k, I k → 0 < fd k → o k ≠ P → ∀ t, Ed g k t → I t → 0 ≤ fd t ∧ fd t < fd k
  nown : ∀ k, I k → fd k < 0 → o k = P → ∀ t, Ed g k t → I t → fd t < 0
  nopp : ∀ k, I k → fd k < 0 → o k ≠ P → (∃ t, Ed g k t ∧ I t) → ∃ t, Ed g k t ∧ I t ∧ fd t < 0
theorem Fd.tot {P : Int} {I T : Int → Prop} {fd : Int → Int} (F : Fd g o P I T fd) (h : Tot g I) : Tot g (fun k => I k ∧ fd k < 0) := fun k ⟨h1, h2⟩ => by
  obtain ⟨t, e, it⟩ := h k h1
  by_cases c : o k = P
  · exact ⟨t, e, it, F.nown k h1 h2 c t e it⟩
  · obtain ⟨t, e, it, ft⟩ := F.nopp k h1 h2 c ⟨t, e, it⟩
    exact ⟨t, e, it, ft⟩
structure Bw (g : List (List Int)) (o pr : Int → Int) (I B : Int → Prop) (Q : Int) (σ : Int → Int) : Prop where
  sub : ∀ k, B k → I k
  own : ∀ k, B k → o k = Q → Ed g k (σ k) ∧ B (σ k)
  opp : ∀ k, B k → o k ≠ Q → σ k = -1 ∧ ∀ t, Ed g k t → I t → B t
  cyc : ∀ v, B v → pr v % 2 ≠ Q → ¬ CycR (Le pr (pr v) (St g o B (fun _ => Q) σ)) v
  out : ∀ k, I k → ¬ B k → o k = Q → ∀ t, Ed g k t → I t → ¬ B t
theorem join {I B : Int → Prop} {Q : Int} {W σ : Int → Int} (ho : ∀ k, I k → o k = 0 ∨ o k = 1) (hQ : Q = 0 ∨ Q = 1) (b : Bw g o pr I B Q σ) (hW : ∀ k, B k → W k = Q) (G : Sol g o pr (fun k => I k ∧ ¬ B k) W σ) : Sol g o pr I W σ where
  w := fun k h => by
    by_cases c : B k
    · rw [hW k c]; exact hQ
    · exact G.w k ⟨h, c⟩
  own := fun k h e => by
    by_cases c : B k
    · obtain ⟨a1, a2⟩ := b.own k c (by rw [← hW k c]; exact e)
      exact ⟨a1, b.sub _ a2, by rw [hW k c, hW _ a2]⟩
    · obtain ⟨a1, a2, a3⟩ := G.own k ⟨h, c⟩ e
      exact ⟨a1, a2.1, a3⟩
  opp := fun k h e => by
    by_cases c : B k
    · obtain ⟨a1, a2⟩ := b.opp k c (by rw [← hW k c]; exact e)
      exact ⟨a1, fun t ed it => by rw [hW k c, hW _ (a2 t ed it)]⟩
    · obtain ⟨a1, a2⟩ := G.opp k ⟨h, c⟩ e
      refine ⟨a1, fun t ed it => ?_⟩
      by_cases ct : B t
      · have nq : o k ≠ Q := fun z => b.out k h c z t ed it ct
        rw [hW t ct]
        have := ho k h
        have := G.w k ⟨h, c⟩
        omega
      · exact a2 t ed ⟨it, ct⟩
  cyc := fun v h e c => by
    -- B is not left
    have cl : ∀ u t, Le pr (pr v) (St g o I W σ) u t → B u → B t := fun u t r bu => by
      obtain ⟨⟨_, i2, ed, st⟩, _⟩ := r
      by_cases q : o u = Q
      · rw [st (by rw [hW u bu]; exact q)]; exact (b.own u bu q).2
      · exact (b.opp u bu q).2 t ed i2
    have cls : ∀ {a c : Int}, Star (Le pr (pr v) (St g o I W σ)) a c → B a → B c := fun q ba => q.keep (fun x y r bx => cl x y r bx) ba
    obtain ⟨w, r, s⟩ := c
    by_cases bv : B v
    · refine b.cyc v bv (by rw [← hW v bv]; exact e) ?_
      have go : ∀ {a c : Int}, Star (Le pr (pr v) (St g o I W σ)) a c → B a → Star (Le pr (pr v) (St g o B (fun _ => Q) σ)) a c := fun {a c} q => by
        induction q with
        | refl => exact fun _ => .refl _
        | @step a b' c r q ih =>
          intro ba
          have bb := cl _ _ r ba
          obtain ⟨⟨i1, i2, ed, st⟩, p1, p2⟩ := r
          exact .step ⟨⟨ba, bb, ed, fun z => st (by rw [hW _ ba]; exact z)⟩, p1, p2⟩ (ih bb)
      have bw := cl _ _ r bv
      obtain ⟨⟨i1, i2, ed, st⟩, p1, p2⟩ := r
      exact ⟨w, ⟨⟨bv, bw, ed, fun z => st (by rw [hW _ bv]; exact z)⟩, p1, p2⟩, go s bw⟩
    · have nb : ∀ {a : Int}, CycR (Le pr (pr v) (St g o I W σ)) a → Star (Le pr (pr v) (St g o I W σ)) a v → ¬ B a := fun _ s ba => bv (cls s ba)
      refine G.cyc v ⟨h, bv⟩ e ?_
      have go : ∀ {a c : Int}, Star (Le pr (pr v) (St g o I W σ)) a c → c = v → Star (Le pr (pr v) (St g o (fun k => I k ∧ ¬ B k) W σ)) a c := fun {a c} q => by
        induction q with
        | refl => exact fun _ => .refl _
        | @step a b' c r q ih =>
          intro e
          subst e
          have n1 : ¬ B a := fun z => bv (cls (.step r q) z)
          have n2 : ¬ B b' := fun z => bv (cls q z)
          obtain ⟨⟨i1, i2, ed, st⟩, p1, p2⟩ := r
          exact .step ⟨⟨⟨i1, n1⟩, ⟨i2, n2⟩, ed, st⟩, p1, p2⟩ (ih rfl)
      have n2 : ¬ B w := fun z => bv (cls s z)
      obtain ⟨⟨i1, i2, ed, st⟩, p1, p2⟩ := r
      exact ⟨w, ⟨⟨⟨i1, bv⟩, ⟨i2, n2⟩, ed, st⟩, p1, p2⟩, go s rfl⟩
end
end Gr
set_option Elab.async false
set_option linter.all false
set_option maxRecDepth 100000
namespace Gr
open Ty
def fv (xs : List Int) (k : Int) : Int := xs.getD k.toNat (-1)
def ov (xs : List Int) (k : Int) : Int := xs.getD k.toNat 0
def unp (r : List Int) (ins : List Bool) (p : Int → Bool) : Nat := (r.filter fun t => ins.getD t.toNat false && !p t).length
theorem fv_set {xs : List Int} {k : Nat} {x v : Int} (hk : k < xs.length) (h0 : 0 ≤ v) : fv (xs.set k x) v = if v = k then x else fv xs v := by
  unfold fv
  rw [List.getD_eq_getElem?_getD, List.getD_eq_getElem?_getD]
  by_cases c : v = k
  · rw [if_pos c, c, Int.toNat_natCast, List.getElem?_set_self hk]; rfl
  · rw [if_neg c, List.getElem?_set_ne (by omega)]
theorem filter_cut {α : Type} [DecidableEq α] {f : α → Bool} {x : α} : ∀ {xs : List α}, xs.Nodup → x ∈ xs → f x = true → (xs.filter fun y => f y && !decide (y = x)).length + 1 = (xs.filter f).length
  | [], _, h, _ => absurd h (by simp)
  | y :: r, nd, h, hf => by
    obtain ⟨n1, n2⟩ := List.nodup_cons.mp nd
    by_cases c : y = x
    · subst c
      rw [List.filter_cons_of_neg (by simp), List.filter_cons_of_pos hf, List.length_cons]
      congr 2
      refine List.filter_congr fun z hz => ?_
      have : z ≠ y := fun e => n1 (e ▸ hz)
      simp [this]
    · have ih := filter_cut (xs := r) n2 ((List.mem_cons.mp h).resolve_left fun z => c z.symm) hf
      by_cases d : f y = true
      · rw [List.filter_cons_of_pos (by simp [d, c]), List.filter_cons_of_pos d, List.length_cons, List.length_cons, ← ih]
      · rw [List.filter_cons_of_neg (by simp [d]), List.filter_cons_of_neg d]; exact ih
theorem unp_step {r : List Int} {ins : List Bool} {p : Int → Bool} {t : Int} (nd : r.Nodup) (ht : t ∈ r) (hi : ins.getD t.toNat false = true) (hp : p t = false) : unp r ins (fun y => p y || decide (y = t)) + 1 = unp r ins p := by
  unfold unp
  rw [← filter_cut (f := fun t => ins.getD t.toNat false && !p t) nd ht (by simp [hp]; simpa using hi)]
  congr 2
  refine List.filter_congr fun z _ => ?_
  simp [Bool.and_assoc]
structure Fo (g : List (List Int)) (o : List Int) (ins tgs : List Bool) (P D : Int) (fd lf : List Int) (pd : Int → Int → Bool) : Prop where
  l1 : fd.length = g.length
  l2 : lf.length = g.length
  hi : ∀ k, Node g k → fv fd k ≤ D
  zero : ∀ k, Node g k → (fv fd k = 0 ↔ Tr tgs k)
  inn : ∀ k, Node g k → 0 ≤ fv fd k → Tr ins k
  cnt : ∀ k, Node g k → Tr ins k → fv fd k < 0 → ov lf k = unp (row g k) ins (pd k)
  pdl : ∀ k t, pd k t = true → Ed g k t ∧ 0 ≤ fv fd t ∧ fv fd t < D
  own : ∀ k, Node g k → 0 < fv fd k → ov o k = P → ∃ t, Ed g k t ∧ Tr ins t ∧ 0 ≤ fv fd t ∧ fv fd t < fv fd k
  opp : ∀ k, Node g k → 0 < fv fd k → ov o k ≠ P → ∀ t, Ed g k t → Tr ins t → 0 ≤ fv fd t ∧ fv fd t < fv fd k
  nown : ∀ k, Node g k → Tr ins k → fv fd k < 0 → ov o k = P → ∀ t, pd k t = false
  nopp : ∀ k, Node g k → Tr ins k → fv fd k < 0 → ov o k ≠ P → 1 ≤ unp (row g k) ins (pd k) ∨ unp (row g k) ins (fun _ => false) = 0
section
variable {g : List (List Int)} {o : List Int} {ins tgs : List Bool} {P D : Int} {fd lf : List Int} {pd : Int → Int → Bool}
theorem tr_getD {f : List Bool} {t : Int} (h : Tr f t) : f.getD t.toNat false = true := by rw [List.getD_eq_getElem?_getD, h.2]; rfl
theorem getD_tr0 {f : List Bool} {t : Int} (h0 : 0 ≤ t) (h : f.getD t.toNat false = true) : Tr f t := by
  refine ⟨h0, ?_⟩
  rw [List.getD_eq_getElem?_getD] at h
  cases e : f[t.toNat]? with
  | none => rw [e] at h; cases h
  | some b => rw [e] at h; rw [show b = true from h]
theorem unp_pos {r : List Int} {p : Int → Bool} (h : 1 ≤ unp r ins p) : ∃ t ∈ r, ins.getD t.toNat false = true ∧ p t = false := by
  unfold unp at h
  obtain ⟨t, ht⟩ := List.exists_mem_of_length_pos h
  obtain ⟨h1, h2⟩ := List.mem_filter.mp ht
  rw [Bool.and_eq_true] at h2
  exact ⟨t, h1, h2.1, by simpa using h2.2⟩
theorem unp_none {r : List Int} {p : Int → Bool} (h : unp r ins p = 0) {t : Int} (ht : t ∈ r) (hi : ins.getD t.toNat false = true) : p t = true := by
  unfold unp at h
  cases hp : p t with
  | true => rfl
  | false =>
    have : t ∈ r.filter fun t => ins.getD t.toNat false && !p t := List.mem_filter.mpr ⟨ht, by rw [hi, hp]; rfl⟩
    rw [List.length_eq_zero_iff.mp h] at this
    cases this
theorem Fo.up (F : Fo g o ins tgs P D fd lf pd) : Fo g o ins tgs P (D + 1) fd lf pd :=
  { F with hi := fun k h => by have := F.hi k h; omega, pdl := fun k t h => by have := F.pdl k t h; exact ⟨this.1, this.2.1, by omega⟩ }
def upd (pd : Int → Int → Bool) (k t : Int) : Int → Int → Bool := fun x y => pd x y || decide (x = k ∧ y = t)
theorem upd_ne {k t x : Int} (h : x ≠ k) : upd pd k t x = pd x := by funext y; unfold upd; simp [h]
theorem upd_self {k t : Int} : upd pd k t k = fun y => pd k y || decide (y = t) := by funext y; unfold upd; simp
theorem Fo.skip (F : Fo g o ins tgs P D fd lf pd) {k t : Int} (e : Ed g k t) (ht : 0 ≤ fv fd t ∧ fv fd t < D) (h : ¬ (Tr ins k ∧ fv fd k < 0)) : Fo g o ins tgs P D fd lf (upd pd k t) :=
  { F with
    cnt := fun x n i f => by rw [upd_ne fun z => h (by rw [← z]; exact ⟨i, f⟩)]; exact F.cnt x n i f
    pdl := fun x y p => by
      unfold upd at p
      rcases Bool.or_eq_true _ _ ▸ p with p | p
      · exact F.pdl x y p
      · obtain ⟨rfl, rfl⟩ := of_decide_eq_true p
        exact ⟨e, ht⟩
    nown := fun x n i f q y => by rw [upd_ne fun z => h (by rw [← z]; exact ⟨i, f⟩)]; exact F.nown x n i f q y
    nopp := fun x n i f q => by rw [upd_ne fun z => h (by rw [← z]; exact ⟨i, f⟩)]; exact F.nopp x n i f q }
theorem ov_set {xs : List Int} {k : Nat} {x v : Int} (hk : k < xs.length) (h0 : 0 ≤ v) : ov (xs.set k x) v = if v = k then x else ov xs v := by
  unfold ov
  rw [List.getD_eq_getElem?_getD, List.getD_eq_getElem?_getD]
  by_cases c : v = k
  · rw [if_pos c, c, Int.toNat_natCast, List.getElem?_set_self hk]; rfl
  · rw [if_neg c, List.getElem?_set_ne (by omega)]
theorem Fo.count (F : Fo g o ins tgs P D fd lf pd) (nd : ∀ r ∈ g, r.Nodup) {k : Nat} {t : Int} (e : Ed g k t) (it : Tr ins t) (hp : pd k t = false) (ik : Tr ins k) (fk : fv fd k < 0) : ov lf k - 1 = unp (row g k) ins (upd pd k t k) ∧ 0 ≤ ov lf k - 1 := by
  have hn := e.l
  have c := F.cnt k hn ik fk
  have rm : row g k ∈ g := by
    unfold row
    obtain ⟨_, r, e1, _⟩ := e
    rw [List.getD_eq_getElem?_getD, e1]
    exact List.mem_of_getElem? e1
  have u := unp_step (p := pd k) (nd _ rm) ((ed_row_iff hn).mp e) (tr_getD it) hp
  rw [upd_self, c, ← u]
  omega
theorem Fo.put (F : Fo g o ins tgs P D fd lf pd) (nd : ∀ r ∈ g, r.Nodup) (hD : 1 ≤ D) {k : Nat} {t : Int} (e : Ed g k t) (it : Tr ins t) (ht : 0 ≤ fv fd t ∧ fv fd t < D) (hp : pd k t = false) (ik : Tr ins k) (fk : fv fd k < 0) (h : ov o k = P ∨ ov lf k - 1 = 0) : Fo g o ins tgs P D (fd.set k D) (lf.set k (ov lf k - 1)) (upd pd k t) := by
  have hn := e.l
  have hk : k < lf.length := by rw [F.l2]; have := hn.2; omega
  have hk2 : k < fd.length := by rw [F.l1]; have := hn.2; omega
  obtain ⟨c1, c2⟩ := F.count nd e it hp ik fk
  have fe : ∀ x, 0 ≤ x → fv (fd.set k D) x = if x = k then D else fv fd x := fun x h0 => fv_set hk2 h0
  have keep : ∀ x, 0 ≤ x → 0 ≤ fv fd x → fv (fd.set k D) x = fv fd x := fun x h0 h1 => by
    rw [fe x h0, if_neg]
    intro z; rw [z] at h1; omega
  have en : ∀ {a b : Int}, Ed g a b → Tr ins b → 0 ≤ b := fun _ i => i.1
  exact
  { l1 := by rw [List.length_set]; exact F.l1
    l2 := by rw [List.length_set]; exact F.l2
    hi := fun x n => by
      rw [fe x n.1]; split
      · exact Int.le_refl _
      · exact F.hi x n
    zero := fun x n => by
      rw [fe x n.1]; split
      · rename_i c
        subst c
        exact ⟨fun z => by omega, fun z => by have := (F.zero _ n).mpr z; omega⟩
      · exact F.zero x n
    inn := fun x n h => by
      rw [fe x n.1] at h
      by_cases c : x = k
      · rw [c]; exact ik
      · rw [if_neg c] at h; exact F.inn x n h
    cnt := fun x n i f => by
      rw [fe x n.1] at f
      by_cases c : x = k
      · rw [if_pos c] at f; omega
      · rw [if_neg c] at f
        rw [ov_set hk n.1, if_neg c, upd_ne c]; exact F.cnt x n i f
    pdl := fun x y p => by
      unfold upd at p
      rcases Bool.or_eq_true _ _ ▸ p with p | p
      · obtain ⟨a1, a2, a3⟩ := F.pdl x y p
        refine ⟨a1, ?_⟩
        by_cases y0 : 0 ≤ y
        · rw [keep y y0 a2]; exact ⟨a2, a3⟩
        · have : fv (fd.set k D) y = fv fd y ∨ y.toNat = 0 := .inr (by omega)
          by_cases k0 : k = 0
          · subst k0
            have e0 : fv fd y = fv fd (0 : Nat) := by unfold fv; rw [show y.toNat = 0 by omega]; rfl
            rw [e0] at a2
            have : fv fd ((0 : Nat) : Int) < 0 := fk
            omega
          · have : fv (fd.set k D) y = fv fd y := by
              unfold fv
              rw [List.getD_eq_getElem?_getD, List.getD_eq_getElem?_getD, List.getElem?_set_ne (by omega)]
            rw [this]; exact ⟨a2, a3⟩
      · obtain ⟨rfl, rfl⟩ := of_decide_eq_true p
        rw [keep y it.1 ht.1]
        exact ⟨e, ht⟩
    own := fun x n f q => by
      rw [fe x n.1] at f ⊢
      by_cases c : x = k
      · rw [if_pos c, c]
        exact ⟨t, e, it, by rw [keep t it.1 ht.1]; exact ht.1, by rw [keep t it.1 ht.1]; exact ht.2⟩
      · rw [if_neg c] at f ⊢
        obtain ⟨y, a1, a2, a3, a4⟩ := F.own x n f q
        exact ⟨y, a1, a2, by rw [keep y a2.1 a3]; exact a3, by rw [keep y a2.1 a3]; exact a4⟩
    opp := fun x n f q y ey iy => by
      rw [fe x n.1] at f ⊢
      by_cases c : x = k
      · rw [if_pos c]
        subst c
        have h0 : unp (row g k) ins (upd pd k t k) = 0 := by
          rcases h with h | h
          · exact absurd h q
          · omega
        have p := unp_none h0 ((ed_row_iff hn).mp ey) (tr_getD iy)
        unfold upd at p
        rcases Bool.or_eq_true _ _ ▸ p with p | p
        · obtain ⟨_, a2, a3⟩ := F.pdl _ _ p
          rw [keep y iy.1 a2]; exact ⟨a2, a3⟩
        · obtain ⟨_, rfl⟩ := of_decide_eq_true p
          rw [keep y it.1 ht.1]; exact ht
      · rw [if_neg c] at f ⊢
        obtain ⟨a1, a2⟩ := F.opp x n f q y ey iy
        rw [keep y iy.1 a1]; exact ⟨a1, a2⟩
    nown := fun x n i f q y => by
      rw [fe x n.1] at f
      by_cases c : x = k
      · rw [if_pos c] at f; omega
      · rw [if_neg c] at f
        rw [upd_ne c]; exact F.nown x n i f q y
    nopp := fun x n i f q => by
      rw [fe x n.1] at f
      by_cases c : x = k
      · rw [if_pos c] at f; omega
      · rw [if_neg c] at f
        rw [upd_ne c]; exact F.nopp x n i f q }
theorem Fo.fin (F : Fo g o ins tgs P D fd lf pd) (hg : Ok g) (hl : ins.length = g.length) (h : ∀ k, Node g k → 0 ≤ fv fd k → ∀ u, Ed g u k → pd u k = true) : Fd g (ov o) P (Tr ins) (Tr tgs) (fv fd) := by
  have nd : ∀ {k}, Tr ins k → Node g k := fun {k} i => ⟨i.1, by rw [← hl]; exact i.lt⟩
  refine ⟨fun k i => F.zero k (nd i), fun k i => F.own k (nd i), fun k i => F.opp k (nd i), fun k i f q t e it => ?_, fun k i f q ⟨t, e, it⟩ => ?_⟩
  · have := F.nown k (nd i) i f q t
    by_cases c : 0 ≤ fv fd t
    · rw [h t (e.r hg) c k e] at this; cases this
    · omega
  · rcases F.nopp k (nd i) i f q with z | z
    · obtain ⟨y, hy, iy, py⟩ := unp_pos z
      have ey := (ed_row_iff (nd i)).mpr hy
      have ny := ey.r hg
      refine ⟨y, ey, getD_tr0 ny.1 iy, ?_⟩
      by_cases c : 0 ≤ fv fd y
      · rw [h y ny c k ey] at py; cases py
      · omega
    · have := unp_none z ((ed_row_iff (nd i)).mp e) (tr_getD it)
      cases this
end
end Gr
set_option Elab.async false
set_option linter.all false
set_option maxRecDepth 100000
namespace Gr
section
variable {α β : Type} [DecidableEq α] [DecidableEq β]
theorem nodup_len : ∀ {l1 l2 : List α}, l1.Nodup → (∀ x ∈ l1, x ∈ l2) → l1.length ≤ l2.length
  | [], _, _, _ => Nat.zero_le _
  | x :: l1, l2, nd, h => by
    obtain ⟨n1, n2⟩ := List.nodup_cons.mp nd
    have hx := h x (List.mem_cons_self ..)
    have ih := nodup_len (l2 := l2.erase x) n2 fun y hy => by
      have : y ≠ x := fun z => n1 (z ▸ hy)
      exact (List.mem_erase_of_ne this).mpr (h y (List.mem_cons_of_mem _ hy))
    rw [List.length_erase_of_mem hx] at ih
    have := List.length_pos_of_mem hx
    rw [List.length_cons]; omega
def fsts : List α → List α → List α
  | acc, [] => acc
  | acc, x :: xs => if x ∈ acc then fsts acc xs else fsts (acc ++ [x]) xs
def idxG (k : α) : List α → Nat
  | [] => 0
  | x :: xs => if x = k then 0 else idxG k xs + 1
theorem idxG_get {k : α} : ∀ {xs : List α}, k ∈ xs → xs[idxG k xs]? = some k
  | x :: xs, h => by
    unfold idxG
    by_cases c : x = k
    · rw [if_pos c, c]; rfl
    · rw [if_neg c]
      have : k ∈ xs := (List.mem_cons.mp h).resolve_left fun z => c z.symm
      exact idxG_get this
theorem idxG_lt {k : α} {xs : List α} (h : k ∈ xs) : idxG k xs < xs.length := (List.getElem?_eq_some_iff.mp (idxG_get h)).1
theorem idxG_inj {k j : α} {xs : List α} (h : k ∈ xs) (h' : j ∈ xs) (e : idxG k xs = idxG j xs) : k = j := by
  have a := idxG_get h
  rw [e, idxG_get h'] at a
  exact (Option.some.inj a).symm
theorem idxG_at {k : α} {xs : List α} {i : Nat} (nd : xs.Nodup) (h : xs[i]? = some k) : idxG k xs = i := by
  have hm := List.mem_of_getElem? h
  obtain ⟨l1, q1⟩ := List.getElem?_eq_some_iff.mp (idxG_get hm)
  obtain ⟨l2, q2⟩ := List.getElem?_eq_some_iff.mp h
  exact (List.getElem_inj nd).mp (q1.trans q2.symm)
theorem fsts_mem {x : α} : ∀ {xs acc : List α}, x ∈ fsts acc xs ↔ x ∈ acc ∨ x ∈ xs
  | [], acc => by simp [fsts]
  | y :: xs, acc => by
    unfold fsts
    by_cases c : y ∈ acc
    · rw [if_pos c, fsts_mem]
      simp only [List.mem_cons]
      exact ⟨fun h => h.imp id .inr, fun h => by
        rcases h with h | rfl | h
        · exact .inl h
        · exact .inl c
        · exact .inr h⟩
    · rw [if_neg c, fsts_mem]
      simp only [List.mem_cons, List.mem_append, List.mem_singleton, List.not_mem_nil, or_false]
      exact ⟨fun h => by
        rcases h with (h | h) | h
        · exact .inl h
        · exact .inr (.inl h)
        · exact .inr (.inr h), fun h => by
        rcases h with h | h | h
        · exact .inl (.inl h)
        · exact .inl (.inr h)
        · exact .inr h⟩
theorem nodup_snoc {l : List α} {x : α} (nd : l.Nodup) (h : x ∉ l) : (l ++ [x]).Nodup := by
  rw [List.nodup_append]
  exact ⟨nd, by simp, fun a ha b hb e => by rw [List.mem_singleton.mp hb] at e; exact h (e ▸ ha)⟩
theorem nd_of_map {α β : Type} {f : α → β} : ∀ {l : List α}, (l.map f).Nodup → l.Nodup
  | [], _ => List.nodup_nil
  | x :: l, h => by
    rw [List.map_cons, List.nodup_cons] at h
    exact List.nodup_cons.mpr ⟨fun z => h.1 (List.mem_map.mpr ⟨x, z, rfl⟩), nd_of_map h.2⟩
inductive Fa2 {α β : Type} (R : α → β → Prop) : List α → List β → Prop
  | nil : Fa2 R [] []
  | cons {x : α} {y : β} {xs : List α} {ys : List β} : R x y → Fa2 R xs ys → Fa2 R (x :: xs) (y :: ys)
theorem Fa2.snoc {α β : Type} {R : α → β → Prop} {x : α} {y : β} : ∀ {xs : List α} {ys : List β}, Fa2 R xs ys → R x y → Fa2 R (xs ++ [x]) (ys ++ [y])
  | _, _, .nil, r => .cons r .nil
  | _, _, .cons h t, r => .cons h (t.snoc r)
theorem Fa2.len {α β : Type} {R : α → β → Prop} : ∀ {xs : List α} {ys : List β}, Fa2 R xs ys → xs.length = ys.length
  | _, _, .nil => rfl
  | _, _, .cons _ t => by rw [List.length_cons, List.length_cons, t.len]
theorem Fa2.get {α β : Type} {R : α → β → Prop} : ∀ {xs : List α} {ys : List β} {i : Nat} {x : α}, Fa2 R xs ys → xs[i]? = some x → ∃ y, ys[i]? = some y ∧ R x y
  | _, _, i, _, .nil, e => by simp at e
  | _, _, 0, x, .cons h t, e => ⟨_, rfl, by simp at e; rwa [← e]⟩
  | _, _, i + 1, x, .cons h t, e => by
    obtain ⟨y, a, b⟩ := t.get (i := i) (by simpa using e)
    exact ⟨y, by simpa using a, b⟩
theorem Fa2.of_get {α β : Type} {R : α → β → Prop} : ∀ {xs : List α} {ys : List β}, xs.length = ys.length → (∀ (i : Nat) x y, xs[i]? = some x → ys[i]? = some y → R x y) → Fa2 R xs ys
  | [], [], _, _ => .nil
  | [], _ :: _, h, _ => by cases h
  | _ :: _, [], h, _ => by cases h
  | x :: xs, y :: ys, h, k => .cons (k 0 x y rfl rfl) (Fa2.of_get (by simpa using h) fun i a b ha hb => k (i + 1) a b (by simpa using ha) (by simpa using hb))
theorem Fa2.map_eq {α β γ : Type} {R : α → β → Prop} {f : α → γ} {g : β → γ} (h : ∀ x y, R x y → f x = g y) : ∀ {xs : List α} {ys : List β}, Fa2 R xs ys → xs.map f = ys.map g
  | _, _, .nil => rfl
  | _, _, .cons r t => by rw [List.map_cons, List.map_cons, h _ _ r, t.map_eq h]
theorem fsts_nd : ∀ {xs acc : List α}, acc.Nodup → (fsts acc xs).Nodup
  | [], acc, h => h
  | y :: xs, acc, h => by
    unfold fsts
    by_cases c : y ∈ acc
    · rw [if_pos c]; exact fsts_nd h
    · rw [if_neg c]; exact fsts_nd (nodup_snoc h c)
def cn (xs : List α) : List Int := xs.map fun x => ((idxG x (fsts [] xs) : Nat) : Int)
def cnt (xs : List α) : Nat := (fsts [] xs).length
theorem cn_get {xs : List α} {i : Nat} {x : α} (h : xs[i]? = some x) : (cn xs).getD i 0 = ((idxG x (fsts [] xs) : Nat) : Int) := by
  unfold cn
  rw [List.getD_eq_getElem?_getD, List.getElem?_map, h]; rfl
theorem cn_ker {xs : List α} {i j : Nat} (hi : i < xs.length) (hj : j < xs.length) : (cn xs).getD i 0 = (cn xs).getD j 0 ↔ xs[i]? = xs[j]? := by
  have ei := List.getElem?_eq_getElem hi
  have ej := List.getElem?_eq_getElem hj
  rw [cn_get ei, cn_get ej, ei, ej]
  constructor
  · intro h
    have h : idxG xs[i] (fsts [] xs) = idxG xs[j] (fsts [] xs) := by omega
    rw [idxG_inj (fsts_mem.mpr (.inr (List.getElem_mem hi))) (fsts_mem.mpr (.inr (List.getElem_mem hj))) h]
  · intro h
    rw [Option.some.inj h]
theorem cn_lt {xs : List α} : ∀ v ∈ cn xs, 0 ≤ v ∧ v < cnt xs := fun v hv => by
  obtain ⟨x, hx, rfl⟩ := List.mem_map.mp hv
  have := idxG_lt (fsts_mem.mpr (.inr hx) : x ∈ fsts [] xs)
  unfold cnt
  exact ⟨by omega, by omega⟩
theorem cn_top {xs : List α} (h : xs ≠ []) : 0 < cnt xs ∧ ((cnt xs : Int) - 1) ∈ cn xs := by
  obtain ⟨x, r, rfl⟩ := List.exists_cons_of_ne_nil h
  have p : 0 < cnt (x :: r) := List.length_pos_of_mem (fsts_mem.mpr (.inr (List.mem_cons_self ..)) : x ∈ fsts [] (x :: r))
  refine ⟨p, ?_⟩
  have hl : cnt (x :: r) - 1 < (fsts [] (x :: r)).length := by unfold cnt at *; omega
  have hm : (fsts [] (x :: r))[cnt (x :: r) - 1] ∈ x :: r := by
    rcases fsts_mem.mp (List.getElem_mem hl) with h | h
    · cases h
    · exact h
  refine List.mem_map.mpr ⟨_, hm, ?_⟩
  rw [idxG_at (fsts_nd List.nodup_nil) (List.getElem?_eq_getElem hl)]
  omega
theorem cnt_le {xs : List α} : cnt xs ≤ xs.length := nodup_len (fsts_nd List.nodup_nil) fun x hx => (fsts_mem.mp hx).resolve_left fun z => nomatch z
theorem cnt_fine {A : List α} {B : List β} (hl : A.length = B.length) (h : ∀ i j, i < A.length → j < A.length → A[i]? = A[j]? → B[i]? = B[j]?) : cnt B ≤ cnt A ∧ (cnt A ≤ cnt B → ∀ i j, i < A.length → j < A.length → B[i]? = B[j]? → A[i]? = A[j]?) := by
  have key : ∀ b ∈ fsts [] B, ∃ i, i < A.length ∧ B[i]? = some b := fun b hb => by
    obtain ⟨i, hi, e⟩ := List.getElem_of_mem ((fsts_mem.mp hb).resolve_left fun z => nomatch z)
    exact ⟨i, by omega, by rw [List.getElem?_eq_getElem hi, e]⟩
  have im : ∀ i, (hi : i < A.length) → ∃ i0, i0 = idxG A[i] A ∧ i0 < A.length ∧ B[i0]? = B[i]? := fun i hi => by
    have hm := List.getElem_mem hi
    refine ⟨_, rfl, idxG_lt hm, h _ _ (idxG_lt hm) hi ?_⟩
    rw [idxG_get hm, List.getElem?_eq_getElem hi]
  constructor
  · have := nodup_len (l2 := ((fsts [] A).map fun a => B[idxG a A]?).filterMap id) (fsts_nd (xs := B) List.nodup_nil) fun b hb => by
      obtain ⟨i, hi, e⟩ := key b hb
      obtain ⟨i0, e0, _, e1⟩ := im i hi
      refine List.mem_filterMap.mpr ⟨some b, List.mem_map.mpr ⟨A[i], fsts_mem.mpr (.inr (List.getElem_mem hi)), ?_⟩, rfl⟩
      rw [← e0, e1, e]
    have l2 := List.length_filterMap_le id ((fsts [] A).map fun a => B[idxG a A]?)
    rw [List.length_map] at l2
    unfold cnt
    omega
  · intro hc i j hi hj e
    apply Classical.byContradiction
    intro ne
    have ne : A[i] ≠ A[j] := fun z => ne (by rw [List.getElem?_eq_getElem hi, List.getElem?_eq_getElem hj, z])
    have hmi := List.getElem_mem hi
    have hmj := List.getElem_mem hj
    have := nodup_len (l2 := (((fsts [] A).erase A[j]).map fun a => B[idxG a A]?).filterMap id) (fsts_nd (xs := B) List.nodup_nil) fun b hb => by
      obtain ⟨k, hk, e2⟩ := key b hb
      by_cases c : A[k] = A[j]
      · obtain ⟨i0, e0, _, e1⟩ := im i hi
        refine List.mem_filterMap.mpr ⟨some b, List.mem_map.mpr ⟨A[i], (List.mem_erase_of_ne ne).mpr (fsts_mem.mpr (.inr hmi)), ?_⟩, rfl⟩
        rw [← e0, e1, e, ← e2]
        exact h j k hj hk (by rw [List.getElem?_eq_getElem hj, List.getElem?_eq_getElem hk, c])
      · obtain ⟨i0, e0, _, e1⟩ := im k hk
        refine List.mem_filterMap.mpr ⟨some b, List.mem_map.mpr ⟨A[k], (List.mem_erase_of_ne c).mpr (fsts_mem.mpr (.inr (List.getElem_mem hk))), ?_⟩, rfl⟩
        rw [← e0, e1, e2]
    have l2 := List.length_filterMap_le id (((fsts [] A).erase A[j]).map fun a => B[idxG a A]?)
    rw [List.length_map, List.length_erase_of_mem (fsts_mem.mpr (.inr hmj))] at l2
    have p := List.length_pos_of_mem (fsts_mem.mpr (.inr hmj) : A[j] ∈ fsts [] A)
    unfold cnt at hc
    omega
end
section
variable {β : Type} [DecidableEq β]
def sg (g : List (List Int)) (c : List Int) : List (Int × List Int) := (List.range g.length).map fun j => (c.getD j 0, (g.getD j []).map fun t => c.getD t.toNat 0)
theorem sg_len {g : List (List Int)} {c : List Int} : (sg g c).length = g.length := by unfold sg; simp
theorem sg_get {g : List (List Int)} {c : List Int} {j : Nat} (h : j < g.length) : (sg g c)[j]? = some (c.getD j 0, (g.getD j []).map fun t => c.getD t.toNat 0) := by
  unfold sg
  rw [List.getElem?_map, List.getElem?_range h]; rfl
def CC (marks : List β) (g : List (List Int)) : Nat → List Int
  | 0 => cn marks
  | n + 1 => cn (sg g (CC marks g n))
def nC (marks : List β) (g : List (List Int)) : Nat → Nat
  | 0 => cnt marks
  | n + 1 => cnt (sg g (CC marks g n))
variable {marks : List β} {g : List (List Int)} (hm : marks.length = g.length)
include hm
def Eq' (marks : List β) (g : List (List Int)) (n : Nat) (j k : Nat) : Prop := (CC marks g n).getD j 0 = (CC marks g n).getD k 0
omit hm in
theorem Eq'.symm {n j k : Nat} (h : Eq' marks g n j k) : Eq' marks g n k j := Eq.symm h
omit hm in
theorem Eq'.trans {n j k l : Nat} (h : Eq' marks g n j k) (h' : Eq' marks g n k l) : Eq' marks g n j l := Eq.trans h h'
theorem eq_zero {j k : Nat} (hj : j < g.length) (hk : k < g.length) : Eq' marks g 0 j k ↔ marks[j]? = marks[k]? := cn_ker (by omega) (by omega)
omit hm in
theorem eq_succ {n j k : Nat} (hj : j < g.length) (hk : k < g.length) : Eq' marks g (n + 1) j k ↔ Eq' marks g n j k ∧ (g.getD j []).map (fun t => (CC marks g n).getD t.toNat 0) = (g.getD k []).map (fun t => (CC marks g n).getD t.toNat 0) := by
  unfold Eq'
  rw [show CC marks g (n + 1) = cn (sg g (CC marks g n)) from rfl, cn_ker (by rw [sg_len]; exact hj) (by rw [sg_len]; exact hk), sg_get hj, sg_get hk]
  simp
theorem nC_le : ∀ n, nC marks g n ≤ g.length
  | 0 => by unfold nC; rw [← hm]; exact cnt_le
  | n + 1 => by
    unfold nC
    have := cnt_le (xs := sg g (CC marks g n))
    rwa [sg_len] at this
def Stable (marks : List β) (g : List (List Int)) (n : Nat) : Prop := ∀ j k, j < g.length → k < g.length → Eq' marks g n j k → Eq' marks g (n + 1) j k
theorem CC_cnt : ∀ n, (∀ v ∈ CC marks g n, 0 ≤ v ∧ v < nC marks g n) ∧ (0 < g.length → 0 < nC marks g n ∧ ((nC marks g n : Int) - 1) ∈ CC marks g n)
  | 0 => ⟨cn_lt, fun h => cn_top (fun z => by rw [z] at hm; simp at hm; omega)⟩
  | n + 1 => ⟨cn_lt, fun h => cn_top (fun z => by have := sg_len (g := g) (c := CC marks g n); rw [z] at this; simp at this; omega)⟩
theorem nC_step (n : Nat) : nC marks g n ≤ nC marks g (n + 1) ∧ (nC marks g (n + 1) ≤ nC marks g n → Stable marks g n) := by
  cases n with
  | zero =>
    have := cnt_fine (A := sg g (CC marks g 0)) (B := marks) (by rw [sg_len, hm]) (fun i j hi hj e => by
      rw [sg_len] at hi hj
      rw [sg_get hi, sg_get hj] at e
      simp only [Option.some.injEq, Prod.mk.injEq] at e
      exact (eq_zero hm hi hj).mp e.1)
    refine ⟨this.1, fun hc j k hj hk e => (eq_succ hj hk).mpr ?_⟩
    have q := this.2 hc j k (by rw [sg_len]; exact hj) (by rw [sg_len]; exact hk) ((eq_zero hm hj hk).mp e)
    rw [sg_get hj, sg_get hk] at q
    simp only [Option.some.injEq, Prod.mk.injEq] at q
    exact ⟨e, q.2⟩
  | succ n =>
    have := cnt_fine (A := sg g (CC marks g (n + 1))) (B := sg g (CC marks g n)) (by rw [sg_len, sg_len]) (fun i j hi hj e => by
      rw [sg_len] at hi hj
      rw [sg_get hi, sg_get hj] at e
      simp only [Option.some.injEq, Prod.mk.injEq] at e
      have e1 : Eq' marks g (n + 1) i j := e.1
      have e2 := (cn_ker (xs := sg g (CC marks g n)) (by rw [sg_len]; exact hi) (by rw [sg_len]; exact hj)).mp e1
      exact e2)
    refine ⟨this.1, fun hc j k hj hk e => (eq_succ hj hk).mpr ?_⟩
    have q := this.2 hc j k (by rw [sg_len]; exact hj) (by rw [sg_len]; exact hk) ((cn_ker (xs := sg g (CC marks g n)) (by rw [sg_len]; exact hj) (by rw [sg_len]; exact hk)).mp e)
    rw [sg_get hj, sg_get hk] at q
    simp only [Option.some.injEq, Prod.mk.injEq] at q
    exact ⟨e, q.2⟩
omit hm in
theorem eq_down {n j k : Nat} (hj : j < g.length) (hk : k < g.length) (h : Eq' marks g (n + 1) j k) : Eq' marks g n j k := ((eq_succ hj hk).mp h).1
omit hm in
theorem eq_le {n m j k : Nat} (hj : j < g.length) (hk : k < g.length) (hnm : n ≤ m) (h : Eq' marks g m j k) : Eq' marks g n j k := by
  induction m with
  | zero => rwa [show n = 0 by omega]
  | succ m ih =>
    by_cases c : n = m + 1
    · rw [c]; exact h
    · exact ih (by omega) (eq_down hj hk h)
variable (hg : ∀ r ∈ g, ∀ t ∈ r, 0 ≤ t ∧ t < g.length)
include hg
omit hm in
theorem row_in {j : Nat} {t : Int} (h : t ∈ g.getD j []) : 0 ≤ t ∧ t < g.length := by
  by_cases hj : j < g.length
  · rw [List.getD_eq_getElem?_getD, List.getElem?_eq_getElem hj] at h
    exact hg _ (List.getElem_mem hj) t h
  · rw [List.getD_eq_getElem?_getD, List.getElem?_eq_none (by omega)] at h
    cases h
omit hm in
theorem stable_next {n : Nat} (S : Stable marks g n) : Stable marks g (n + 1) := fun j k hj hk e => by
  refine (eq_succ hj hk).mpr ⟨e, ?_⟩
  have e2 := ((eq_succ hj hk).mp e).2
  have hl : (g.getD j []).length = (g.getD k []).length := by simpa using congrArg List.length e2
  refine List.ext_getElem (by simpa using hl) fun i h1 h2 => ?_
  rw [List.length_map] at h1 h2
  have e3 : ((g.getD j []).map fun t => (CC marks g n).getD t.toNat 0)[i]? = ((g.getD k []).map fun t => (CC marks g n).getD t.toNat 0)[i]? := by rw [e2]
  rw [List.getElem?_map, List.getElem?_map, List.getElem?_eq_getElem h1, List.getElem?_eq_getElem h2] at e3
  simp only [Option.map_some, Option.some.injEq] at e3
  rw [List.getElem_map, List.getElem_map]
  have a := row_in hg (List.getElem_mem h1)
  have b := row_in hg (List.getElem_mem h2)
  exact S _ _ (by omega) (by omega) e3
omit hm in
theorem stable_all {n : Nat} (S : Stable marks g n) : ∀ i, Stable marks g (n + i)
  | 0 => S
  | i + 1 => stable_next hg (stable_all S i)
omit hm in
theorem stable_eq {n m j k : Nat} (S : Stable marks g n) (hnm : n ≤ m) (hj : j < g.length) (hk : k < g.length) : Eq' marks g m j k ↔ Eq' marks g n j k := by
  refine ⟨eq_le hj hk hnm, fun h => ?_⟩
  obtain ⟨i, rfl⟩ := Nat.exists_eq_add_of_le hnm
  clear hnm
  induction i with
  | zero => exact h
  | succ i ih => exact stable_all hg S i j k hj hk ih
theorem stable_ex (h0 : 0 < g.length) : ∃ n, n < g.length ∧ Stable marks g n := by
  have key : ∀ n, (∃ m, m < n ∧ Stable marks g m) ∨ n + 1 ≤ nC marks g n := fun n => by
    induction n with
    | zero => exact .inr ((CC_cnt hm 0).2 h0).1
    | succ n ih =>
      rcases ih with ⟨m, h1, h2⟩ | h
      · exact .inl ⟨m, by omega, h2⟩
      · by_cases c : nC marks g (n + 1) ≤ nC marks g n
        · exact .inl ⟨n, by omega, (nC_step hm n).2 c⟩
        · exact .inr (by omega)
  rcases key g.length with h | h
  · exact h
  · have := nC_le hm g.length
    omega
def Al (marks : List β) (g : List (List Int)) (j k : Nat) : Prop := Eq' marks g g.length j k
theorem al_iff {n j k : Nat} (h0 : 0 < g.length) (hn : g.length ≤ n) (hj : j < g.length) (hk : k < g.length) : Eq' marks g n j k ↔ Al marks g j k := by
  obtain ⟨m, h1, h2⟩ := stable_ex hm hg h0
  unfold Al
  exact (stable_eq hg h2 (by omega) hj hk).trans (stable_eq hg h2 (by omega) hj hk).symm
theorem al_le {n j k : Nat} (h0 : 0 < g.length) (hj : j < g.length) (hk : k < g.length) (h : Al marks g j k) : Eq' marks g n j k :=
  eq_le hj hk (Nat.le_max_right g.length n) ((al_iff hm hg h0 (Nat.le_max_left g.length n) hj hk).mpr h)
theorem al_mark {j k : Nat} (h0 : 0 < g.length) (hj : j < g.length) (hk : k < g.length) (h : Al marks g j k) : marks[j]? = marks[k]? := (eq_zero hm hj hk).mp (al_le hm hg h0 hj hk h)
theorem al_row {j k : Nat} (h0 : 0 < g.length) (hj : j < g.length) (hk : k < g.length) (h : Al marks g j k) : (g.getD j []).length = (g.getD k []).length ∧ ∀ (i : Nat) t u, (g.getD j [])[i]? = some t → (g.getD k [])[i]? = some u → Al marks g t.toNat u.toNat := by
  have e2 := ((eq_succ hj hk).mp (al_le hm hg (n := g.length + 1) h0 hj hk h)).2
  refine ⟨by simpa using congrArg List.length e2, fun i t u ht hu => ?_⟩
  have e3 : ((g.getD j []).map fun t => (CC marks g g.length).getD t.toNat 0)[i]? = ((g.getD k []).map fun t => (CC marks g g.length).getD t.toNat 0)[i]? := by rw [e2]
  rw [List.getElem?_map, List.getElem?_map, ht, hu] at e3
  unfold Al Eq'
  simpa using e3
end
section
variable {cl cl' : Int → Int} {row row' : Int → List Int}
def stp (cl : Int → Int) : List Int → List Int → List Int
  | ch, [] => ch
  | ch, t :: ts => if cl t ∈ ch.map cl then stp cl ch ts else stp cl (ch ++ [t]) ts
def bf (cl : Int → Int) (row : Int → List Int) : Nat → Nat → List Int → List Int
  | 0, _, ch => ch
  | n + 1, i, ch => match ch[i]? with
    | some v => bf cl row n (i + 1) (stp cl ch (row v))
    | none => ch
theorem stp_pre : ∀ (ts ch : List Int), ∃ r, stp cl ch ts = ch ++ r ∧ ∀ x ∈ r, x ∈ ts
  | [], ch => ⟨[], by simp [stp], fun _ h => nomatch h⟩
  | t :: ts, ch => by
    unfold stp
    split
    · obtain ⟨r, e, h⟩ := stp_pre ts ch
      exact ⟨r, e, fun x hx => List.mem_cons_of_mem _ (h x hx)⟩
    · obtain ⟨r, e, h⟩ := stp_pre ts (ch ++ [t])
      exact ⟨t :: r, by rw [e]; simp, fun x hx => by
        rcases List.mem_cons.mp hx with rfl | hx
        · exact List.mem_cons_self ..
        · exact List.mem_cons_of_mem _ (h x hx)⟩
theorem stp_nd : ∀ (ts ch : List Int), (ch.map cl).Nodup → ((stp cl ch ts).map cl).Nodup
  | [], ch, h => h
  | t :: ts, ch, h => by
    unfold stp
    split
    · exact stp_nd ts ch h
    · rename_i c
      exact stp_nd ts (ch ++ [t]) (by rw [List.map_append]; exact nodup_snoc h c)
theorem stp_has : ∀ (ts ch : List Int), ∀ t ∈ ts, cl t ∈ (stp cl ch ts).map cl
  | u :: ts, ch, t, ht => by
    unfold stp
    have old : ∀ (ch : List Int) x, x ∈ ch.map cl → x ∈ (stp cl ch ts).map cl := fun ch x hx => by
      obtain ⟨r, e, _⟩ := stp_pre (cl := cl) ts ch
      rw [e, List.map_append]
      exact List.mem_append_left _ hx
    rcases List.mem_cons.mp ht with rfl | ht
    · split
      · rename_i c
        exact old _ _ c
      · exact old _ _ (by simp)
    · split
      · exact stp_has ts ch t ht
      · exact stp_has ts _ t ht
theorem bf_pre : ∀ (n i : Nat) (ch : List Int), ∃ r, bf cl row n i ch = ch ++ r
  | 0, _, ch => ⟨[], by simp [bf]⟩
  | n + 1, i, ch => by
    unfold bf
    split
    · rename_i v _
      obtain ⟨r, e, _⟩ := stp_pre (cl := cl) (row v) ch
      obtain ⟨r2, e2⟩ := bf_pre n (i + 1) (stp cl ch (row v))
      exact ⟨r ++ r2, by rw [e2, e]; simp⟩
    · exact ⟨[], by simp⟩
structure Bf (cl : Int → Int) (row : Int → List Int) (N : Nat) (i : Nat) (ch : List Int) : Prop where
  nd : (ch.map cl).Nodup
  rng : ∀ v ∈ ch, 0 ≤ v ∧ v < (N : Int)
  done : ∀ (k : Nat) v, k < i → ch[k]? = some v → ∀ t ∈ row v, cl t ∈ ch.map cl
theorem Bf.len {N i : Nat} {ch : List Int} (b : Bf cl row N i ch) : ch.length ≤ N := by
  have nd : ch.Nodup := nd_of_map b.nd
  have := nodup_len (l2 := (List.range N).map fun k : Nat => (k : Int)) nd fun v hv => by
    have := b.rng v hv
    exact List.mem_map.mpr ⟨v.toNat, List.mem_range.mpr (by omega), by omega⟩
  simpa using this
theorem Bf.step {N i : Nat} {ch : List Int} {v : Int} (b : Bf cl row N i ch) (hv : ch[i]? = some v) (hr : ∀ t ∈ row v, 0 ≤ t ∧ t < (N : Int)) : Bf cl row N (i + 1) (stp cl ch (row v)) := by
  obtain ⟨r, e, hx⟩ := stp_pre (cl := cl) (row v) ch
  refine ⟨stp_nd _ _ b.nd, fun w hw => ?_, fun k w hk hw t ht => ?_⟩
  · rw [e] at hw
    rcases List.mem_append.mp hw with hw | hw
    · exact b.rng w hw
    · exact hr w (hx w hw)
  · by_cases c : k = i
    · have : w = v := by
        rw [c, e, List.getElem?_append_left (List.getElem?_eq_some_iff.mp hv).1, hv] at hw
        exact (Option.some.inj hw).symm
      subst this
      exact stp_has _ _ t ht
    · have hl := (List.getElem?_eq_some_iff.mp hv).1
      rw [e, List.getElem?_append_left (by omega)] at hw
      have := b.done k w (by omega) hw t ht
      rw [e, List.map_append]
      exact List.mem_append_left _ this
theorem Bf.fin {N : Nat} (hr : ∀ v, 0 ≤ v ∧ v < (N : Int) → ∀ t ∈ row v, 0 ≤ t ∧ t < (N : Int)) : ∀ (n i : Nat) (ch : List Int), Bf cl row N i ch → N ≤ n + i → i ≤ ch.length → Bf cl row N (bf cl row n i ch).length (bf cl row n i ch)
  | 0, i, ch, b, hn, hi => by
    have := b.len
    unfold bf
    rwa [show ch.length = i by omega]
  | n + 1, i, ch, b, hn, hi => by
    unfold bf
    split
    · rename_i v hv
      have b2 := b.step hv (hr v (b.rng v (List.mem_of_getElem? hv)))
      refine Bf.fin hr n (i + 1) _ b2 (by omega) ?_
      obtain ⟨r, e, _⟩ := stp_pre (cl := cl) (row v) ch
      have := (List.getElem?_eq_some_iff.mp hv).1
      rw [e, List.length_append]; omega
    · rename_i hv
      have : ch.length ≤ i := by
        apply Classical.byContradiction
        intro c
        rw [List.getElem?_eq_getElem (by omega)] at hv
        cases hv
      rwa [show ch.length = i by omega]
theorem stp_sim (ρ : Int → Int → Prop) (hc : ∀ v v' u u', ρ v v' → ρ u u' → (cl v = cl u ↔ cl' v' = cl' u')) : ∀ (ts ts' ch ch' : List Int), Fa2 ρ ts ts' → Fa2 ρ ch ch' → Fa2 ρ (stp cl ch ts) (stp cl' ch' ts')
  | _, _, ch, ch', .nil, k => k
  | _, _, ch, ch', .cons (x := t) (y := t') (xs := ts) (ys := ts') r q, k => by
    have e : cl t ∈ ch.map cl ↔ cl' t' ∈ ch'.map cl' := by
      clear q
      induction k with
      | nil => simp
      | cons h _ ih =>
        rw [List.map_cons, List.map_cons, List.mem_cons, List.mem_cons, ih, hc _ _ _ _ r h]
    unfold stp
    by_cases c : cl t ∈ ch.map cl
    · rw [if_pos c, if_pos (e.mp c)]
      exact stp_sim ρ hc ts ts' ch ch' q k
    · rw [if_neg c, if_neg (fun z => c (e.mpr z))]
      exact stp_sim ρ hc ts ts' _ _ q (k.snoc r)
theorem bf_sim (ρ : Int → Int → Prop) (hc : ∀ v v' u u', ρ v v' → ρ u u' → (cl v = cl u ↔ cl' v' = cl' u')) (hr : ∀ v v', ρ v v' → Fa2 ρ (row v) (row' v')) : ∀ (n i : Nat) (ch ch' : List Int), Fa2 ρ ch ch' → Fa2 ρ (bf cl row n i ch) (bf cl' row' n i ch')
  | 0, _, ch, ch', k => k
  | n + 1, i, ch, ch', k => by
    unfold bf
    cases e : ch[i]? with
    | none =>
      have : ch'[i]? = none := by
        rw [List.getElem?_eq_none_iff] at e ⊢
        rw [← k.len]; exact e
      rw [this]
      exact k
    | some v =>
      obtain ⟨v', e', r⟩ := k.get e
      rw [e']
      exact bf_sim ρ hc hr n (i + 1) _ _ (stp_sim ρ hc _ _ _ _ (hr v v' r) k)
end
section
variable {α : Type} [DecidableEq α]
end
end Gr
set_option Elab.async false
set_option linter.all false
set_option maxRecDepth 100000
namespace Gr
def clf (cs : List Int) (t : Int) : Int := cs.getD t.toNat 0
def rwf (g : List (List Int)) (v : Int) : List Int := g.getD v.toNat []
theorem Fa2.imp {α β γ : Type} {R : α → β → Prop} {Q : α → γ → Prop} {f : β → γ} (h : ∀ x y, R x y → Q x (f y)) : ∀ {xs : List α} {ys : List β}, Fa2 R xs ys → Fa2 Q xs (ys.map f)
  | _, _, .nil => .nil
  | _, _, .cons r t => .cons (h _ _ r) (t.imp h)
theorem idxG_ker {f h : Int → Int} {t : Int} : ∀ {ch : List Int}, (∀ u ∈ ch, f u = f t ↔ h u = h t) → idxG (f t) (ch.map f) = idxG (h t) (ch.map h)
  | [], _ => rfl
  | u :: ch, k => by
    rw [List.map_cons, List.map_cons]
    unfold idxG
    have e := k u (List.mem_cons_self ..)
    by_cases c : f u = f t
    · rw [if_pos c, if_pos (e.mp c)]
    · rw [if_neg c, if_neg (fun z => c (e.mpr z)), idxG_ker fun u hu => k u (List.mem_cons_of_mem _ hu)]
structure Qc {β : Type} [DecidableEq β] (marks : List β) (g : List (List Int)) (st : Int) (cs ch : List Int) : Prop where
  hm : marks.length = g.length
  hg : ∀ r ∈ g, ∀ t ∈ r, 0 ≤ t ∧ t < g.length
  hs : 0 ≤ st ∧ st < g.length
  hl : cs.length = g.length
  ker : ∀ j k : Nat, j < g.length → k < g.length → (cs.getD j 0 = cs.getD k 0 ↔ Al marks g j k)
  ech : ch = bf (clf cs) (rwf g) g.length 0 [st]
def qrows (cs : List Int) (g : List (List Int)) (ch : List Int) : List (List Int) := ch.map fun v => (rwf g v).map fun t => ((idxG (clf cs t) (ch.map (clf cs)) : Nat) : Int)
section
variable {β : Type} [DecidableEq β] {marks : List β} {g : List (List Int)} {st : Int} {cs ch : List Int} (q : Qc marks g st cs ch)
include q
theorem Qc.pos : 0 < g.length := by have := q.hs; omega
theorem Qc.rin {v t : Int} (h : t ∈ rwf g v) : 0 ≤ t ∧ t < g.length := row_in q.hg h
theorem Qc.bf : Bf (clf cs) (rwf g) g.length ch.length ch := by
  have b0 : Bf (clf cs) (rwf g) g.length 0 [st] := ⟨by simp, fun v hv => by rw [List.mem_singleton.mp hv]; exact q.hs, fun k v hk => by omega⟩
  have := Bf.fin (fun v _ t ht => q.rin ht) g.length 0 [st] b0 (by omega) (by omega)
  rwa [← q.ech] at this
theorem Qc.cls {t u : Int} (ht : 0 ≤ t ∧ t < g.length) (hu : 0 ≤ u ∧ u < g.length) : clf cs t = clf cs u ↔ Al marks g t.toNat u.toNat := q.ker _ _ (by omega) (by omega)
theorem Qc.has {v : Int} (hv : v ∈ ch) {t : Int} (ht : t ∈ rwf g v) : clf cs t ∈ ch.map (clf cs) := by
  obtain ⟨i, hi, e⟩ := List.getElem_of_mem hv
  exact q.bf.done i v hi (by rw [List.getElem?_eq_getElem hi, e]) t ht
theorem Qc.st0 : ch[0]? = some st := by
  obtain ⟨r, e⟩ := bf_pre (cl := clf cs) (row := rwf g) g.length 0 [st]
  rw [q.ech, e]; rfl
theorem Qc.rows {v u : Int} (hv : 0 ≤ v ∧ v < g.length) (hu : 0 ≤ u ∧ u < g.length) (h : Al marks g v.toNat u.toNat) : Fa2 (fun (t s : Int) => (0 ≤ t ∧ t < (g.length : Int)) ∧ (0 ≤ s ∧ s < (g.length : Int)) ∧ t ∈ rwf g v ∧ s ∈ rwf g u ∧ Al marks g t.toNat s.toNat) (rwf g v) (rwf g u) := by
  obtain ⟨l, k⟩ := al_row q.hm q.hg q.pos (by omega) (by omega) h
  refine Fa2.of_get l fun i t s ht hs => ?_
  have mt := List.mem_of_getElem? ht
  have ms := List.mem_of_getElem? hs
  exact ⟨q.rin mt, q.rin ms, mt, ms, k i t s ht hs⟩
theorem Qc.rep {t : Int} (h : clf cs t ∈ ch.map (clf cs)) : ∃ u, ch[idxG (clf cs t) (ch.map (clf cs))]? = some u ∧ clf cs u = clf cs t := by
  have e := idxG_get h
  rw [List.getElem?_map] at e
  cases e1 : ch[idxG (clf cs t) (ch.map (clf cs))]? with
  | none => rw [e1] at e; cases e
  | some u => rw [e1] at e; exact ⟨u, rfl, by simpa using e⟩
theorem Qc.first {fi : Int → Int} (h1 : ∀ v : Int, (0 ≤ v ∧ v < g.length) → (0 ≤ fi v ∧ fi v < g.length) ∧ Al marks g v.toNat (fi v).toNat) (h2 : ∀ v u : Int, (0 ≤ v ∧ v < g.length) → (0 ≤ u ∧ u < g.length) → (fi v = fi u ↔ Al marks g v.toNat u.toNat)) :
    Gr.bf (fun v => v) (fun v => (rwf g v).map fi) g.length 0 [fi st] = ch.map fi ∧ ∀ v ∈ ch, ((rwf g (fi v)).map fun t => ((idxG (fi t) (ch.map fi) : Nat) : Int)) = (rwf g v).map fun t => ((idxG (clf cs t) (ch.map (clf cs)) : Nat) : Int) := by
  have sim := bf_sim (cl := clf cs) (cl' := fun v => v) (row := rwf g) (row' := fun v => (rwf g v).map fi) (fun v v' => (0 ≤ v ∧ v < (g.length : Int)) ∧ v' = fi v) (fun v v' u u' a b => by
    obtain ⟨a1, rfl⟩ := a
    obtain ⟨b1, rfl⟩ := b
    rw [q.cls a1 b1]
    exact (h2 v u a1 b1).symm) (fun v v' a => by
    obtain ⟨a1, rfl⟩ := a
    obtain ⟨f1, f2⟩ := h1 v a1
    exact (q.rows a1 f1 f2).imp fun t s z => ⟨z.1, ((h2 _ _ z.1 z.2.1).mpr z.2.2.2.2).symm⟩) g.length 0 [st] [fi st] (.cons ⟨q.hs, rfl⟩ .nil)
  rw [← q.ech] at sim
  constructor
  · have e : ch.map fi = (Gr.bf (fun v => v) (fun v => (rwf g v).map fi) g.length 0 [fi st]).map (fun v => v) := sim.map_eq fun x y r => r.2.symm
    rw [List.map_id'] at e
    exact e.symm
  · intro v hv
    have vr := q.bf.rng v hv
    obtain ⟨f1, f2⟩ := h1 v vr
    have r := q.rows vr f1 f2
    refine (r.map_eq fun t s z => ?_).symm
    have e1 : idxG (clf cs t) (ch.map (clf cs)) = idxG (fi t) (ch.map fi) := idxG_ker fun u hu => by
      have ur := q.bf.rng u hu
      rw [q.cls ur z.1, h2 u t ur z.1]
    rw [e1, (h2 _ _ z.1 z.2.1).mpr z.2.2.2.2]
end
end Gr
set_option Elab.async false
set_option linter.all false
set_option maxRecDepth 100000
namespace Gr
open Mn
section
variable {β : Type} [DecidableEq β] (marks : List β) (g : List (List Int))
instance decEqn {n j k : Nat} : Decidable (Eq' marks g n j k) := inferInstanceAs (Decidable (_ = _))
instance decAl {j k : Nat} : Decidable (Al marks g j k) := inferInstanceAs (Decidable (Eq' marks g g.length j k))
def tg (j i : Nat) : Nat := ((g.getD j []).getD i 0).toNat
def rwB (n j : Nat) : List Bool := (List.range g.length).map fun k => decide (Eq' marks g n j k)
variable {marks g}
theorem rwB_len {n j : Nat} : (rwB marks g n j).length = g.length := by unfold rwB; simp
theorem rwB_get {n j k : Nat} (h : k < g.length) : (rwB marks g n j)[k]? = some (decide (Eq' marks g n j k)) := by unfold rwB; rw [List.getElem?_map, List.getElem?_range h]; rfl
variable (marks g)
def fiB (n : Nat) (v : Int) : Int := ((idxB true (rwB marks g n v.toNat) : Nat) : Int)
variable {marks g}
section
variable (hm : marks.length = g.length) (hg : ∀ r ∈ g, ∀ t ∈ r, 0 ≤ t ∧ t < g.length) {n : Nat} (hn : g.length ≤ n)
include hm hg hn
theorem rwB_mem {v : Int} (h : 0 ≤ v ∧ v < g.length) : true ∈ rwB marks g n v.toNat :=
  List.mem_of_getElem? (i := v.toNat) (by rw [rwB_get (by omega)]; exact congrArg some (decide_eq_true rfl))
theorem fiB_1 {v : Int} (h : 0 ≤ v ∧ v < g.length) : (0 ≤ fiB marks g n v ∧ fiB marks g n v < g.length) ∧ Al marks g v.toNat (fiB marks g n v).toNat := by
  have e := idxB_get (rwB_mem hm hg hn h)
  have l := (List.getElem?_eq_some_iff.mp e).1
  rw [rwB_len] at l
  rw [rwB_get l] at e
  have a := of_decide_eq_true (Option.some.inj e)
  unfold fiB
  refine ⟨⟨by omega, by omega⟩, ?_⟩
  rw [Int.toNat_natCast]
  exact (al_iff hm hg (by omega) hn (by omega) l).mp a
theorem fiB_2 {v u : Int} (h : 0 ≤ v ∧ v < g.length) (h' : 0 ≤ u ∧ u < g.length) : fiB marks g n v = fiB marks g n u ↔ Al marks g v.toNat u.toNat := by
  constructor
  · intro e
    have a := (fiB_1 hm hg hn h).2
    have b := (fiB_1 hm hg hn h').2
    rw [← e] at b
    exact a.trans b.symm
  · intro a
    have e := (al_iff hm hg (by omega) hn (by omega) (by omega)).mpr a
    have : rwB marks g n v.toNat = rwB marks g n u.toNat := List.map_congr_left fun k _ => by
      refine decide_eq_decide.mpr ⟨fun z => e.symm.trans z, fun z => e.trans z⟩
    unfold fiB
    rw [this]
end
end
theorem Bf.more {cl : Int → Int} {row : Int → List Int} {N j : Nat} {ch : List Int} (b : Bf cl row N j ch) (hv : ch.length ≤ j) : Bf cl row N (j + 1) ch := ⟨b.nd, b.rng, fun k v hk e => b.done k v (by have := (List.getElem?_eq_some_iff.mp e).1; omega) e⟩
def lrows (fi : Int → Int) (g : List (List Int)) (o : List Int) : List (List Int) := o.map fun v => (rwf g v).map fun t => ((idxG (fi t) o : Nat) : Int)
theorem Qc.least {β : Type} [DecidableEq β] {marks : List β} {g : List (List Int)} {st : Int} {cs ch : List Int} (q : Qc marks g st cs ch) {n : Nat} (hn : g.length ≤ n) : Gr.bf (fun v => v) (fun v => (rwf g v).map (fiB marks g n)) g.length 0 [fiB marks g n st] = ch.map (fiB marks g n) ∧ lrows (fiB marks g n) g (ch.map (fiB marks g n)) = qrows cs g ch ∧ ∀ (γ : Type) (d : γ) (f : List γ), (∀ v u : Int, (0 ≤ v ∧ v < g.length) → (0 ≤ u ∧ u < g.length) → marks[v.toNat]? = marks[u.toNat]? → f.getD v.toNat d = f.getD u.toNat d) → (ch.map (fiB marks g n)).map (fun v => f.getD v.toNat d) = ch.map fun v => f.getD v.toNat d := by
  have h1 := fun v h => fiB_1 q.hm q.hg hn (v := v) h
  have h2 := fun v u h h' => fiB_2 q.hm q.hg hn (v := v) (u := u) h h'
  obtain ⟨a, b⟩ := q.first h1 h2
  refine ⟨a, ?_, fun γ d f hf => ?_⟩
  · unfold lrows qrows
    rw [List.map_map]
    exact List.map_congr_left fun v hv => b v hv
  · rw [List.map_map]
    refine List.map_congr_left fun v hv => ?_
    have vr := q.bf.rng v hv
    obtain ⟨r, al⟩ := h1 v vr
    exact (hf v _ vr r (al_mark q.hm q.hg q.pos (by omega) (by omega) al)).symm
end Gr
set_option Elab.async false
set_option linter.all false
set_option maxRecDepth 100000
set_option maxHeartbeats 4000000
namespace K44
open PySem PySem.Spec PyProof.Rows L2 Mn Ty
theorem take_ok {ds : List Int} {k : Int} (hk : 0 < k) : Ev (F_law_take (ds, ()) (k, ())) (fun r _ => 0 ≤ r ∧ r < k) (fun _ _ => False) := by
  unfold F_law_take
  apply Ev_yRun
  simp only [Ev_ok, Ev_exc, Os_some, Os_if, Ev_xC, Ev_xV, Ev_xN, Ev_xYes, Ev_x1, Ev_x1o, Ev_x2, Ev_x2o, Ev_xIxV, Ev_xIf, Ev_xAnd, Ev_xOr, Ev_xNot, Ev_xCs, Ev_xUn, Ev_xCh, Ev_xSl, Ev_xMeth, Ev_xCall, Ev_xMake, Ev_xComp, Po_nx, Po_yNil, Po_ySeq, Po_ySet, Po_yRet, Po_yRetC, Po_yExpr, Po_yIf, Po_yBreak, Po_yCont, Po_yRaise, Po_yFor, Po_ySetI, Po_yAugI, Po_yTry, gApp, gCat, gMul, gDiv, gMod, gPow, gRep, id, decide_eq_true_eq, Bool.not_eq_true', decide_eq_false_iff_not, Bool.false_eq_true, if_false, if_true, ite_true, ite_false]
  by_cases h : ds.length = 0
  · simp [h, Ev, hk]
  · obtain ⟨zs, x, rfl⟩ := List.eq_nil_or_concat ds |>.resolve_left (fun z => h (by rw [z]; rfl))
    have e1 : ¬ (((zs ++ [x]).length : Int) = 0) := by simp; omega
    simp [e1, gPop, Os, hk]
    exact fun _ => ⟨Int.emod_nonneg _ (by omega), Int.emod_lt_of_pos _ hk⟩
theorem draws_ok {ns : List Int} {n : Int} (hl : ns.length ≤ 63) (h0 : 0 ≤ n) (hn : n ≤ 1000) : Ev (F_law_draws () (ns, n, ())) (fun _ _ => True) (fun _ _ => False) := by
  unfold F_law_draws
  apply Ev_yRun
  simp only [Ev_ok, Ev_exc, Os_some, Os_if, Ev_xC, Ev_xV, Ev_xN, Ev_xYes, Ev_x1, Ev_x1o, Ev_x2, Ev_x2o, Ev_xIxV, Ev_xIf, Ev_xAnd, Ev_xOr, Ev_xNot, Ev_xCs, Ev_xUn, Ev_xCh, Ev_xSl, Ev_xMeth, Ev_xCall, Ev_xMake, Ev_xComp, Po_nx, Po_yNil, Po_ySeq, Po_ySet, Po_yRet, Po_yRetC, Po_yExpr, Po_yIf, Po_yBreak, Po_yCont, Po_yRaise, Po_yFor, Po_ySetI, Po_yAugI, Po_yTry, gApp, gCat, gMul, gDiv, gMod, gPow, gRep, id, decide_eq_true_eq, Bool.not_eq_true', decide_eq_false_iff_not, Bool.false_eq_true, if_false, if_true, ite_true, ite_false]
  rw [rng1 (by omega) (by omega)]
  simp only [Ev_ok, Ev_exc, Os_some, Os_if, Ev_xC, Ev_xV, Ev_xN, Ev_xYes, Ev_x1, Ev_x1o, Ev_x2, Ev_x2o, Ev_xIxV, Ev_xIf, Ev_xAnd, Ev_xOr, Ev_xNot, Ev_xCs, Ev_xUn, Ev_xCh, Ev_xSl, Ev_xMeth, Ev_xCall, Ev_xMake, Ev_xComp, Po_nx, Po_yNil, Po_ySeq, Po_ySet, Po_yRet, Po_yRetC, Po_yExpr, Po_yIf, Po_yBreak, Po_yCont, Po_yRaise, Po_yFor, Po_ySetI, Po_yAugI, Po_yTry, gApp, gCat, gMul, gDiv, gMod, gPow, gRep, id, decide_eq_true_eq, Bool.not_eq_true', decide_eq_false_iff_not, Bool.false_eq_true, if_false, if_true, ite_true, ite_false]
  have st : ∀ (s : V_law_draws), 0 < s.lcells.length → s.lcells.length ≤ 63 → s.lfound = [] → s.lmixed = 12345 → (0 < s.lcells.length ∧ s.lcells.length ≤ 63) ∧ s.lfound.length = 0 ∧ 0 ≤ s.lmixed ∧ s.lmixed < 2147483647 := fun s h1 h2 h3 h4 => ⟨⟨h1, h2⟩, by rw [h3]; rfl, by rw [h4]; decide, by rw [h4]; decide⟩
  split
  all_goals refine po_forL (fun j s => (0 < s.lcells.length ∧ s.lcells.length ≤ 63) ∧ s.lfound.length = j ∧ 0 ≤ s.lmixed ∧ s.lmixed < 2147483647) (st _ ?_ ?_ rfl rfl) ?_ ?_
  any_goals first | exact (by decide : 0 < [(7 : Int)].length) | exact (by decide : [(7 : Int)].length ≤ 63) | exact hl | (show 0 < ns.length; omega)
  all_goals first
    | (intro s hs; simp [Os, gRev]; done)
    | skip
  all_goals
    rintro j x s hx ⟨⟨c1, c2⟩, f1, m1, m2⟩
    obtain ⟨rfl, hj⟩ := rng_get hx
    rw [Int.zero_add]
    simp only [Ev_ok, Ev_exc, Os_some, Os_if, Ev_xC, Ev_xV, Ev_xN, Ev_xYes, Ev_x1, Ev_x1o, Ev_x2, Ev_x2o, Ev_xIxV, Ev_xIf, Ev_xAnd, Ev_xOr, Ev_xNot, Ev_xCs, Ev_xUn, Ev_xCh, Ev_xSl, Ev_xMeth, Ev_xCall, Ev_xMake, Ev_xComp, Po_nx, Po_yNil, Po_ySeq, Po_ySet, Po_yRet, Po_yRetC, Po_yExpr, Po_yIf, Po_yBreak, Po_yCont, Po_yRaise, Po_yFor, Po_ySetI, Po_yAugI, Po_yTry, gApp, gCat, gMul, gDiv, gMod, gPow, gRep, id, decide_eq_true_eq, Bool.not_eq_true', decide_eq_false_iff_not, Bool.false_eq_true, if_false, if_true, ite_true, ite_false]
    have i1 := Int.emod_nonneg (j : Int) (b := (s.lcells.length : Int)) (by omega)
    have i2 := Int.emod_lt_of_pos (j : Int) (b := (s.lcells.length : Int)) (by omega)
    refine ⟨by omega, Os_intro (gIx_lt i1 i2) ?_⟩
    generalize s.lcells[((j : Int) % s.lcells.length).toNat]'_ = cell
    refine ⟨cMul_r (by decide) (by decide), by decide, cMul_r (by decide) (by decide), cMul_r (by decide) (by decide), by decide, ?_⟩
    have q1 := Int.emod_nonneg (s.lmixed * 48271 + cell % 1000003 * 69621 + j * 7919 + 11) (b := 2147483647) (by decide)
    have q2 := Int.emod_lt_of_pos (s.lmixed * 48271 + cell % 1000003 * 69621 + j * 7919 + 11) (b := 2147483647) (by decide)
    generalize (s.lmixed * 48271 + cell % 1000003 * 69621 + j * 7919 + 11) % 2147483647 = mixed at *
    refine ⟨cMul_r (by omega) (by omega), cMul_r (by omega) (by omega), by decide, by decide, ?_⟩
    have z1 : s.lfound.length < sizeLine := by rw [sizeLine_eq]; omega
    split
    · refine ⟨by decide, z1, by decide, Os_intro (gSetI_z i1 i2) ?_⟩
      refine ⟨⟨?_, ?_⟩, ?_, q1, q2⟩
      · show 0 < (s.lcells.set _ _).length
        rw [List.length_set]; exact c1
      · show (s.lcells.set _ _).length ≤ 63
        rw [List.length_set]; exact c2
      · show (s.lfound ++ [_]).length = _
        rw [List.length_append, f1]; rfl
    · refine ⟨by decide, z1, ⟨c1, c2⟩, ?_, q1, q2⟩
      show (s.lfound ++ [_]).length = _
      rw [List.length_append, f1]; rfl
theorem below_iff {xs : List Int} {n : Int} : Ev (F_all_below () (xs, n, ())) (fun r _ => r = true ↔ ∀ x ∈ xs, 0 ≤ x ∧ x < n) (fun _ _ => False) := by
  unfold F_all_below
  apply Ev_yRun
  simp only [Ev_ok, Ev_exc, Os_some, Os_if, Ev_xC, Ev_xV, Ev_xN, Ev_xYes, Ev_x1, Ev_x1o, Ev_x2, Ev_x2o, Ev_xIxV, Ev_xIf, Ev_xAnd, Ev_xOr, Ev_xNot, Ev_xCs, Ev_xUn, Ev_xCh, Ev_xSl, Ev_xMeth, Ev_xCall, Ev_xMake, Ev_xComp, Po_nx, Po_yNil, Po_ySeq, Po_ySet, Po_yRet, Po_yRetC, Po_yExpr, Po_yIf, Po_yBreak, Po_yCont, Po_yRaise, Po_yFor, Po_ySetI, Po_yAugI, Po_yTry, gApp, gCat, gMul, gDiv, gMod, gPow, gRep, id, decide_eq_true_eq, Bool.not_eq_true', decide_eq_false_iff_not, Bool.false_eq_true, if_false, if_true, ite_true, ite_false]
  refine po_forP (fun ys s => s.limit = n ∧ ∀ x ∈ ys, 0 ≤ x ∧ x < n) ⟨rfl, fun x h => (nomatch h)⟩ ?_ ?_
  · rintro ys zs x s e1 ⟨h1, h2⟩
    simp only [Ev_ok, Ev_exc, Os_some, Os_if, Ev_xC, Ev_xV, Ev_xN, Ev_xYes, Ev_x1, Ev_x1o, Ev_x2, Ev_x2o, Ev_xIxV, Ev_xIf, Ev_xAnd, Ev_xOr, Ev_xNot, Ev_xCs, Ev_xUn, Ev_xCh, Ev_xSl, Ev_xMeth, Ev_xCall, Ev_xMake, Ev_xComp, Po_nx, Po_yNil, Po_ySeq, Po_ySet, Po_yRet, Po_yRetC, Po_yExpr, Po_yIf, Po_yBreak, Po_yCont, Po_yRaise, Po_yFor, Po_ySetI, Po_yAugI, Po_yTry, gApp, gCat, gMul, gDiv, gMod, gPow, gRep, id, decide_eq_true_eq, Bool.not_eq_true', decide_eq_false_iff_not, Bool.false_eq_true, if_false, if_true, ite_true, ite_false]
    rw [show (s.put_number x).limit = n from h1]
    by_cases c : x < 0
    · rw [if_pos c]
      exact ⟨fun h => (nomatch h), fun h => by have := h x (by rw [e1]; simp); omega⟩
    · rw [if_neg c]
      by_cases c2 : n ≤ x
      · rw [if_pos c2]
        exact ⟨fun h => (nomatch h), fun h => by have := h x (by rw [e1]; simp); omega⟩
      · rw [if_neg c2]
        refine ⟨by (first | assumption | rfl | trivial), fun y hy => ?_⟩
        rcases List.mem_append.mp hy with hy | hy
        · exact h2 y hy
        · rw [List.mem_singleton.mp hy]; omega
  · rintro s ⟨_, h2⟩
    exact ⟨fun _ => h2, fun _ => by (first | assumption | rfl | trivial)⟩
structure VM (i o L : Int) (op : List Int) (rows : List (List (Int × Int))) : Prop where
  i1 : 1 ≤ i
  o1 : 1 ≤ o
  L0 : -3 ≤ L ∧ L ≤ 2
  ol : (op.length : Int) = max 0 (-L)
  n1 : 1 ≤ rows.length
  op : ∀ x ∈ op, 0 ≤ x ∧ x < o
  r : ∀ row ∈ rows, (row.length : Int) = i ∧ (∀ x ∈ row, 0 ≤ x.1 ∧ x.1 < (rows.length : Int)) ∧ ∀ x ∈ row, 0 ≤ x.2 ∧ x.2 < o
theorem mem_map1 {row : List (Int × Int)} {n : Int} : (∀ x ∈ row.map (fun x => x.1), 0 ≤ x ∧ x < n) ↔ ∀ x ∈ row, 0 ≤ x.1 ∧ x.1 < n := ⟨fun h x hx => h _ (List.mem_map.mpr ⟨x, hx, rfl⟩), fun h x hx => by obtain ⟨y, hy, rfl⟩ := List.mem_map.mp hx; exact h y hy⟩
theorem mem_map2 {row : List (Int × Int)} {n : Int} : (∀ x ∈ row.map (fun x => x.2), 0 ≤ x ∧ x < n) ↔ ∀ x ∈ row, 0 ≤ x.2 ∧ x.2 < n := ⟨fun h x hx => h _ (List.mem_map.mpr ⟨x, hx, rfl⟩), fun h x hx => by obtain ⟨y, hy, rfl⟩ := List.mem_map.mp hx; exact h y hy⟩
theorem machine_iff {i o L : Int} {op : List Int} {rows : List (List (Int × Int))} (hz : rows.length ≤ 1000) (hz2 : ∀ r ∈ rows, r.length ≤ 1000) : Ev (F_Machine_init (i, o, L, op, rows, ())) (fun A _ => A = ⟨i, o, L, op, rows⟩ ∧ VM i o L op rows) (fun C _ => C = "InvalidMachine" ∧ ¬ VM i o L op rows) := by
  unfold F_Machine_init
  apply Ev_yInit
  simp only [Po_ySeq]
  refine Po.mono (n := fun s => s.inputs = i ∧ s.outputs = o ∧ s.lead = L ∧ s.opening = op ∧ s.rows = rows ∧ (s.valid = true ↔ 1 ≤ i ∧ 1 ≤ o ∧ -3 ≤ L ∧ L ≤ 2)) (r := fun _ _ => False) (b := fun _ => False) (c := fun _ => False) (e := fun _ _ => False) ?_ ?_ (fun _ _ h => h.elim) (fun _ h => h.elim) (fun _ h => h.elim) (fun _ _ h => h.elim)
  · simp only [Ev_ok, Ev_exc, Os_some, Os_if, Ev_xC, Ev_xV, Ev_xN, Ev_xYes, Ev_x1, Ev_x1o, Ev_x2, Ev_x2o, Ev_xIxV, Ev_xIf, Ev_xAnd, Ev_xOr, Ev_xNot, Ev_xCs, Ev_xUn, Ev_xCh, Ev_xSl, Ev_xMeth, Ev_xCall, Ev_xMake, Ev_xComp, Po_nx, Po_yNil, Po_ySeq, Po_ySet, Po_yRet, Po_yRetC, Po_yExpr, Po_yIf, Po_yBreak, Po_yCont, Po_yRaise, Po_yFor, Po_ySetI, Po_yAugI, Po_yTry, gApp, gCat, gMul, gDiv, gMod, gPow, gRep, id, decide_eq_true_eq, Bool.not_eq_true', decide_eq_false_iff_not, Bool.false_eq_true, if_false, if_true, ite_true, ite_false]
    by_cases c1 : 1 ≤ i
    · rw [if_pos c1]
      by_cases c2 : 1 ≤ o
      · rw [if_pos c2]
        by_cases c3 : -3 ≤ L
        · rw [if_pos c3]
          exact ⟨by (first | assumption | rfl | trivial), by (first | assumption | rfl | trivial), by (first | assumption | rfl | trivial), by (first | assumption | rfl | trivial), by (first | assumption | rfl | trivial), by omega⟩
        · rw [if_neg c3]
          exact ⟨by (first | assumption | rfl | trivial), by (first | assumption | rfl | trivial), by (first | assumption | rfl | trivial), by (first | assumption | rfl | trivial), by (first | assumption | rfl | trivial), fun h => (nomatch h), fun h => by omega⟩
      · rw [if_neg c2]
        exact ⟨by (first | assumption | rfl | trivial), by (first | assumption | rfl | trivial), by (first | assumption | rfl | trivial), by (first | assumption | rfl | trivial), by (first | assumption | rfl | trivial), fun h => (nomatch h), fun h => by omega⟩
    · rw [if_neg c1]
      exact ⟨by (first | assumption | rfl | trivial), by (first | assumption | rfl | trivial), by (first | assumption | rfl | trivial), by (first | assumption | rfl | trivial), by (first | assumption | rfl | trivial), fun h => (nomatch h), fun h => by omega⟩
  rintro s ⟨h1, h2, h3, h4, h5, hv⟩
  refine Po.mono (n := fun s => s.inputs = i ∧ s.outputs = o ∧ s.lead = L ∧ s.opening = op ∧ s.rows = rows ∧ (s.valid = true ↔ (1 ≤ i ∧ 1 ≤ o ∧ -3 ≤ L ∧ L ≤ 2) ∧ (op.length : Int) = max 0 (-L) ∧ 1 ≤ rows.length)) (r := fun _ _ => False) (b := fun _ => False) (c := fun _ => False) (e := fun _ _ => False) ?_ ?_ (fun _ _ h => h.elim) (fun _ h => h.elim) (fun _ h => h.elim) (fun _ _ h => h.elim)
  · simp only [Ev_ok, Ev_exc, Os_some, Os_if, Ev_xC, Ev_xV, Ev_xN, Ev_xYes, Ev_x1, Ev_x1o, Ev_x2, Ev_x2o, Ev_xIxV, Ev_xIf, Ev_xAnd, Ev_xOr, Ev_xNot, Ev_xCs, Ev_xUn, Ev_xCh, Ev_xSl, Ev_xMeth, Ev_xCall, Ev_xMake, Ev_xComp, Po_nx, Po_yNil, Po_ySeq, Po_ySet, Po_yRet, Po_yRetC, Po_yExpr, Po_yIf, Po_yBreak, Po_yCont, Po_yRaise, Po_yFor, Po_ySetI, Po_yAugI, Po_yTry, gApp, gCat, gMul, gDiv, gMod, gPow, gRep, id, decide_eq_true_eq, Bool.not_eq_true', decide_eq_false_iff_not, Bool.false_eq_true, if_false, if_true, ite_true, ite_false]
    rw [h3, h4, h5]
    by_cases c1 : s.valid = true
    · rw [if_pos c1]
      by_cases c2 : (op.length : Int) = max 0 (-L)
      · rw [if_pos c2]
        exact ⟨h1, h2, by (first | assumption | rfl | trivial), by (first | assumption | rfl | trivial), by (first | assumption | rfl | trivial), fun h => ⟨hv.mp c1, c2, by omega⟩, fun h => by omega⟩
      · rw [if_neg c2]
        exact ⟨h1, h2, by (first | assumption | rfl | trivial), by (first | assumption | rfl | trivial), by (first | assumption | rfl | trivial), fun h => (nomatch h), fun h => absurd h.2.1 c2⟩
    · rw [if_neg c1]
      exact ⟨h1, h2, by (first | assumption | rfl | trivial), by (first | assumption | rfl | trivial), by (first | assumption | rfl | trivial), fun h => (nomatch h), fun h => absurd (hv.mpr h.1) c1⟩
  rintro s ⟨h1, h2, h3, h4, h5, hv⟩
  refine Po.mono (n := fun s => s.inputs = i ∧ s.outputs = o ∧ s.lead = L ∧ s.opening = op ∧ s.rows = rows ∧ (s.valid = true ↔ ((1 ≤ i ∧ 1 ≤ o ∧ -3 ≤ L ∧ L ≤ 2) ∧ (op.length : Int) = max 0 (-L) ∧ 1 ≤ rows.length) ∧ ∀ x ∈ op, 0 ≤ x ∧ x < o)) (r := fun _ _ => False) (b := fun _ => False) (c := fun _ => False) (e := fun _ _ => False) ?_ ?_ (fun _ _ h => h.elim) (fun _ h => h.elim) (fun _ h => h.elim) (fun _ _ h => h.elim)
  · simp only [Ev_ok, Ev_exc, Os_some, Os_if, Ev_xC, Ev_xV, Ev_xN, Ev_xYes, Ev_x1, Ev_x1o, Ev_x2, Ev_x2o, Ev_xIxV, Ev_xIf, Ev_xAnd, Ev_xOr, Ev_xNot, Ev_xCs, Ev_xUn, Ev_xCh, Ev_xSl, Ev_xMeth, Ev_xCall, Ev_xMake, Ev_xComp, Po_nx, Po_yNil, Po_ySeq, Po_ySet, Po_yRet, Po_yRetC, Po_yExpr, Po_yIf, Po_yBreak, Po_yCont, Po_yRaise, Po_yFor, Po_ySetI, Po_yAugI, Po_yTry, gApp, gCat, gMul, gDiv, gMod, gPow, gRep, id, decide_eq_true_eq, Bool.not_eq_true', decide_eq_false_iff_not, Bool.false_eq_true, if_false, if_true, ite_true, ite_false]
    rw [h4, h2]
    by_cases c1 : s.valid = true
    · rw [if_pos c1]
      rw [Ev_fNox]; refine below_iff.mono ?_
      rintro r _ hr
      exact ⟨h1, by (first | assumption | rfl | trivial), h3, by (first | assumption | rfl | trivial), h5, by show r = true ↔ _; rw [hr]; exact ⟨fun h => ⟨hv.mp c1, h⟩, fun h => h.2⟩⟩
    · rw [if_neg c1]
      exact ⟨h1, by (first | assumption | rfl | trivial), h3, by (first | assumption | rfl | trivial), h5, fun h => (nomatch h), fun h => absurd (hv.mpr h.1) c1⟩
  rintro s ⟨h1, h2, h3, h4, h5, hv⟩
  simp only [Ev_ok, Ev_exc, Os_some, Os_if, Ev_xC, Ev_xV, Ev_xN, Ev_xYes, Ev_x1, Ev_x1o, Ev_x2, Ev_x2o, Ev_xIxV, Ev_xIf, Ev_xAnd, Ev_xOr, Ev_xNot, Ev_xCs, Ev_xUn, Ev_xCh, Ev_xSl, Ev_xMeth, Ev_xCall, Ev_xMake, Ev_xComp, Po_nx, Po_yNil, Po_ySeq, Po_ySet, Po_yRet, Po_yRetC, Po_yExpr, Po_yIf, Po_yBreak, Po_yCont, Po_yRaise, Po_yFor, Po_ySetI, Po_yAugI, Po_yTry, gApp, gCat, gMul, gDiv, gMod, gPow, gRep, id, decide_eq_true_eq, Bool.not_eq_true', decide_eq_false_iff_not, Bool.false_eq_true, if_false, if_true, ite_true, ite_false]
  rw [h5]
  refine po_forP (fun ys s => s.inputs = i ∧ s.outputs = o ∧ s.lead = L ∧ s.opening = op ∧ s.rows = rows ∧ (s.valid = true ↔ (((1 ≤ i ∧ 1 ≤ o ∧ -3 ≤ L ∧ L ≤ 2) ∧ (op.length : Int) = max 0 (-L) ∧ 1 ≤ rows.length) ∧ ∀ x ∈ op, 0 ≤ x ∧ x < o) ∧ ∀ row ∈ ys, (row.length : Int) = i ∧ (∀ x ∈ row, 0 ≤ x.1 ∧ x.1 < (rows.length : Int)) ∧ ∀ x ∈ row, 0 ≤ x.2 ∧ x.2 < o)) ⟨h1, h2, h3, h4, h5, by rw [hv]; exact ⟨fun h => ⟨h, fun r hr => (nomatch hr)⟩, fun h => h.1⟩⟩ ?_ ?_
  · rintro ys zs row s e1 ⟨h1, h2, h3, h4, h5, hv⟩
    have hrl := hz2 row (by rw [show rows = ys ++ row :: zs from e1]; simp)
    have no : (¬ (s.valid = true) ∨ ¬ ((row.length : Int) = i ∧ (∀ x ∈ row, 0 ≤ x.1 ∧ x.1 < (rows.length : Int)) ∧ ∀ x ∈ row, 0 ≤ x.2 ∧ x.2 < o)) → ¬ ((((1 ≤ i ∧ 1 ≤ o ∧ -3 ≤ L ∧ L ≤ 2) ∧ (op.length : Int) = max 0 (-L) ∧ 1 ≤ rows.length) ∧ ∀ x ∈ op, 0 ≤ x ∧ x < o) ∧ ∀ r ∈ ys ++ [row], (r.length : Int) = i ∧ (∀ x ∈ r, 0 ≤ x.1 ∧ x.1 < (rows.length : Int)) ∧ ∀ x ∈ r, 0 ≤ x.2 ∧ x.2 < o) := by
      intro d h
      rcases d with d | d
      · exact d (hv.mpr ⟨h.1, fun r hr => h.2 r (by simp [hr])⟩)
      · exact d (h.2 row (by simp))
    simp only [Po_ySeq]
    refine Po.mono (n := fun t => t.inputs = i ∧ t.outputs = o ∧ t.lead = L ∧ t.opening = op ∧ t.rows = rows ∧ t.row = row ∧ (t.valid = true ↔ s.valid = true ∧ (row.length : Int) = i)) (r := fun _ _ => False) (b := fun _ => False) (c := fun _ => False) (e := fun _ _ => False) ?_ ?_ (fun _ _ h => h.elim) (fun _ h => h.elim) (fun _ h => h.elim) (fun _ _ h => h.elim)
    · simp only [Ev_ok, Ev_exc, Os_some, Os_if, Ev_xC, Ev_xV, Ev_xN, Ev_xYes, Ev_x1, Ev_x1o, Ev_x2, Ev_x2o, Ev_xIxV, Ev_xIf, Ev_xAnd, Ev_xOr, Ev_xNot, Ev_xCs, Ev_xUn, Ev_xCh, Ev_xSl, Ev_xMeth, Ev_xCall, Ev_xMake, Ev_xComp, Po_nx, Po_yNil, Po_ySeq, Po_ySet, Po_yRet, Po_yRetC, Po_yExpr, Po_yIf, Po_yBreak, Po_yCont, Po_yRaise, Po_yFor, Po_ySetI, Po_yAugI, Po_yTry, gApp, gCat, gMul, gDiv, gMod, gPow, gRep, id, decide_eq_true_eq, Bool.not_eq_true', decide_eq_false_iff_not, Bool.false_eq_true, if_false, if_true, ite_true, ite_false]
      rw [show (s.put_row row).inputs = i from h1]
      by_cases c1 : s.valid = true
      · rw [if_pos (show (s.put_row row).valid = true from c1)]
        exact ⟨by (first | assumption | rfl | trivial), h2, h3, h4, h5, by (first | assumption | rfl | trivial), fun h => ⟨c1, h⟩, fun h => h.2⟩
      · rw [if_neg (show ¬ (s.put_row row).valid = true from c1)]
        exact ⟨by (first | assumption | rfl | trivial), h2, h3, h4, h5, by (first | assumption | rfl | trivial), fun h => (nomatch h), fun h => absurd h.1 c1⟩
    rintro t ⟨g1, g2, g3, g4, g5, g6, gv⟩
    refine Po.mono (n := fun t => t.inputs = i ∧ t.outputs = o ∧ t.lead = L ∧ t.opening = op ∧ t.rows = rows ∧ t.row = row ∧ (t.valid = true ↔ (s.valid = true ∧ (row.length : Int) = i) ∧ ∀ x ∈ row, 0 ≤ x.1 ∧ x.1 < (rows.length : Int))) (r := fun _ _ => False) (b := fun _ => False) (c := fun _ => False) (e := fun _ _ => False) ?_ ?_ (fun _ _ h => h.elim) (fun _ h => h.elim) (fun _ h => h.elim) (fun _ _ h => h.elim)
    · simp only [Ev_ok, Ev_exc, Os_some, Os_if, Ev_xC, Ev_xV, Ev_xN, Ev_xYes, Ev_x1, Ev_x1o, Ev_x2, Ev_x2o, Ev_xIxV, Ev_xIf, Ev_xAnd, Ev_xOr, Ev_xNot, Ev_xCs, Ev_xUn, Ev_xCh, Ev_xSl, Ev_xMeth, Ev_xCall, Ev_xMake, Ev_xComp, Po_nx, Po_yNil, Po_ySeq, Po_ySet, Po_yRet, Po_yRetC, Po_yExpr, Po_yIf, Po_yBreak, Po_yCont, Po_yRaise, Po_yFor, Po_ySetI, Po_yAugI, Po_yTry, gApp, gCat, gMul, gDiv, gMod, gPow, gRep, id, decide_eq_true_eq, Bool.not_eq_true', decide_eq_false_iff_not, Bool.false_eq_true, if_false, if_true, ite_true, ite_false]
      by_cases c1 : t.valid = true
      · rw [if_pos c1, g6]
        refine comp_mapP (fun t => t.inputs = i ∧ t.outputs = o ∧ t.lead = L ∧ t.opening = op ∧ t.rows = rows ∧ t.row = row) (fun x => x.1) ⟨g1, g2, g3, g4, g5, g6⟩ (by omega) ?_ ?_
        · rintro x hx u q
          simp only [Ev_ok, Ev_exc, Os_some, Os_if, Ev_xC, Ev_xV, Ev_xN, Ev_xYes, Ev_x1, Ev_x1o, Ev_x2, Ev_x2o, Ev_xIxV, Ev_xIf, Ev_xAnd, Ev_xOr, Ev_xNot, Ev_xCs, Ev_xUn, Ev_xCh, Ev_xSl, Ev_xMeth, Ev_xCall, Ev_xMake, Ev_xComp, Po_nx, Po_yNil, Po_ySeq, Po_ySet, Po_yRet, Po_yRetC, Po_yExpr, Po_yIf, Po_yBreak, Po_yCont, Po_yRaise, Po_yFor, Po_ySetI, Po_yAugI, Po_yTry, gApp, gCat, gMul, gDiv, gMod, gPow, gRep, id, decide_eq_true_eq, Bool.not_eq_true', decide_eq_false_iff_not, Bool.false_eq_true, if_false, if_true, ite_true, ite_false]
          exact ⟨trivial, q⟩
        · rintro u ⟨g1, g2, g3, g4, g5, g6⟩
          rw [g5]
          rw [Ev_fNox]; refine below_iff.mono ?_
          rintro r _ hr
          exact ⟨g1, g2, g3, g4, by (first | assumption | rfl | trivial), g6, by show r = true ↔ _; rw [hr, mem_map1]; exact ⟨fun h => ⟨gv.mp c1, h⟩, fun h => h.2⟩⟩
      · rw [if_neg c1]
        exact ⟨g1, g2, g3, g4, g5, g6, fun h => (nomatch h), fun h => absurd (gv.mpr h.1) c1⟩
    clear gv g1 g2 g3 g4 g5 g6 t
    rintro t ⟨g1, g2, g3, g4, g5, g6, gv⟩
    simp only [Ev_ok, Ev_exc, Os_some, Os_if, Ev_xC, Ev_xV, Ev_xN, Ev_xYes, Ev_x1, Ev_x1o, Ev_x2, Ev_x2o, Ev_xIxV, Ev_xIf, Ev_xAnd, Ev_xOr, Ev_xNot, Ev_xCs, Ev_xUn, Ev_xCh, Ev_xSl, Ev_xMeth, Ev_xCall, Ev_xMake, Ev_xComp, Po_nx, Po_yNil, Po_ySeq, Po_ySet, Po_yRet, Po_yRetC, Po_yExpr, Po_yIf, Po_yBreak, Po_yCont, Po_yRaise, Po_yFor, Po_ySetI, Po_yAugI, Po_yTry, gApp, gCat, gMul, gDiv, gMod, gPow, gRep, id, decide_eq_true_eq, Bool.not_eq_true', decide_eq_false_iff_not, Bool.false_eq_true, if_false, if_true, ite_true, ite_false]
    by_cases c1 : t.valid = true
    · rw [if_pos c1, g6]
      refine comp_mapP (fun t => t.inputs = i ∧ t.outputs = o ∧ t.lead = L ∧ t.opening = op ∧ t.rows = rows ∧ t.row = row) (fun x => x.2) ⟨g1, g2, g3, g4, g5, g6⟩ (by omega) ?_ ?_
      · rintro x hx u q
        simp only [Ev_ok, Ev_exc, Os_some, Os_if, Ev_xC, Ev_xV, Ev_xN, Ev_xYes, Ev_x1, Ev_x1o, Ev_x2, Ev_x2o, Ev_xIxV, Ev_xIf, Ev_xAnd, Ev_xOr, Ev_xNot, Ev_xCs, Ev_xUn, Ev_xCh, Ev_xSl, Ev_xMeth, Ev_xCall, Ev_xMake, Ev_xComp, Po_nx, Po_yNil, Po_ySeq, Po_ySet, Po_yRet, Po_yRetC, Po_yExpr, Po_yIf, Po_yBreak, Po_yCont, Po_yRaise, Po_yFor, Po_ySetI, Po_yAugI, Po_yTry, gApp, gCat, gMul, gDiv, gMod, gPow, gRep, id, decide_eq_true_eq, Bool.not_eq_true', decide_eq_false_iff_not, Bool.false_eq_true, if_false, if_true, ite_true, ite_false]
        exact ⟨trivial, q⟩
      · rintro u ⟨g1, g2, g3, g4, g5, g6⟩
        rw [g2]
        rw [Ev_fNox]; refine below_iff.mono ?_
        rintro r _ hr
        obtain ⟨⟨k1, k2⟩, k3⟩ := gv.mp c1
        refine ⟨g1, by (first | assumption | rfl | trivial), g3, g4, g5, fun hb => ⟨(hv.mp k1).1, fun r' hr' => ?_⟩, fun h => ?_⟩
        · rcases List.mem_append.mp hr' with hr' | hr'
          · exact (hv.mp k1).2 r' hr'
          · rw [List.mem_singleton.mp hr']; exact ⟨k2, k3, mem_map2.mp (hr.mp hb)⟩
        · exact hr.mpr (mem_map2.mpr (h.2 row (by simp)).2.2)
    · rw [if_neg c1]
      refine ⟨g1, g2, g3, g4, g5, fun h => (nomatch h), fun h => absurd h (no ?_)⟩
      by_cases k1 : s.valid = true
      · exact .inr fun h => c1 (gv.mpr ⟨⟨k1, h.1⟩, h.2.1⟩)
      · exact .inl k1
  · rintro s ⟨h1, h2, h3, h4, h5, hv⟩
    have hV : ((((1 ≤ i ∧ 1 ≤ o ∧ -3 ≤ L ∧ L ≤ 2) ∧ (op.length : Int) = max 0 (-L) ∧ 1 ≤ rows.length) ∧ ∀ x ∈ op, 0 ≤ x ∧ x < o) ∧ ∀ row ∈ rows, (row.length : Int) = i ∧ (∀ x ∈ row, 0 ≤ x.1 ∧ x.1 < (rows.length : Int)) ∧ ∀ x ∈ row, 0 ≤ x.2 ∧ x.2 < o) ↔ VM i o L op rows :=
      ⟨fun ⟨⟨⟨⟨a1, a2, a3, a4⟩, b, c⟩, d⟩, e⟩ => ⟨a1, a2, ⟨a3, a4⟩, b, c, d, e⟩, fun V => ⟨⟨⟨⟨V.i1, V.o1, V.L0.1, V.L0.2⟩, V.ol, V.n1⟩, V.op⟩, V.r⟩⟩
    rw [hV] at hv
    by_cases hu : s.valid = true
    · rw [if_neg (by rw [hu]; decide), h1, h2, h3, h4, h5]
      refine comp_mapP (fun s => s.self_inputs = i ∧ s.self_outputs = o ∧ s.self_lead = L ∧ s.self_opening = op) (fun r => r) ⟨rfl, rfl, rfl, rfl⟩ (by omega) ?_ ?_
      · rintro r hr s q
        simp only [Ev_ok, Ev_exc, Os_some, Os_if, Ev_xC, Ev_xV, Ev_xN, Ev_xYes, Ev_x1, Ev_x1o, Ev_x2, Ev_x2o, Ev_xIxV, Ev_xIf, Ev_xAnd, Ev_xOr, Ev_xNot, Ev_xCs, Ev_xUn, Ev_xCh, Ev_xSl, Ev_xMeth, Ev_xCall, Ev_xMake, Ev_xComp, Po_nx, Po_yNil, Po_ySeq, Po_ySet, Po_yRet, Po_yRetC, Po_yExpr, Po_yIf, Po_yBreak, Po_yCont, Po_yRaise, Po_yFor, Po_ySetI, Po_yAugI, Po_yTry, gApp, gCat, gMul, gDiv, gMod, gPow, gRep, id, decide_eq_true_eq, Bool.not_eq_true', decide_eq_false_iff_not, Bool.false_eq_true, if_false, if_true, ite_true, ite_false]
        refine comp_mapP (fun s => s.self_inputs = i ∧ s.self_outputs = o ∧ s.self_lead = L ∧ s.self_opening = op) (fun x => x) q (by have := hz2 r hr; show r.length ≤ _; omega) ?_ ?_
        · rintro x hx s q
          simp only [Ev_ok, Ev_exc, Os_some, Os_if, Ev_xC, Ev_xV, Ev_xN, Ev_xYes, Ev_x1, Ev_x1o, Ev_x2, Ev_x2o, Ev_xIxV, Ev_xIf, Ev_xAnd, Ev_xOr, Ev_xNot, Ev_xCs, Ev_xUn, Ev_xCh, Ev_xSl, Ev_xMeth, Ev_xCall, Ev_xMake, Ev_xComp, Po_nx, Po_yNil, Po_ySeq, Po_ySet, Po_yRet, Po_yRetC, Po_yExpr, Po_yIf, Po_yBreak, Po_yCont, Po_yRaise, Po_yFor, Po_ySetI, Po_yAugI, Po_yTry, gApp, gCat, gMul, gDiv, gMod, gPow, gRep, id, decide_eq_true_eq, Bool.not_eq_true', decide_eq_false_iff_not, Bool.false_eq_true, if_false, if_true, ite_true, ite_false]
          exact ⟨trivial, q⟩
        · rintro s q
          exact ⟨by rw [List.map_id'], q⟩
      · rintro s ⟨q1, q2, q3, q4⟩
        exact ⟨by rw [q1, q2, q3, q4, List.map_id'], hv.mp hu⟩
    · rw [if_pos (by cases h : s.valid with | false => rfl | true => exact absurd h hu)]
      exact ⟨by (first | assumption | rfl | trivial), fun V => hu (hv.mpr V)⟩
theorem lmach_ok {ds : List Int} {i o L m : Int} (hi : 1 ≤ i ∧ i ≤ 100) (ho : 1 ≤ o) (hL : -3 ≤ L ∧ L ≤ 2) (hm : 1 ≤ m ∧ m ≤ 30) : Ev (F_law_machine (ds, ()) (i, o, L, m, ())) (fun r _ => VM i o L r.1 r.2 ∧ (r.2.length : Int) ≤ m) (fun _ _ => False) := by
  unfold F_law_machine
  apply Ev_yRun
  simp only [Ev_ok, Ev_exc, Os_some, Os_if, Ev_xC, Ev_xV, Ev_xN, Ev_xYes, Ev_x1, Ev_x1o, Ev_x2, Ev_x2o, Ev_xIxV, Ev_xIf, Ev_xAnd, Ev_xOr, Ev_xNot, Ev_xCs, Ev_xUn, Ev_xCh, Ev_xSl, Ev_xMeth, Ev_xCall, Ev_xMake, Ev_xComp, Po_nx, Po_yNil, Po_ySeq, Po_ySet, Po_yRet, Po_yRetC, Po_yExpr, Po_yIf, Po_yBreak, Po_yCont, Po_yRaise, Po_yFor, Po_ySetI, Po_yAugI, Po_yTry, gApp, gCat, gMul, gDiv, gMod, gPow, gRep, id, decide_eq_true_eq, Bool.not_eq_true', decide_eq_false_iff_not, Bool.false_eq_true, if_false, if_true, ite_true, ite_false]
  refine (take_ok (k := m) (by omega)).mono ?_
  rintro c _ ⟨c0, c1⟩
  refine Os_intro (rng1 (by show -(2 ^ 62) ≤ max 0 (-L); omega) (by show max 0 (-L) < 2 ^ 62; omega)) ?_
  refine comp_inv (fun ys a s => (s.lcount = 1 + c ∧ s.linputs = i ∧ s.loutputs = o) ∧ a.length = ys.length ∧ ∀ x ∈ a, 0 ≤ x ∧ x < o) ⟨⟨rfl, rfl, rfl⟩, rfl, fun x h => (nomatch h)⟩ ?_ ?_
  · rintro ys zs y a s e1 ⟨⟨h1, h2, h3⟩, h4, h5⟩
    simp only [Ev_ok, Ev_exc, Os_some, Os_if, Ev_xC, Ev_xV, Ev_xN, Ev_xYes, Ev_x1, Ev_x1o, Ev_x2, Ev_x2o, Ev_xIxV, Ev_xIf, Ev_xAnd, Ev_xOr, Ev_xNot, Ev_xCs, Ev_xUn, Ev_xCh, Ev_xSl, Ev_xMeth, Ev_xCall, Ev_xMake, Ev_xComp, Po_nx, Po_yNil, Po_ySeq, Po_ySet, Po_yRet, Po_yRetC, Po_yExpr, Po_yIf, Po_yBreak, Po_yCont, Po_yRaise, Po_yFor, Po_ySetI, Po_yAugI, Po_yTry, gApp, gCat, gMul, gDiv, gMod, gPow, gRep, id, decide_eq_true_eq, Bool.not_eq_true', decide_eq_false_iff_not, Bool.false_eq_true, if_false, if_true, ite_true, ite_false]
    rw [show (s.put_lk_c0 y).loutputs = o from h3]
    refine (take_ok (k := o) (by omega)).mono ?_
    rintro r _ hr
    have e := congrArg List.length e1
    rw [rng_len, List.length_append, List.length_cons] at e
    have e : (max 0 (-L)).toNat = ys.length + (zs.length + 1) := e
    refine ⟨by rw [sizeLine_eq]; omega, ⟨by (first | assumption | rfl | trivial), by (first | assumption | rfl | trivial), by (first | assumption | rfl | trivial)⟩, by simp [h4], fun u hu => ?_⟩
    rcases List.mem_append.mp hu with hu | hu
    · exact h5 u hu
    · rw [List.mem_singleton.mp hu]; exact hr
  rintro op s ⟨⟨h1, h2, h3⟩, h4, h5⟩
  rw [rng_len] at h4
  have h4 : op.length = (max 0 (-L)).toNat := h4
  simp only [Ev_ok, Ev_exc, Os_some, Os_if, Ev_xC, Ev_xV, Ev_xN, Ev_xYes, Ev_x1, Ev_x1o, Ev_x2, Ev_x2o, Ev_xIxV, Ev_xIf, Ev_xAnd, Ev_xOr, Ev_xNot, Ev_xCs, Ev_xUn, Ev_xCh, Ev_xSl, Ev_xMeth, Ev_xCall, Ev_xMake, Ev_xComp, Po_nx, Po_yNil, Po_ySeq, Po_ySet, Po_yRet, Po_yRetC, Po_yExpr, Po_yIf, Po_yBreak, Po_yCont, Po_yRaise, Po_yFor, Po_ySetI, Po_yAugI, Po_yTry, gApp, gCat, gMul, gDiv, gMod, gPow, gRep, id, decide_eq_true_eq, Bool.not_eq_true', decide_eq_false_iff_not, Bool.false_eq_true, if_false, if_true, ite_true, ite_false]
  rw [show ((s.put_lopening op).put_lrows []).lcount = 1 + c from h1]
  refine Os_intro (rng1 (by omega) (by omega)) ?_
  refine po_forL (fun j s => (s.lcount = 1 + c ∧ s.linputs = i ∧ s.loutputs = o ∧ s.lopening = op) ∧ s.lrows.length = j ∧ ∀ row ∈ s.lrows, (row.length : Int) = i ∧ ∀ x ∈ row, (0 ≤ x.1 ∧ x.1 < 1 + c) ∧ 0 ≤ x.2 ∧ x.2 < o) ⟨⟨h1, h2, h3, rfl⟩, rfl, fun r h => (nomatch h)⟩ ?_ ?_
  · rintro j x s hx ⟨h0, h6, h7⟩
    have hj := (rng_get hx).2
    simp only [Ev_ok, Ev_exc, Os_some, Os_if, Ev_xC, Ev_xV, Ev_xN, Ev_xYes, Ev_x1, Ev_x1o, Ev_x2, Ev_x2o, Ev_xIxV, Ev_xIf, Ev_xAnd, Ev_xOr, Ev_xNot, Ev_xCs, Ev_xUn, Ev_xCh, Ev_xSl, Ev_xMeth, Ev_xCall, Ev_xMake, Ev_xComp, Po_nx, Po_yNil, Po_ySeq, Po_ySet, Po_yRet, Po_yRetC, Po_yExpr, Po_yIf, Po_yBreak, Po_yCont, Po_yRaise, Po_yFor, Po_ySetI, Po_yAugI, Po_yTry, gApp, gCat, gMul, gDiv, gMod, gPow, gRep, id, decide_eq_true_eq, Bool.not_eq_true', decide_eq_false_iff_not, Bool.false_eq_true, if_false, if_true, ite_true, ite_false]
    rw [show ((s.put_lstate x).put_lrow []).linputs = i from h0.2.1]
    refine Os_intro (rng1 (by omega) (by omega)) ?_
    refine po_forL (fun k s => (s.lcount = 1 + c ∧ s.linputs = i ∧ s.loutputs = o ∧ s.lopening = op) ∧ s.lrows.length = j ∧ (∀ row ∈ s.lrows, (row.length : Int) = i ∧ ∀ x ∈ row, (0 ≤ x.1 ∧ x.1 < 1 + c) ∧ 0 ≤ x.2 ∧ x.2 < o) ∧ s.lrow.length = k ∧ ∀ x ∈ s.lrow, (0 ≤ x.1 ∧ x.1 < 1 + c) ∧ 0 ≤ x.2 ∧ x.2 < o) ⟨h0, h6, h7, rfl, fun r h => (nomatch h)⟩ ?_ ?_
    · rintro k y s hy ⟨h0, h6, h7, h8, h9⟩
      have hk := (rng_get hy).2
      simp only [Ev_ok, Ev_exc, Os_some, Os_if, Ev_xC, Ev_xV, Ev_xN, Ev_xYes, Ev_x1, Ev_x1o, Ev_x2, Ev_x2o, Ev_xIxV, Ev_xIf, Ev_xAnd, Ev_xOr, Ev_xNot, Ev_xCs, Ev_xUn, Ev_xCh, Ev_xSl, Ev_xMeth, Ev_xCall, Ev_xMake, Ev_xComp, Po_nx, Po_yNil, Po_ySeq, Po_ySet, Po_yRet, Po_yRetC, Po_yExpr, Po_yIf, Po_yBreak, Po_yCont, Po_yRaise, Po_yFor, Po_ySetI, Po_yAugI, Po_yTry, gApp, gCat, gMul, gDiv, gMod, gPow, gRep, id, decide_eq_true_eq, Bool.not_eq_true', decide_eq_false_iff_not, Bool.false_eq_true, if_false, if_true, ite_true, ite_false]
      rw [show (s.put_lletter y).lcount = 1 + c from h0.1]
      refine (take_ok (k := 1 + c) (by omega)).mono ?_
      rintro t _ ht
      rw [show (s.put_lletter y).loutputs = o from h0.2.2.1]
      refine (take_ok (k := o) (by omega)).mono ?_
      rintro u _ hu
      refine ⟨by rw [sizeLine_eq]; show s.lrow.length < _; omega, ⟨by (first | assumption | rfl | trivial), h0.2.1, by (first | assumption | rfl | trivial), h0.2.2.2⟩, h6, h7, ?_, fun z hz => ?_⟩
      · show (s.lrow ++ [_]).length = _
        rw [List.length_append, h8]; rfl
      · rcases List.mem_append.mp hz with hz | hz
        · exact h9 z hz
        · rw [List.mem_singleton.mp hz]; exact ⟨ht, hu⟩
    · rintro s ⟨h0, h6, h7, h8, h9⟩
      rw [rng_len] at h8
      refine ⟨by rw [sizeLine_eq, h6]; omega, h0, ?_, fun r hr => ?_⟩
      · show (s.lrows ++ [_]).length = _
        rw [List.length_append, h6]; rfl
      · rcases List.mem_append.mp hr with hr | hr
        · exact h7 r hr
        · rw [List.mem_singleton.mp hr]; exact ⟨by omega, h9⟩
  · rintro s ⟨h0, h6, h7⟩
    rw [rng_len] at h6
    obtain ⟨q1, q2, q3, q4⟩ := h0
    show VM i o L s.lopening s.lrows ∧ (s.lrows.length : Int) ≤ m
    rw [q4]
    have e : (s.lrows.length : Int) = 1 + c := by omega
    exact ⟨⟨hi.1, ho, hL, by omega, by omega, h5, fun row hr => ⟨(h7 row hr).1, fun x hx => by rw [e]; exact ((h7 row hr).2 x hx).1, fun x hx => ((h7 row hr).2 x hx).2⟩⟩, by omega⟩
end K44
set_option Elab.async false
set_option linter.all false
set_option maxRecDepth 100000
set_option maxHeartbeats 4000000
namespace K44
open PySem PySem.Spec PyProof.Rows L2 Mn Ty
theorem lisint_ok {x : Int} : Ev (F_law_is_integer () (x, ())) (fun r _ => r = true) (fun _ _ => False) := by
  unfold F_law_is_integer
  apply Ev_yRun
  simp only [Ev_ok, Ev_exc, Os_some, Os_if, Ev_xC, Ev_xV, Ev_xN, Ev_xYes, Ev_x1, Ev_x1o, Ev_x2, Ev_x2o, Ev_xIxV, Ev_xIf, Ev_xAnd, Ev_xOr, Ev_xNot, Ev_xCs, Ev_xUn, Ev_xCh, Ev_xSl, Ev_xMeth, Ev_xCall, Ev_xMake, Ev_xComp, Po_nx, Po_yNil, Po_ySeq, Po_ySet, Po_yRet, Po_yRetC, Po_yExpr, Po_yIf, Po_yBreak, Po_yCont, Po_yRaise, Po_yFor, Po_ySetI, Po_yAugI, Po_yTry, gApp, gCat, gMul, gDiv, gMod, gPow, gRep, id, decide_eq_true_eq, Bool.not_eq_true', decide_eq_false_iff_not, Bool.false_eq_true, if_false, if_true, ite_true, ite_false]
theorem lints_ok {xs : List Int} {lo hi : Int} (h : ∀ x ∈ xs, lo ≤ x ∧ x < hi) : Ev (F_law_integers () (xs, lo, hi, ())) (fun r _ => r = true) (fun _ _ => False) := by
  unfold F_law_integers
  apply Ev_yRun
  simp only [Ev_ok, Ev_exc, Os_some, Os_if, Ev_xC, Ev_xV, Ev_xN, Ev_xYes, Ev_x1, Ev_x1o, Ev_x2, Ev_x2o, Ev_xIxV, Ev_xIf, Ev_xAnd, Ev_xOr, Ev_xNot, Ev_xCs, Ev_xUn, Ev_xCh, Ev_xSl, Ev_xMeth, Ev_xCall, Ev_xMake, Ev_xComp, Po_nx, Po_yNil, Po_ySeq, Po_ySet, Po_yRet, Po_yRetC, Po_yExpr, Po_yIf, Po_yBreak, Po_yCont, Po_yRaise, Po_yFor, Po_ySetI, Po_yAugI, Po_yTry, gApp, gCat, gMul, gDiv, gMod, gPow, gRep, id, decide_eq_true_eq, Bool.not_eq_true', decide_eq_false_iff_not, Bool.false_eq_true, if_false, if_true, ite_true, ite_false]
  refine po_forP (fun ys s => s.llow = lo ∧ s.lhigh = hi) ⟨rfl, rfl⟩ ?_ ?_
  · rintro ys zs x s e1 ⟨h1, h2⟩
    simp only [Ev_ok, Ev_exc, Os_some, Os_if, Ev_xC, Ev_xV, Ev_xN, Ev_xYes, Ev_x1, Ev_x1o, Ev_x2, Ev_x2o, Ev_xIxV, Ev_xIf, Ev_xAnd, Ev_xOr, Ev_xNot, Ev_xCs, Ev_xUn, Ev_xCh, Ev_xSl, Ev_xMeth, Ev_xCall, Ev_xMake, Ev_xComp, Po_nx, Po_yNil, Po_ySeq, Po_ySet, Po_yRet, Po_yRetC, Po_yExpr, Po_yIf, Po_yBreak, Po_yCont, Po_yRaise, Po_yFor, Po_ySetI, Po_yAugI, Po_yTry, gApp, gCat, gMul, gDiv, gMod, gPow, gRep, id, decide_eq_true_eq, Bool.not_eq_true', decide_eq_false_iff_not, Bool.false_eq_true, if_false, if_true, ite_true, ite_false]
    refine lisint_ok.mono ?_
    rintro r _ rfl
    have hx := h x (by rw [e1]; simp)
    rw [show (s.put_litem x).llow = lo from h1, show (s.put_litem x).lhigh = hi from h2]
    rw [if_neg (by decide), if_neg (show ¬ x < lo by omega), if_neg (show ¬ hi ≤ x by omega)]
    exact ⟨rfl, rfl⟩
  · rintro s _
    trivial
theorem lints2_ok {x : Int × Int} {lo hi : Int} (h1 : lo ≤ x.1 ∧ x.1 < hi) (h2 : lo ≤ x.2 ∧ x.2 < hi) : Ev (F_law_integers_2 () (x, lo, hi, ())) (fun r _ => r = true) (fun _ _ => False) := by
  unfold F_law_integers_2
  apply Ev_yRun
  simp only [Ev_ok, Ev_exc, Os_some, Os_if, Ev_xC, Ev_xV, Ev_xN, Ev_xYes, Ev_x1, Ev_x1o, Ev_x2, Ev_x2o, Ev_xIxV, Ev_xIf, Ev_xAnd, Ev_xOr, Ev_xNot, Ev_xCs, Ev_xUn, Ev_xCh, Ev_xSl, Ev_xMeth, Ev_xCall, Ev_xMake, Ev_xComp, Po_nx, Po_yNil, Po_ySeq, Po_ySet, Po_yRet, Po_yRetC, Po_yExpr, Po_yIf, Po_yBreak, Po_yCont, Po_yRaise, Po_yFor, Po_ySetI, Po_yAugI, Po_yTry, gApp, gCat, gMul, gDiv, gMod, gPow, gRep, id, decide_eq_true_eq, Bool.not_eq_true', decide_eq_false_iff_not, Bool.false_eq_true, if_false, if_true, ite_true, ite_false]
  refine po_forP (fun ys s => s.llow = lo ∧ s.lhigh = hi) ⟨rfl, rfl⟩ ?_ ?_
  · rintro ys zs y s e1 ⟨q1, q2⟩
    simp only [Ev_ok, Ev_exc, Os_some, Os_if, Ev_xC, Ev_xV, Ev_xN, Ev_xYes, Ev_x1, Ev_x1o, Ev_x2, Ev_x2o, Ev_xIxV, Ev_xIf, Ev_xAnd, Ev_xOr, Ev_xNot, Ev_xCs, Ev_xUn, Ev_xCh, Ev_xSl, Ev_xMeth, Ev_xCall, Ev_xMake, Ev_xComp, Po_nx, Po_yNil, Po_ySeq, Po_ySet, Po_yRet, Po_yRetC, Po_yExpr, Po_yIf, Po_yBreak, Po_yCont, Po_yRaise, Po_yFor, Po_ySetI, Po_yAugI, Po_yTry, gApp, gCat, gMul, gDiv, gMod, gPow, gRep, id, decide_eq_true_eq, Bool.not_eq_true', decide_eq_false_iff_not, Bool.false_eq_true, if_false, if_true, ite_true, ite_false]
    refine lisint_ok.mono ?_
    rintro r _ rfl
    have hy : y = x.1 ∨ y = x.2 := by
      have : y ∈ [x.1, x.2] := by rw [e1]; simp
      simpa using this
    have hx : lo ≤ y ∧ y < hi := by rcases hy with e | e <;> rw [e] <;> assumption
    rw [show (s.put_litem y).llow = lo from q1, show (s.put_litem y).lhigh = hi from q2]
    rw [if_neg (by decide), if_neg (show ¬ y < lo by omega), if_neg (show ¬ hi ≤ y by omega)]
    exact ⟨by (first | assumption | rfl | trivial), by (first | assumption | rfl | trivial)⟩
  · rintro s _
    trivial
theorem lismach_ok {i o L : Int} {op : List Int} {rows : List (List (Int × Int))} (V : VM i o L op rows) : Ev (F_law_is_machine () (some ⟨i, o, L, op, rows⟩, i, o, L, ())) (fun r _ => r = true) (fun _ _ => False) := by
  have n1 := V.n1
  have ol := V.ol
  unfold F_law_is_machine
  apply Ev_yRun
  simp only [Ev_ok, Ev_exc, Os_some, Os_if, Ev_xC, Ev_xV, Ev_xN, Ev_xYes, Ev_x1, Ev_x1o, Ev_x2, Ev_x2o, Ev_xIxV, Ev_xIf, Ev_xAnd, Ev_xOr, Ev_xNot, Ev_xCs, Ev_xUn, Ev_xCh, Ev_xSl, Ev_xMeth, Ev_xCall, Ev_xMake, Ev_xComp, Po_nx, Po_yNil, Po_ySeq, Po_ySet, Po_yRet, Po_yRetC, Po_yExpr, Po_yIf, Po_yBreak, Po_yCont, Po_yRaise, Po_yFor, Po_ySetI, Po_yAugI, Po_yTry, gApp, gCat, gMul, gDiv, gMod, gPow, gRep, id, decide_eq_true_eq, Bool.not_eq_true', decide_eq_false_iff_not, Bool.false_eq_true, if_false, if_true, ite_true, ite_false]
  refine po_forP (fun ys s => s.lactual = some ⟨i, o, L, op, rows⟩ ∧ s.linputs = i ∧ s.loutputs = o ∧ s.llead_here = L) ⟨rfl, rfl, rfl, rfl⟩ ?_ ?_
  · rintro ys zs y s e1 q
    simp only [Ev_ok, Ev_exc, Os_some, Os_if, Ev_xC, Ev_xV, Ev_xN, Ev_xYes, Ev_x1, Ev_x1o, Ev_x2, Ev_x2o, Ev_xIxV, Ev_xIf, Ev_xAnd, Ev_xOr, Ev_xNot, Ev_xCs, Ev_xUn, Ev_xCh, Ev_xSl, Ev_xMeth, Ev_xCall, Ev_xMake, Ev_xComp, Po_nx, Po_yNil, Po_ySeq, Po_ySet, Po_yRet, Po_yRetC, Po_yExpr, Po_yIf, Po_yBreak, Po_yCont, Po_yRaise, Po_yFor, Po_ySetI, Po_yAugI, Po_yTry, gApp, gCat, gMul, gDiv, gMod, gPow, gRep, id, decide_eq_true_eq, Bool.not_eq_true', decide_eq_false_iff_not, Bool.false_eq_true, if_false, if_true, ite_true, ite_false]
    refine lisint_ok.mono ?_
    rintro r _ rfl
    rw [if_neg (by decide)]
    exact q
  rintro s ⟨h1, h2, h3, h4⟩
  rw [h1, h2, h3, h4]
  simp only [Os_some]
  rw [if_neg (by simp), if_neg (by simp), if_neg (by simp)]
  refine (lints_ok V.op).mono ?_
  rintro r _ rfl
  rw [if_neg (by decide), if_neg (by show ¬ ¬ ((op.length : Int) = max 0 (-L)); omega), if_neg (by decide), if_neg (by show ¬ ((rows.length : Int) = 0); omega)]
  refine po_forP (fun ys s => s.lactual = some ⟨i, o, L, op, rows⟩ ∧ s.linputs = i ∧ s.loutputs = o) ⟨h1, h2, h3⟩ ?_ ?_
  · rintro ys zs row s e1 ⟨h1, h2, h3⟩
    obtain ⟨v1, v2, v3⟩ := V.r row (by rw [show rows = ys ++ row :: zs from e1]; simp)
    simp only [Ev_ok, Ev_exc, Os_some, Os_if, Ev_xC, Ev_xV, Ev_xN, Ev_xYes, Ev_x1, Ev_x1o, Ev_x2, Ev_x2o, Ev_xIxV, Ev_xIf, Ev_xAnd, Ev_xOr, Ev_xNot, Ev_xCs, Ev_xUn, Ev_xCh, Ev_xSl, Ev_xMeth, Ev_xCall, Ev_xMake, Ev_xComp, Po_nx, Po_yNil, Po_ySeq, Po_ySet, Po_yRet, Po_yRetC, Po_yExpr, Po_yIf, Po_yBreak, Po_yCont, Po_yRaise, Po_yFor, Po_ySetI, Po_yAugI, Po_yTry, gApp, gCat, gMul, gDiv, gMod, gPow, gRep, id, decide_eq_true_eq, Bool.not_eq_true', decide_eq_false_iff_not, Bool.false_eq_true, if_false, if_true, ite_true, ite_false]
    rw [show (s.put_lrow row).linputs = i from h2]
    rw [if_neg (by decide), if_neg (by simpa using v1)]
    refine po_forP (fun ys s => s.lactual = some ⟨i, o, L, op, rows⟩ ∧ s.linputs = i ∧ s.loutputs = o) ⟨h1, h2, h3⟩ ?_ ?_
    · rintro ys zs x s e1 ⟨h1, h2, h3⟩
      have hx : x ∈ row := by rw [show row = ys ++ x :: zs from e1]; simp
      have x1 := v2 x hx
      have x2 := v3 x hx
      simp only [Ev_ok, Ev_exc, Os_some, Os_if, Ev_xC, Ev_xV, Ev_xN, Ev_xYes, Ev_x1, Ev_x1o, Ev_x2, Ev_x2o, Ev_xIxV, Ev_xIf, Ev_xAnd, Ev_xOr, Ev_xNot, Ev_xCs, Ev_xUn, Ev_xCh, Ev_xSl, Ev_xMeth, Ev_xCall, Ev_xMake, Ev_xComp, Po_nx, Po_yNil, Po_ySeq, Po_ySet, Po_yRet, Po_yRetC, Po_yExpr, Po_yIf, Po_yBreak, Po_yCont, Po_yRaise, Po_yFor, Po_ySetI, Po_yAugI, Po_yTry, gApp, gCat, gMul, gDiv, gMod, gPow, gRep, id, decide_eq_true_eq, Bool.not_eq_true', decide_eq_false_iff_not, Bool.false_eq_true, if_false, if_true, ite_true, ite_false]
      rw [show (s.put_lpair x).lactual = _ from h1, show (s.put_lpair x).loutputs = o from h3]
      refine (lints2_ok (by show _ ∧ x.1 < max o (rows.length : Int); omega) (by show _ ∧ x.2 < max o (rows.length : Int); omega)).mono ?_
      rintro r _ rfl
      simp only [Os_some]
      rw [if_neg (by decide), if_neg (by simp), if_neg (by show ¬ ((rows.length : Int) ≤ x.1); omega), if_neg (by omega)]
      exact ⟨by (first | assumption | rfl | trivial), h2, by (first | assumption | rfl | trivial)⟩
    · rintro s h
      exact h
  · rintro s _
    trivial
end K44
set_option Elab.async false
set_option linter.all false
set_option maxRecDepth 100000
namespace Fo
open PySem PySem.Spec PyProof.Rows L2 Mn Ty
inductive Op where
  | tt | ff | sig | not | next | ev | al | prev | wprev | once | hist | and | or | imp | iff | unt | wun | rel | since | trig
deriving DecidableEq
def Op.nm0 : Op → Str
  | .tt => "true" | .ff => "false" | .sig => "signal" | .not => "not" | .next => "next" | .ev => "eventually" | .al => "always" | .prev => "previous" | .wprev => "weak_previous" | .once => "once" | .hist => "historically"
  | .and => "and" | .or => "or" | .imp => "implies" | .iff => "iff" | .unt => "until" | .wun => "weak_until" | .rel => "release" | .since => "since" | .trig => "trigger"
@[irreducible] def Op.nm (o : Op) : Str := o.nm0
inductive Uo where
  | not | next | ev | al | prev | wprev | once | hist
deriving DecidableEq
inductive Bo where
  | and | or | imp | iff | unt | wun | rel | since | trig
deriving DecidableEq
@[reducible] def Uo.op : Uo → Op
  | .not => .not | .next => .next | .ev => .ev | .al => .al | .prev => .prev | .wprev => .wprev | .once => .once | .hist => .hist
@[reducible] def Bo.op : Bo → Op
  | .and => .and | .or => .or | .imp => .imp | .iff => .iff | .unt => .unt | .wun => .wun | .rel => .rel | .since => .since | .trig => .trig
inductive Fm where
  | c (b : Bool) | sg (s : Str) | u (o : Uo) (a : Fm) | b (o : Bo) (a b : Fm)
deriving DecidableEq, Inhabited
theorem cut1 {α : Type} {a : α} {xs : List α} : gCut (a :: xs) (some 1) none = xs := by
  unfold gCut HT.sIx
  simp
def dep : Fm → Nat
  | .c _ => 1
  | .sg _ => 1
  | .u _ a => dep a + 1
  | .b _ a b => max (dep a) (dep b) + 1
@[reducible] def Uo.tm : Uo → Nat
  | .not => 0 | _ => 1
@[reducible] def Bo.tm : Bo → Nat
  | .and => 0 | .or => 0 | .imp => 0 | .iff => 0 | _ => 1
def tc : Fm → Nat
  | .c _ => 0
  | .sg _ => 0
  | .u o a => o.tm + tc a
  | .b o a b => o.tm + (tc a + tc b)
@[reducible] def Bo.dual : Bo → Bo
  | .and => .or | .or => .and | .unt => .rel | .rel => .unt | .since => .trig | .trig => .since | o => o
def nn : Fm → Bool → Fm
  | .c b, p => .c (b == p)
  | .sg s, p => if p = true then .sg s else .u .not (.sg s)
  | .u .not a, p => nn a (!p)
  | .u .next a, p => .u .next (nn a p)
  | .u .prev a, p => .u (if p = true then .prev else .wprev) (nn a p)
  | .u .wprev a, p => .u (if p = true then .wprev else .prev) (nn a p)
  | .u .ev a, p => if p = true then .b .unt (.c true) (nn a p) else .b .rel (.c false) (nn a p)
  | .u .al a, p => if p = true then .b .rel (.c false) (nn a p) else .b .unt (.c true) (nn a p)
  | .u .once a, p => if p = true then .b .since (.c true) (nn a p) else .b .trig (.c false) (nn a p)
  | .u .hist a, p => if p = true then .b .trig (.c false) (nn a p) else .b .since (.c true) (nn a p)
  | .b .iff a b, p => .b .or (.b .and (nn a true) (nn b p)) (.b .and (nn a false) (nn b (!p)))
  | .b .imp a b, p => if p = true then .b .or (nn a false) (nn b true) else .b .and (nn a true) (nn b false)
  | .b .wun a b, p => if p = true then .b .rel (nn b true) (.b .or (nn a true) (nn b true)) else .b .unt (nn b false) (.b .and (nn a false) (nn b false))
  | .b o a b, p => if p = true then .b o (nn a true) (nn b true) else .b o.dual (nn a false) (nn b false)
end Fo
set_option Elab.async false
set_option linter.all false
set_option maxRecDepth 100000
namespace Sx
open PySem PySem.Spec PyProof.Rows L2 Mn Ty
abbrev tl (x : Str) : List Nat := x.cps.toList
theorem tl_len (a : Str) : a.length = (tl a).length := by unfold Str.length tl; simp
theorem tl_app (a b : Str) : tl (a ++ b) = tl a ++ tl b := by
  show (Array.toList (a.cps ++ b.cps)) = _
  simp
theorem len_app (a b : Str) : (a ++ b).length = a.length + b.length := by rw [tl_len, tl_app, List.length_append, ← tl_len, ← tl_len]
theorem ok_iff (x : Str) : PyData.strOk x = true ↔ ∀ c ∈ tl x, c < 0x110000 := by
  unfold PyData.strOk tl
  rw [Array.all_eq_true']
  simp
theorem cat_ok {x y : Str} (h : x.length + y.length ≤ 16777216) : gSCat x y = some (x ++ y) := by
  unfold gSCat
  rw [if_pos (by rw [sizeLine_eq]; exact h)]
theorem six_ok {z : Str} {i : Int} (h0 : 0 ≤ i) (h1 : i < (tl z).length) (hz : z.length ≤ 16777216) : ∃ c, (tl z)[i.toNat]? = some c ∧ gSIx z i = some ⟨#[c]⟩ := by
  have hl : i.toNat < (tl z).length := by omega
  refine ⟨(tl z)[i.toNat], List.getElem?_eq_getElem hl, ?_⟩
  unfold gSIx
  rw [if_pos (by rw [sizeLine_eq]; exact hz)]
  have : atI z.cps.toList i = some (tl z)[i.toNat] := by
    have := L2.atI_nat (xs := tl z) (List.getElem?_eq_getElem hl)
    rwa [Int.toNat_of_nonneg h0] at this
  rw [this]
theorem join_ok {a : Str} {ys : List Str} (h : (ys.map (·.length)).sum + ys.length * a.length ≤ 16777216) : gJoin a ys = some (Txt.join a ys) := by
  unfold gJoin
  rw [if_pos (by unfold joinSz; exact decide_eq_true h)]
end Sx
set_option Elab.async false
set_option linter.all false
set_option maxRecDepth 100000
namespace Tn
open PySem PySem.Spec PyProof.Rows L2 Mn Ty
abbrev tl (x : Str) : List Nat := x.cps.toList
def Sm (x : Str) : Prop := ∀ c ∈ tl x, c < 128
theorem Sm.ok {x : Str} (h : Sm x) : okS x = true := (Sx.ok_iff x).mpr fun c hc => by have := h c hc; omega
theorem Sm.app {x y : Str} (h : Sm x) (k : Sm y) : Sm (x ++ y) := fun c hc => by
  rw [show tl (x ++ y) = tl x ++ tl y from TL.tl_append x y, List.mem_append] at hc
  exact hc.elim (h c) (k c)
theorem tl_joinT (y : Str) (ps : List Str) : tl (Txt.join y ps) = TL.joinL (tl y) (ps.map tl) := by
  rw [TL.join_eq]; exact TL.tl_join y ps
theorem joinL_mem {S : List Nat} {c : Nat} : ∀ {ps : List (List Nat)}, c ∈ TL.joinL S ps → c ∈ S ∨ ∃ p ∈ ps, c ∈ p
  | [], h => by cases h
  | [p], h => .inr ⟨p, List.mem_singleton.mpr rfl, h⟩
  | p :: q :: r, h => by
    have h : c ∈ p ++ (S ++ TL.joinL S (q :: r)) := h
    rcases List.mem_append.mp h with h | h
    · exact .inr ⟨p, List.mem_cons_self .., h⟩
    · rcases List.mem_append.mp h with h | h
      · exact .inl h
      · rcases joinL_mem h with h | ⟨z, h1, h2⟩
        · exact .inl h
        · exact .inr ⟨z, List.mem_cons_of_mem _ h1, h2⟩
theorem join_mem {y : Str} {ps : List Str} {c : Nat} (h : c ∈ tl (Txt.join y ps)) : c ∈ tl y ∨ ∃ p ∈ ps, c ∈ tl p := by
  rw [tl_joinT] at h
  rcases joinL_mem h with h | ⟨z, h1, h2⟩
  · exact .inl h
  · obtain ⟨p, hp, rfl⟩ := List.mem_map.mp h1
    exact .inr ⟨p, hp, h2⟩
theorem Sm.join {y : Str} {ps : List Str} (h : Sm y) (k : ∀ p ∈ ps, Sm p) : Sm (Txt.join y ps) := fun c hc => by
  rcases join_mem hc with hc | ⟨p, hp, hc⟩
  · exact h c hc
  · exact k p hp c hc
theorem joinL_len {S : List Nat} {B : Nat} : ∀ {ps : List (List Nat)}, (∀ p ∈ ps, p.length ≤ B) → (TL.joinL S ps).length ≤ ps.length * (B + S.length)
  | [], _ => by simp [TL.joinL]
  | [p], h => by
    have := h p (List.mem_singleton.mpr rfl)
    show p.length ≤ 1 * _
    omega
  | p :: q :: r, h => by
    have h1 := h p (List.mem_cons_self ..)
    have h2 := joinL_len (S := S) (B := B) (ps := q :: r) fun z hz => h z (List.mem_cons_of_mem _ hz)
    show (p ++ (S ++ TL.joinL S (q :: r))).length ≤ _
    rw [List.length_append, List.length_append, List.length_cons (a := p), Nat.succ_mul]
    omega
theorem len_tl (x : Str) : x.length = (tl x).length := TL.len_tl x
theorem join_len {y : Str} {ps : List Str} {B : Nat} (h : ∀ p ∈ ps, p.length ≤ B) : (Txt.join y ps).length ≤ ps.length * (B + y.length) := by
  rw [len_tl, tl_joinT, len_tl y]
  have := joinL_len (S := tl y) (B := B) (ps := ps.map tl) fun z hz => by
    obtain ⟨p, hp, rfl⟩ := List.mem_map.mp hz
    rw [← len_tl]; exact h p hp
  rw [List.length_map] at this
  exact this
theorem sum_len {ps : List Str} {B : Nat} : (∀ p ∈ ps, p.length ≤ B) → (ps.map (·.length)).sum ≤ ps.length * B := by
  induction ps with
  | nil => intro _; simp
  | cons p r ih =>
    intro h
    have h1 := h p (List.mem_cons_self ..)
    have h2 := ih fun z hz => h z (List.mem_cons_of_mem _ hz)
    rw [List.map_cons, List.sum_cons, List.length_cons, Nat.succ_mul]
    omega
theorem join_some {y : Str} {ps : List Str} {B : Nat} (h : ∀ p ∈ ps, p.length ≤ B) (hz : ps.length * (B + y.length) ≤ 16777216) : gJoin y ps = some (Txt.join y ps) := by
  refine Sx.join_ok ?_
  have := sum_len h
  rw [Nat.mul_add] at hz
  omega
theorem app_len (x y : Str) : (x ++ y).length = x.length + y.length := Sx.len_app x y
def lcat (y : Str) : List Str → Str
  | [] => ""
  | p :: r => (p ++ y) ++ lcat y r
theorem tl_lcat {y : Str} : ∀ {ps : List Str}, tl (lcat y ps) = (ps.map fun p => tl p ++ tl y).flatten
  | [] => rfl
  | p :: r => by
    show tl ((p ++ y) ++ lcat y r) = _
    rw [show tl ((p ++ y) ++ lcat y r) = tl (p ++ y) ++ tl (lcat y r) from TL.tl_append _ _, show tl (p ++ y) = tl p ++ tl y from TL.tl_append _ _, tl_lcat]; rfl
theorem split_some {c a : Str} {s : Nat} {ps : List Str} (ec : tl c = [s]) (hs : s < 128) (hne : ps ≠ []) (hp : ∀ p ∈ ps, s ∉ tl p) (ea : a = Txt.join c ps) (hz : a.length ≤ 16777000) : gSplit c a = some ps := by
  unfold gSplit
  have cl : c.length = 1 := by rw [len_tl, ec]; rfl
  rw [if_pos ⟨by rw [cl]; rfl, by rw [sizeLine_eq]; omega⟩, ea]
  congr 1
  refine TL.split_join (s := s) (S := []) ec ?_ hne hp
  rw [← Array.all_toList]
  show (tl c).all _ = true
  rw [ec]; simp; omega
def wd (i : Int) : Str := toString i
def dig : Str := "0123456789"
def numOk (n : Int) : Bool := decide (intText? (wd n) = some n) && decide (1 ≤ (wd n).length ∧ (wd n).length ≤ 2) && (tl (wd n)).all (fun c => decide (48 ≤ c ∧ c ≤ 57)) && ((tl (wd n)).head? != some 48 || decide ((wd n).length = 1)) && decide (n.natAbs.log2 < 1920)
theorem num_fact : ∀ n : Nat, n < 13 → numOk (n : Int) = true := by decide +kernel
structure NumF (n : Int) : Prop where
  it : intText? (wd n) = some n
  l1 : 1 ≤ (wd n).length
  l2 : (wd n).length ≤ 2
  dg : ∀ c ∈ tl (wd n), 48 ≤ c ∧ c ≤ 57
  ld : (tl (wd n)).head? = some 48 → (wd n).length = 1
  lg : n.natAbs.log2 < 1920
theorem numF {n : Int} (h0 : 0 ≤ n) (h1 : n ≤ 12) : NumF n := by
  obtain ⟨k, rfl⟩ := Int.eq_ofNat_of_zero_le h0
  have f := num_fact k (by omega)
  unfold numOk at f
  simp only [Bool.and_eq_true, decide_eq_true_iff, List.all_eq_true, Bool.or_eq_true, bne_iff_ne] at f
  obtain ⟨⟨⟨⟨a, b⟩, c⟩, d⟩, e⟩ := f
  exact ⟨a, b.1, b.2, c, fun h => d.elim (fun z => absurd h z) id, e⟩
theorem NumF.str {n : Int} (F : NumF n) : gStr n = some (wd n) := by unfold gStr; rw [if_pos F.lg]; rfl
theorem NumF.int {n : Int} (F : NumF n) : gIntT (wd n) = some n := by
  unfold gIntT
  rw [F.it]
  simp only
  rw [if_pos (by have := F.l2; omega)]
theorem NumF.sm {n : Int} (F : NumF n) : Sm (wd n) := fun c hc => by have := (F.dg c hc).2; omega
theorem NumF.free {n : Int} (F : NumF n) {s : Nat} (hs : s < 48 ∨ 57 < s) : s ∉ tl (wd n) := fun h => by have := F.dg s h; omega
theorem NumF.six {n : Int} (F : NumF n) : ∃ c, (tl (wd n)).head? = some c ∧ gSIx (wd n) 0 = some ⟨#[c]⟩ := by
  have l1 := F.l1
  have l2 := F.l2
  obtain ⟨c, h1, h2⟩ := Sx.six_ok (z := wd n) (i := 0) (by omega) (by rw [← Sx.tl_len]; omega) (by omega)
  refine ⟨c, ?_, h2⟩
  have h1 : (tl (wd n))[0]? = some c := h1
  rw [List.head?_eq_getElem?]; exact h1
theorem dig_tl : tl dig = [48, 49, 50, 51, 52, 53, 54, 55, 56, 57] := by decide +kernel
end Tn
set_option Elab.async false
set_option linter.all false
set_option maxRecDepth 100000
namespace Tj
open PySem PySem.Spec PyProof.Rows L2 Mn Ty Tn
theorem take_min {α : Type} (l : List α) (k : Nat) : l.take (min k l.length) = l.take k := by
  by_cases h : k ≤ l.length
  · rw [Nat.min_eq_left h]
  · rw [Nat.min_eq_right (by omega), List.take_length, List.take_of_length_le (by omega)]
theorem drop_min {α : Type} (l : List α) (k : Nat) : l.drop (min k l.length) = l.drop k := by
  by_cases h : k ≤ l.length
  · rw [Nat.min_eq_left h]
  · rw [Nat.min_eq_right (by omega), List.drop_length, List.drop_of_length_le (by omega)]
theorem six_some {n d : Nat} {i : Int} (h : 0 ≤ i) : HT.sIx n d (some i) = min i.toNat n := by
  show (if i < 0 then (i + (n : Int)).toNat else min i.toNat n) = _
  rw [if_neg (by omega)]
theorem cut_to {a : Str} {i : Int} (h : 0 ≤ i) : tl (cutS a none (some i)) = (tl a).take i.toNat := by
  show ((tl a).drop (HT.sIx a.length 0 none)).take (HT.sIx a.length a.length (some i) - HT.sIx a.length 0 none) = _
  rw [six_some h, show HT.sIx a.length 0 none = 0 from rfl, List.drop_zero, Nat.sub_zero, len_tl, take_min]
theorem cut_from {a : Str} {i : Int} (h : 0 ≤ i) : tl (cutS a (some i) none) = (tl a).drop i.toNat := by
  show ((tl a).drop (HT.sIx a.length 0 (some i))).take (HT.sIx a.length a.length none - HT.sIx a.length 0 (some i)) = _
  rw [six_some h, show HT.sIx a.length a.length none = a.length from rfl, len_tl, drop_min, List.take_of_length_le]
  rw [List.length_drop]
  omega
theorem sm_sub {a b : Str} (h : Sm a) (k : ∀ c ∈ tl b, c ∈ tl a) : Sm b := fun c hc => h c (k c hc)
theorem sm_to {a : Str} {i : Int} (h : Sm a) (h0 : 0 ≤ i) : Sm (cutS a none (some i)) := sm_sub h fun c hc => by rw [cut_to h0] at hc; exact List.mem_of_mem_take hc
theorem sm_from {a : Str} {i : Int} (h : Sm a) (h0 : 0 ≤ i) : Sm (cutS a (some i) none) := sm_sub h fun c hc => by rw [cut_from h0] at hc; exact List.mem_of_mem_drop hc
theorem len_to {a : Str} {i : Int} (h0 : 0 ≤ i) : (cutS a none (some i)).length ≤ a.length := by
  rw [len_tl, len_tl a, cut_to h0, List.length_take]; omega
theorem len_from {a : Str} {i : Int} (h0 : 0 ≤ i) : (cutS a (some i) none).length ≤ a.length := by
  rw [len_tl, len_tl a, cut_from h0, List.length_drop]; omega
theorem ext_tl {a b : Str} (h : tl a = tl b) : a = b := TL.ext_tl h
theorem tl_app (a b : Str) : tl (a ++ b) = tl a ++ tl b := TL.tl_append a b
theorem tl_nil : tl ("" : Str) = [] := by decide +kernel
theorem tl_nl : tl ("\n" : Str) = [10] := by decide +kernel
theorem pieces : ∀ l : List Nat, ∃ (ps : List (List Nat)) (q : List Nat), (∀ p ∈ ps, 10 ∉ p) ∧ 10 ∉ q ∧ l = (ps.map (· ++ [10])).flatten ++ q
  | [] => ⟨[], [], by simp, by simp, rfl⟩
  | c :: l => by
    obtain ⟨ps, q, h1, h2, rfl⟩ := pieces l
    by_cases hc : c = 10
    · subst hc
      exact ⟨[] :: ps, q, fun p hp => by
        rcases List.mem_cons.mp hp with rfl | hp
        · simp
        · exact h1 p hp, h2, by simp⟩
    · cases ps with
      | nil => exact ⟨[], c :: q, by simp, fun z => (List.mem_cons.mp z).elim (fun e => hc e.symm) h2, by simp⟩
      | cons p r =>
        exact ⟨(c :: p) :: r, q, fun p' hp => by
          rcases List.mem_cons.mp hp with rfl | hp
          · exact fun z => (List.mem_cons.mp z).elim (fun e => hc e.symm) (h1 p (List.mem_cons_self ..))
          · exact h1 p' (List.mem_cons_of_mem _ hp), h2, by simp⟩
structure Cut (x : Str) (qs : List Str) (q : Str) : Prop where
  fr : ∀ p ∈ qs, 10 ∉ tl p
  fq : 10 ∉ tl q
  e : x = lcat "\n" qs ++ q
theorem cut_ex (x : Str) : ∃ qs q, Cut x qs q := by
  obtain ⟨ps, q, h1, h2, h3⟩ := pieces (tl x)
  refine ⟨ps.map fun p => ⟨p.toArray⟩, ⟨q.toArray⟩, fun p hp => ?_, h2, ext_tl ?_⟩
  · obtain ⟨p', hp', rfl⟩ := List.mem_map.mp hp
    exact h1 p' hp'
  · rw [h3, tl_app, tl_lcat, List.map_map, tl_nl]
    rfl
theorem joinL_snoc {S q : List Nat} : ∀ ps : List (List Nat), TL.joinL S (ps ++ [q]) = (ps.map (· ++ S)).flatten ++ q
  | [] => by simp [TL.joinL]
  | [p] => by simp [TL.joinL]
  | p :: p2 :: r => by
    have ih := joinL_snoc (S := S) (q := q) (p2 :: r)
    show p ++ (S ++ TL.joinL S ((p2 :: r) ++ [q])) = _
    rw [ih]
    simp
theorem join_snoc {y q : Str} {qs : List Str} : Txt.join y (qs ++ [q]) = lcat y qs ++ q := ext_tl (by
  rw [tl_app, tl_joinT, List.map_append, tl_lcat]
  exact (joinL_snoc _).trans (by rw [List.map_map]; rfl))
theorem split_nl {x : Str} {qs : List Str} {q : Str} (h : Cut x qs q) (hz : x.length ≤ 16777000) : gSplit "\n" x = some (qs ++ [q]) :=
  split_some tl_nl (by decide) (by simp) (fun p hp => by
    rcases List.mem_append.mp hp with hp | hp
    · exact h.fr p hp
    · rw [List.mem_singleton.mp hp]; exact h.fq) (by rw [join_snoc]; exact h.e) hz
theorem Cut.whole {x : Str} {qs : List Str} {q : Str} (h : Cut x qs q) : Cut (lcat "\n" qs) qs "" := ⟨h.fr, by rw [tl_nil]; simp, ext_tl (by rw [tl_app, tl_nil, List.append_nil])⟩
def ll (ps : List Str) : Nat := (ps.map fun p => p.length + 1).sum
theorem lcat_ll : ∀ ps : List Str, (lcat "\n" ps).length = ll ps
  | [] => by decide +kernel
  | p :: r => by
    have ih := lcat_ll r
    have e1 : ("\n" : Str).length = 1 := by decide +kernel
    show ((p ++ "\n") ++ lcat "\n" r).length = (p.length + 1) + ll r
    rw [app_len, app_len, e1, ih]
theorem ll_app (a b : List Str) : ll (a ++ b) = ll a + ll b := by unfold ll; rw [List.map_append, List.sum_append]
theorem ll_split (ps : List Str) (k : Nat) : ll (ps.take k) + ll (ps.drop k) = ll ps := by rw [← ll_app, List.take_append_drop]
theorem ll_count (ps : List Str) : ps.length ≤ ll ps := by
  induction ps with
  | nil => exact Nat.zero_le _
  | cons p r ih => show r.length + 1 ≤ (p.length + 1) + ll r; omega
theorem join_ll {ps : List Str} : (Txt.join "\n" ps).length ≤ ll ps := by
  rcases List.eq_nil_or_concat ps with rfl | ⟨rs, r, hh⟩
  · show ("" : Str).length ≤ 0
    decide +kernel
  · rw [List.concat_eq_append] at hh
    subst hh
    rw [join_snoc, app_len, lcat_ll, ll_app]
    show _ ≤ _ + ((r.length + 1) + 0)
    omega
theorem join_okL {ps : List Str} (h : ll ps ≤ 16777216) : gJoin "\n" ps = some (Txt.join "\n" ps) := by
  refine Sx.join_ok ?_
  have e1 : ("\n" : Str).length = 1 := by decide +kernel
  rw [e1]
  have : (ps.map (·.length)).sum + ps.length * 1 = ll ps := by
    unfold ll
    induction ps with
    | nil => rfl
    | cons p r ih =>
      simp only [List.map_cons, List.sum_cons, List.length_cons] at ih ⊢
      have := ih (by have : ll (p :: r) = (p.length + 1) + ll r := rfl; omega)
      omega
  omega
def numB (w : Str) : Bool := decide (tl w ≠ []) && !(decide ((tl w).head? = some 48) && decide (1 < w.length)) && (tl w).all fun c => decide (48 ≤ c) && decide (c ≤ 57)
def numV (w : Str) : Int := (NumText.digitsVal (tl w) : Nat)
theorem numB_iff {w : Str} : numB w = true ↔ tl w ≠ [] ∧ ¬ ((tl w).head? = some 48 ∧ 1 < w.length) ∧ ∀ c ∈ tl w, 48 ≤ c ∧ c ≤ 57 := by
  unfold numB
  simp only [Bool.and_eq_true, decide_eq_true_iff, Bool.not_eq_true', Bool.and_eq_false_iff, decide_eq_false_iff_not, List.all_eq_true]
  constructor
  · rintro ⟨⟨a, b⟩, c⟩
    exact ⟨a, fun h => b.elim (fun z => z h.1) (fun z => z h.2), c⟩
  · rintro ⟨a, b, c⟩
    exact ⟨⟨a, Classical.or_iff_not_imp_left.mpr fun h h2 => b ⟨Classical.not_not.mp h, h2⟩⟩, c⟩
theorem num_int {w : Str} (h : numB w = true) (hl : w.length ≤ 640) : gIntT w = some (numV w) := by
  obtain ⟨a, _, c⟩ := numB_iff.mp h
  unfold gIntT
  rw [intText_digits (fun d hd => c d hd) a (by omega)]
  simp only
  rw [if_pos hl]
  rfl
theorem numV_nn (w : Str) : 0 ≤ numV w := by unfold numV; omega
end Tj
set_option Elab.async false
set_option linter.all false
set_option maxRecDepth 100000
namespace Tj
open PySem PySem.Spec PyProof.Rows L2 Mn Ty Tn
theorem piecesG (s : Nat) : ∀ l : List Nat, ∃ (ps : List (List Nat)) (q : List Nat), (∀ p ∈ ps, s ∉ p) ∧ s ∉ q ∧ l = (ps.map (· ++ [s])).flatten ++ q
  | [] => ⟨[], [], by simp, by simp, rfl⟩
  | c :: l => by
    obtain ⟨ps, q, h1, h2, rfl⟩ := piecesG s l
    by_cases hc : c = s
    · subst hc
      exact ⟨[] :: ps, q, fun p hp => by
        rcases List.mem_cons.mp hp with rfl | hp
        · simp
        · exact h1 p hp, h2, by simp⟩
    · cases ps with
      | nil => exact ⟨[], c :: q, by simp, fun z => (List.mem_cons.mp z).elim (fun e => hc e.symm) h2, by simp⟩
      | cons p r =>
        exact ⟨(c :: p) :: r, q, fun p' hp => by
          rcases List.mem_cons.mp hp with rfl | hp
          · exact fun z => (List.mem_cons.mp z).elim (fun e => hc e.symm) (h1 p (List.mem_cons_self ..))
          · exact h1 p' (List.mem_cons_of_mem _ hp), h2, by simp⟩
structure Sp (c x : Str) (ps : List Str) : Prop where
  g : gSplit c x = some ps
  ne : ps ≠ []
  sub : ∀ p ∈ ps, p.length ≤ x.length ∧ ∀ d ∈ tl p, d ∈ tl x
  cnt : ps.length ≤ x.length + 1
theorem sp_ex {c x : Str} {s : Nat} (ec : tl c = [s]) (hs : s < 128) (hz : x.length ≤ 16777000) : ∃ ps, Sp c x ps := by
  obtain ⟨ps, q, h1, h2, h3⟩ := piecesG s (tl x)
  let mk : List Nat → Str := fun p => ⟨p.toArray⟩
  let qs : List Str := ps.map mk ++ [mk q]
  have em : qs.map tl = ps ++ [q] := by
    show (ps.map mk ++ [mk q]).map tl = _
    rw [List.map_append, List.map_map]
    congr 1
    exact (List.map_congr_left fun p _ => rfl).trans (List.map_id _)
  have ex : x = Txt.join c qs := ext_tl (by
    rw [tl_joinT, em, ec, joinL_snoc, h3])
  have mem : ∀ p ∈ qs, tl p ∈ ps ++ [q] := fun p hp => by rw [← em]; exact List.mem_map.mpr ⟨p, hp, rfl⟩
  have tot : ∀ (ps : List (List Nat)) (q : List Nat) (l : List Nat), l = (ps.map (· ++ [s])).flatten ++ q → (∀ p ∈ ps ++ [q], p.length ≤ l.length ∧ ∀ d ∈ p, d ∈ l) ∧ (ps ++ [q]).length ≤ l.length + 1 := by
    intro ps
    induction ps with
    | nil => rintro q l rfl; simp
    | cons p r ih =>
      rintro q l rfl
      obtain ⟨a, b⟩ := ih q _ rfl
      have e : (((p :: r).map (· ++ [s])).flatten ++ q) = (p ++ [s]) ++ ((r.map (· ++ [s])).flatten ++ q) := by simp
      rw [e]
      refine ⟨fun z hz => ?_, ?_⟩
      · rcases List.mem_cons.mp hz with rfl | hz
        · exact ⟨by simp only [List.length_append]; omega, fun d hd => List.mem_append_left _ (List.mem_append_left _ hd)⟩
        · obtain ⟨a1, a2⟩ := a z hz
          exact ⟨by rw [List.length_append (as := p ++ [s])]; omega, fun d hd => List.mem_append_right _ (a2 d hd)⟩
      · have b : r.length + 1 ≤ ((r.map (· ++ [s])).flatten ++ q).length + 1 := by rw [List.length_append] at b; exact b
        rw [List.length_append (as := p ++ [s]), List.length_append (as := p), List.length_append (as := p :: r)]
        simp only [List.length_cons, List.length_nil]
        omega
  obtain ⟨t1, t2⟩ := tot ps q (tl x) h3
  refine ⟨qs, split_some ec hs (by show _ ++ _ ≠ _; simp) (fun p hp => ?_) ex hz, by show _ ++ _ ≠ _; simp, fun p hp => ?_, ?_⟩
  · rcases List.mem_append.mp (mem p hp) with z | z
    · exact h1 _ z
    · rw [List.mem_singleton.mp z]; exact h2
  · obtain ⟨a, b⟩ := t1 _ (mem p hp)
    exact ⟨by rw [len_tl, len_tl x]; exact a, b⟩
  · have := congrArg List.length em
    rw [List.length_map] at this
    rw [this, len_tl]
    exact t2
theorem wd_num {w : Str} (h : numB w = true) : wd (numV w) = w := by
  obtain ⟨a, b, c⟩ := numB_iff.mp h
  refine ext_tl ?_
  rw [show tl (wd (numV w)) = (Nat.toDigits 10 (NumText.digitsVal (tl w))).map Char.toNat from PySem.W.KIN.signs_num _]
  obtain ⟨n, hn⟩ : ∃ n, (tl w).length = n + 1 := ⟨(tl w).length - 1, by have := List.length_pos_iff.mpr a; omega⟩
  rw [NumText.toDigits_digitsVal n (tl w) hn c ?_, List.map_map]
  · refine (List.map_congr_left fun d hd => ?_).trans (List.map_id _)
    have := c d hd
    show (Char.ofNat d).toNat = d
    have : ∀ d : Fin 58, (Char.ofNat d.val).toNat = d.val := by decide
    exact this ⟨d, by have := c d hd; omega⟩
  · cases e : tl w with
    | nil => exact absurd e a
    | cons d r =>
      rw [e] at hn c
      by_cases hr : r = []
      · left
        rw [hr] at hn
        simpa using hn.symm
      · right
        refine ⟨d, r, rfl, ?_⟩
        have := c d (List.mem_cons_self ..)
        have h48 : d ≠ 48 := fun z => b ⟨by rw [e, z]; rfl, by
          rw [len_tl, e, List.length_cons]
          have := List.length_pos_iff.mpr hr
          omega⟩
        omega
def num (w : Str) : Option Int := if numB w = true then some (numV w) else none
def leadP (w : Str) : Option Int := if cutS w none (some 1) = "-" ∧ cutS w (some 1) (some 2) ≠ "0" then (num (cutS w (some 1) none)).map fun n => -n else num w
def leads : List Str := ["-3", "-2", "-1", "0", "1", "2"]
theorem lead_of : ∀ w ∈ leads, ∃ L, leadP w = some L ∧ gIntT w = some L ∧ -3 ≤ L ∧ L ≤ 2 := by
  intro w hw
  have all : ∀ w ∈ leads, (leadP w).isSome = true ∧ gIntT w = leadP w ∧ -3 ≤ (leadP w).getD 0 ∧ (leadP w).getD 0 ≤ 2 := by
    unfold leads gIntT
    decide +kernel
  obtain ⟨a, b, c, d⟩ := all w hw
  obtain ⟨L, e⟩ := Option.isSome_iff_exists.mp a
  rw [e] at b c d
  exact ⟨L, e, b, c, d⟩
theorem wd_small : wd 0 = "0" ∧ wd 1 = "1" ∧ wd 2 = "2" ∧ wd 3 = "3" := by decide +kernel
theorem cut_parts {w : Str} : cutS w none (some 1) ++ cutS w (some 1) none = w := ext_tl (by
  rw [tl_app, cut_to (by decide), cut_from (by decide)]
  exact List.take_append_drop _ _)
theorem minus_all : ("-" : Str) ++ "1" = "-1" ∧ ("-" : Str) ++ "2" = "-2" ∧ ("-" : Str) ++ "3" = "-3" ∧ cutS ("-" ++ "0") (some 1) (some 2) = "0" := by decide +kernel
theorem of_lead {w : Str} {L : Int} (h : leadP w = some L) (h1 : -3 ≤ L) (h2 : L ≤ 2) : w ∈ leads := by
  unfold leadP at h
  by_cases c : cutS w none (some 1) = "-" ∧ cutS w (some 1) (some 2) ≠ "0"
  · rw [if_pos c] at h
    have cp := cut_parts (w := w)
    unfold num at h
    by_cases d : numB (cutS w (some 1) none) = true
    · rw [if_pos d] at h
      have e : -(numV (cutS w (some 1) none)) = L := Option.some.inj h
      have nn := numV_nn (cutS w (some 1) none)
      have wn := wd_num d
      have : numV (cutS w (some 1) none) = 0 ∨ numV (cutS w (some 1) none) = 1 ∨ numV (cutS w (some 1) none) = 2 ∨ numV (cutS w (some 1) none) = 3 := by omega
      rw [c.1] at cp
      rcases this with z | z | z | z
      · rw [z, wd_small.1] at wn
        rw [← wn] at cp
        rw [← cp] at c
        exact absurd minus_all.2.2.2 c.2
      · rw [z, wd_small.2.1] at wn
        rw [← wn, minus_all.1] at cp
        rw [← cp]; decide +kernel
      · rw [z, wd_small.2.2.1] at wn
        rw [← wn, minus_all.2.1] at cp
        rw [← cp]; decide +kernel
      · rw [z, wd_small.2.2.2] at wn
        rw [← wn, minus_all.2.2.1] at cp
        rw [← cp]; decide +kernel
    · rw [if_neg d] at h; cases h
  · rw [if_neg c] at h
    unfold num at h
    by_cases d : numB w = true
    · rw [if_pos d] at h
      have e : numV w = L := Option.some.inj h
      have nn := numV_nn w
      have wn := wd_num d
      have : numV w = 0 ∨ numV w = 1 ∨ numV w = 2 := by omega
      rcases this with z | z | z
      · rw [z, wd_small.1] at wn; rw [← wn]; decide +kernel
      · rw [z, wd_small.2.1] at wn; rw [← wn]; decide +kernel
      · rw [z, wd_small.2.2.1] at wn; rw [← wn]; decide +kernel
    · rw [if_neg d] at h; cases h
end Tj
set_option Elab.async false
set_option linter.all false
set_option maxRecDepth 100000
set_option maxHeartbeats 4000000
namespace K44
open PySem PySem.Spec PyProof.Rows L2 Mn Ty
open Tn Tj
theorem nil_iff {w : Str} : w = "" ↔ tl w = [] := ⟨fun h => by rw [h, tl_nil], fun h => ext_tl (by rw [h, tl_nil])⟩
theorem ok_one {c : Nat} (h : c < 128) : okS (⟨#[c]⟩ : Str) = true := Sm.ok (x := ⟨#[c]⟩) fun d hd => by
  have : d = c := by simpa using hd
  omega
theorem zero_iff {c : Nat} : (⟨#[c]⟩ : Str) = "0" ↔ c = 48 := by
  have e : tl ("0" : Str) = [48] := by decide +kernel
  constructor
  · intro h
    have := congrArg tl h
    rw [e] at this
    have this : [c] = [48] := this
    simpa using this
  · rintro rfl
    exact ext_tl (by rw [e])
theorem six_hd {w : Str} (h : tl w ≠ []) (hz : w.length ≤ 16777216) (hs : Sm w) : ∃ c, (tl w).head? = some c ∧ gSIx w 0 = some ⟨#[c]⟩ ∧ c < 128 := by
  obtain ⟨c, h1, h2⟩ := Sx.six_ok (z := w) (i := 0) (by omega) (by show (0 : Int) < (tl w).length; have := List.length_pos_iff.mpr h; omega) hz
  have h1 : (tl w)[0]? = some c := h1
  exact ⟨c, by rw [List.head?_eq_getElem?]; exact h1, h2, hs c (List.mem_of_getElem? h1)⟩
theorem in_dig2 {c : Nat} : gInS true (⟨#[c]⟩ : Str) "0123456789" = some (!(decide (48 ≤ c) && decide (c ≤ 57))) := by
  unfold gInS
  show some (if true = true then !decide (c ∈ tl dig) else decide (c ∈ tl dig)) = _
  rw [if_pos rfl, dig_tl]
  congr 1
  have : decide (c ∈ [48, 49, 50, 51, 52, 53, 54, 55, 56, 57]) = (decide (48 ≤ c) && decide (c ≤ 57)) := by
    rw [← Bool.decide_and]
    refine decide_eq_decide.mpr ?_
    simp only [List.mem_cons, List.not_mem_nil, or_false]
    omega
  rw [this]
theorem chs_mem {w x : Str} (h : x ∈ chs1 w) : ∃ c ∈ tl w, x = ⟨#[c]⟩ := by
  obtain ⟨c, hc, rfl⟩ := List.mem_map.mp h
  exact ⟨c, hc, rfl⟩
theorem all_dig {w : Str} (h : ∀ x ∈ chs1 w, ∃ c, x = (⟨#[c]⟩ : Str) ∧ 48 ≤ c ∧ c ≤ 57) : ∀ c ∈ tl w, 48 ≤ c ∧ c ≤ 57 := fun c hc => by
  obtain ⟨d, e, k⟩ := h ⟨#[c]⟩ (List.mem_map.mpr ⟨c, hc, rfl⟩)
  have : c = d := by simpa using congrArg tl e
  rw [this]; exact k
theorem lenS {w : Str} (h : w.length ≤ 640) : gLenS w = some (w.length : Int) := by
  unfold gLenS
  first
    | rfl
    | rw [if_pos (by rw [sizeLine_eq]; omega)]
theorem ok_e : okS ("" : Str) = true ∧ okS ("0" : Str) = true := by decide +kernel
theorem rnum_ok {w : Str} (hs : Sm w) (hl : w.length ≤ 640) : Ev (F_read_number () (w, ())) (fun r _ => numB w = true ∧ r = numV w) (fun C _ => C = "MachineSyntaxError" ∧ numB w = false) := by
  have nf : ¬ (tl w ≠ [] ∧ ¬ ((tl w).head? = some 48 ∧ 1 < w.length) ∧ ∀ c ∈ tl w, 48 ≤ c ∧ c ≤ 57) → numB w = false := fun h => by
    cases e : numB w with
    | false => rfl
    | true => exact absurd (numB_iff.mp e) h
  unfold F_read_number
  apply Ev_yRun
  simp only [Ev_ok, Ev_exc, Os_some, Os_if, Ev_xC, Ev_xV, Ev_xN, Ev_xYes, Ev_x1, Ev_x1o, Ev_x2, Ev_x2o, Ev_xIxV, Ev_xIf, Ev_xAnd, Ev_xOr, Ev_xNot, Ev_xCs, Ev_xUn, Ev_xCh, Ev_xSl, Ev_xMeth, Ev_xCall, Ev_xMake, Ev_xComp, Po_nx, Po_yNil, Po_ySeq, Po_ySet, Po_yRet, Po_yRetC, Po_yExpr, Po_yIf, Po_yBreak, Po_yCont, Po_yRaise, Po_yFor, Po_ySetI, Po_yAugI, Po_yTry, gApp, gCat, gMul, gDiv, gMod, gPow, gRep, id, decide_eq_true_eq, Bool.not_eq_true', decide_eq_false_iff_not, Bool.false_eq_true, if_false, if_true, ite_true, ite_false]
  refine ⟨⟨hs.ok, ok_e.1⟩, ?_⟩
  by_cases c1 : w = ""
  · rw [if_pos c1]
    exact ⟨trivial, nf fun h => h.1 (nil_iff.mp c1)⟩
  rw [if_neg c1]
  have hne : tl w ≠ [] := fun z => c1 (nil_iff.mpr z)
  obtain ⟨c, h1, h2, h3⟩ := six_hd hne (by omega) hs
  have rest : ¬ ((tl w).head? = some 48 ∧ 1 < w.length) → Po (yForL V_read_number.put_char (yIf (x2o (gInS true) (xV V_read_number.char) (xC ("0123456789" : Str))) (yRaise "MachineSyntaxError") yNil) (chs1 w) { word := w, char := default }) (fun s => Os (gIntT s.word) fun r => numB w = true ∧ r = numV w) (fun r _ => numB w = true ∧ r = numV w) (fun _ => False) (fun _ => False) (fun C _ => C = "MachineSyntaxError" ∧ numB w = false) := by
    intro hz
    refine po_forP (fun ys s => s.word = w ∧ ∀ x ∈ ys, ∃ c, x = (⟨#[c]⟩ : Str) ∧ 48 ≤ c ∧ c ≤ 57) ⟨rfl, fun x h => nomatch h⟩ ?_ ?_
    · rintro ys zs x s ex ⟨e, h⟩
      obtain ⟨d, hd, rfl⟩ := chs_mem (show x ∈ chs1 w by rw [ex]; simp)
      simp only [Ev_ok, Ev_exc, Os_some, Os_if, Ev_xC, Ev_xV, Ev_xN, Ev_xYes, Ev_x1, Ev_x1o, Ev_x2, Ev_x2o, Ev_xIxV, Ev_xIf, Ev_xAnd, Ev_xOr, Ev_xNot, Ev_xCs, Ev_xUn, Ev_xCh, Ev_xSl, Ev_xMeth, Ev_xCall, Ev_xMake, Ev_xComp, Po_nx, Po_yNil, Po_ySeq, Po_ySet, Po_yRet, Po_yRetC, Po_yExpr, Po_yIf, Po_yBreak, Po_yCont, Po_yRaise, Po_yFor, Po_ySetI, Po_yAugI, Po_yTry, gApp, gCat, gMul, gDiv, gMod, gPow, gRep, id, decide_eq_true_eq, Bool.not_eq_true', decide_eq_false_iff_not, Bool.false_eq_true, if_false, if_true, ite_true, ite_false]
      rw [in_dig2, Os_some]
      by_cases cd : 48 ≤ d ∧ d ≤ 57
      · rw [if_neg (by simp [cd.1, cd.2])]
        refine ⟨e, fun x hx => ?_⟩
        rcases List.mem_append.mp hx with hx | hx
        · exact h x hx
        · exact ⟨d, List.mem_singleton.mp hx, cd⟩
      · rw [if_pos (by
          rw [Bool.not_eq_true', Bool.and_eq_false_iff, decide_eq_false_iff_not, decide_eq_false_iff_not]
          omega)]
        exact ⟨trivial, nf fun k => cd (k.2.2 d hd)⟩
    · rintro s ⟨e, h⟩
      have hB := numB_iff.mpr ⟨hne, hz, all_dig h⟩
      rw [e, num_int hB hl, Os_some]
      exact ⟨hB, rfl⟩
  rw [h2, Os_some]
  refine ⟨⟨ok_one h3, ok_e.2⟩, ?_⟩
  by_cases c2 : (⟨#[c]⟩ : Str) = "0"
  · rw [if_pos c2, lenS hl, Os_some]
    have e48 : (tl w).head? = some 48 := by rw [h1, zero_iff.mp c2]
    by_cases c3 : (1 : Int) < w.length
    · rw [if_pos c3]
      exact ⟨trivial, nf fun h => h.2.1 ⟨e48, by omega⟩⟩
    · rw [if_neg c3]
      exact rest fun h => c3 (by omega)
  · rw [if_neg c2]
    exact rest fun h => c2 (zero_iff.mpr (by rw [h1] at h; simpa using h.1))
open Tn Tj
theorem lnum_ok {w : Str} (hs : Sm w) (hl : w.length ≤ 640) : Ev (F_law_number () (w, ())) (fun r _ => r = if numB w = true then numV w else -1) (fun _ _ => False) := by
  have nf : ¬ (tl w ≠ [] ∧ ¬ ((tl w).head? = some 48 ∧ 1 < w.length) ∧ ∀ c ∈ tl w, 48 ≤ c ∧ c ≤ 57) → numB w = false := fun h => by
    cases e : numB w with
    | false => rfl
    | true => exact absurd (numB_iff.mp e) h
  have bad : ∀ {r : Int}, r = -1 → (¬ (tl w ≠ [] ∧ ¬ ((tl w).head? = some 48 ∧ 1 < w.length) ∧ ∀ c ∈ tl w, 48 ≤ c ∧ c ≤ 57)) → r = if numB w = true then numV w else -1 := fun e h => by rw [nf h, if_neg (by simp)]; exact e
  unfold F_law_number
  apply Ev_yRun
  simp only [Ev_ok, Ev_exc, Os_some, Os_if, Ev_xC, Ev_xV, Ev_xN, Ev_xYes, Ev_x1, Ev_x1o, Ev_x2, Ev_x2o, Ev_xIxV, Ev_xIf, Ev_xAnd, Ev_xOr, Ev_xNot, Ev_xCs, Ev_xUn, Ev_xCh, Ev_xSl, Ev_xMeth, Ev_xCall, Ev_xMake, Ev_xComp, Po_nx, Po_yNil, Po_ySeq, Po_ySet, Po_yRet, Po_yRetC, Po_yExpr, Po_yIf, Po_yBreak, Po_yCont, Po_yRaise, Po_yFor, Po_ySetI, Po_yAugI, Po_yTry, gApp, gCat, gMul, gDiv, gMod, gPow, gRep, id, decide_eq_true_eq, Bool.not_eq_true', decide_eq_false_iff_not, Bool.false_eq_true, if_false, if_true, ite_true, ite_false]
  refine ⟨⟨hs.ok, ok_e.1⟩, ?_⟩
  by_cases c1 : w = ""
  · rw [if_pos c1]
    exact bad rfl fun h => h.1 (nil_iff.mp c1)
  rw [if_neg c1, lenS hl, Os_some]
  have hne : tl w ≠ [] := fun z => c1 (nil_iff.mpr z)
  obtain ⟨c, h1, h2, h3⟩ := six_hd hne (by omega) hs
  have rest : ¬ ((tl w).head? = some 48 ∧ 1 < w.length) → Po (yForL V_law_number.put_lchar (yIf (x2o (gInS true) (xV V_law_number.lchar) (xC ("0123456789" : Str))) (yRet (x1 (fun i : Int => -i) (xC (1 : Int)))) yNil) (chs1 w) { lword := w, lchar := default }) (fun s => Os (gIntT s.lword) fun r => r = if numB w = true then numV w else -1) (fun r _ => r = if numB w = true then numV w else -1) (fun _ => False) (fun _ => False) (fun _ _ => False) := by
    intro hz
    refine po_forP (fun ys s => s.lword = w ∧ ∀ x ∈ ys, ∃ c, x = (⟨#[c]⟩ : Str) ∧ 48 ≤ c ∧ c ≤ 57) ⟨rfl, fun x h => nomatch h⟩ ?_ ?_
    · rintro ys zs x s ex ⟨e, h⟩
      obtain ⟨d, hd, rfl⟩ := chs_mem (show x ∈ chs1 w by rw [ex]; simp)
      simp only [Ev_ok, Ev_exc, Os_some, Os_if, Ev_xC, Ev_xV, Ev_xN, Ev_xYes, Ev_x1, Ev_x1o, Ev_x2, Ev_x2o, Ev_xIxV, Ev_xIf, Ev_xAnd, Ev_xOr, Ev_xNot, Ev_xCs, Ev_xUn, Ev_xCh, Ev_xSl, Ev_xMeth, Ev_xCall, Ev_xMake, Ev_xComp, Po_nx, Po_yNil, Po_ySeq, Po_ySet, Po_yRet, Po_yRetC, Po_yExpr, Po_yIf, Po_yBreak, Po_yCont, Po_yRaise, Po_yFor, Po_ySetI, Po_yAugI, Po_yTry, gApp, gCat, gMul, gDiv, gMod, gPow, gRep, id, decide_eq_true_eq, Bool.not_eq_true', decide_eq_false_iff_not, Bool.false_eq_true, if_false, if_true, ite_true, ite_false]
      rw [in_dig2, Os_some]
      by_cases cd : 48 ≤ d ∧ d ≤ 57
      · rw [if_neg (by simp [cd.1, cd.2])]
        refine ⟨e, fun x hx => ?_⟩
        rcases List.mem_append.mp hx with hx | hx
        · exact h x hx
        · exact ⟨d, List.mem_singleton.mp hx, cd⟩
      · rw [if_pos (by
          rw [Bool.not_eq_true', Bool.and_eq_false_iff, decide_eq_false_iff_not, decide_eq_false_iff_not]
          omega)]
        exact bad rfl fun k => cd (k.2.2 d hd)
    · rintro s ⟨e, h⟩
      have hB := numB_iff.mpr ⟨hne, hz, all_dig h⟩
      rw [e, num_int hB hl, Os_some, if_pos hB]
  by_cases c3 : (1 : Int) < w.length
  · rw [if_pos c3, h2, Os_some]
    refine ⟨⟨ok_one h3, ok_e.2⟩, ?_⟩
    by_cases c2 : (⟨#[c]⟩ : Str) = "0"
    · rw [if_pos c2]
      have e48 : (tl w).head? = some 48 := by rw [h1, zero_iff.mp c2]
      exact bad rfl fun h => h.2.1 ⟨e48, by omega⟩
    · rw [if_neg c2]
      exact rest fun h => c2 (zero_iff.mpr (by rw [h1] at h; simpa using h.1))
  · rw [if_neg c3]
    exact rest fun h => c3 (by omega)
def allP {α β : Type} (f : α → Option β) : List α → Option (List β)
  | [] => some []
  | x :: r => (f x).bind fun y => (allP f r).map (y :: ·)
theorem allP_app {α β : Type} {f : α → Option β} : ∀ {a b : List α}, allP f (a ++ b) = (allP f a).bind fun u => (allP f b).map (u ++ ·)
  | [], b => by
    show allP f b = (some []).bind _
    cases allP f b <;> rfl
  | x :: r, b => by
    have ih := allP_app (f := f) (a := r) (b := b)
    show (f x).bind _ = ((f x).bind _).bind _
    cases f x with
    | none => rfl
    | some y =>
      show (allP f (r ++ b)).map _ = ((allP f r).map _).bind _
      rw [ih]
      cases allP f r with
      | none => rfl
      | some u => cases allP f b <;> rfl
theorem allP_snoc {α β : Type} {f : α → Option β} {ys : List α} {acc : List β} {x : α} {y : β} (h : allP f ys = some acc) (k : f x = some y) : allP f (ys ++ [x]) = some (acc ++ [y]) := by
  rw [allP_app, h]
  show ((f x).bind fun y => (some []).map (y :: ·)).map _ = _
  rw [k]; rfl
theorem allP_none {α β : Type} {f : α → Option β} {x : α} (k : f x = none) : ∀ {xs : List α}, x ∈ xs → allP f xs = none
  | z :: r, h => by
    show (f z).bind _ = none
    rcases List.mem_cons.mp h with rfl | h
    · rw [k]; rfl
    · rw [allP_none k h]
      cases f z <;> rfl
theorem allP_len {α β : Type} {f : α → Option β} : ∀ {xs : List α} {ys : List β}, allP f xs = some ys → ys.length = xs.length ∧ ∀ y ∈ ys, ∃ x ∈ xs, f x = some y
  | [], ys, h => by cases h; exact ⟨rfl, fun y hy => nomatch hy⟩
  | x :: r, ys, h => by
    have h : (f x).bind (fun y => (allP f r).map (y :: ·)) = some ys := h
    cases e : f x with
    | none => rw [e] at h; cases h
    | some y =>
      rw [e] at h
      cases e2 : allP f r with
      | none => rw [e2] at h; cases h
      | some u =>
        rw [e2] at h
        have h : y :: u = ys := Option.some.inj h
        subst h
        obtain ⟨a, b⟩ := allP_len e2
        exact ⟨by rw [List.length_cons, List.length_cons, a], fun z hz => by
          rcases List.mem_cons.mp hz with rfl | hz
          · exact ⟨x, List.mem_cons_self .., e⟩
          · obtain ⟨w, h1, h2⟩ := b z hz
            exact ⟨w, List.mem_cons_of_mem _ h1, h2⟩⟩
theorem compX_all {α β σ : Type} {f : α → Option β} {E0 : Str} {st : σ → α → σ} {pe : σ → X σ β} {xs : List α} {s : σ} {k : List β → σ → Prop} {e : Str → σ → Prop} (J : σ → Prop) (h0 : J s) (hz : xs.length ≤ 16777215)
    (step : ∀ x ∈ xs, ∀ s, J s → Ev (pe (st s x)) (fun y s2 => f x = some y ∧ J s2) (fun C _ => C = E0 ∧ f x = none)) (fin : ∀ acc s, allP f xs = some acc → J s → k acc s) (fine : ∀ s, allP f xs = none → e E0 s) : Ev (xCompLX st xYes pe xs [] s) k e := by
  refine compX_inv (fun ys acc s => allP f ys = some acc ∧ J s) ⟨rfl, h0⟩ ?_ fun acc s h => fin acc s h.1 h.2
  rintro ys zs x acc s ex ⟨h1, h2⟩
  rw [Ev_xYes, if_pos rfl]
  have hx : x ∈ xs := by rw [ex]; simp
  refine (step x hx s h2).mono ?_ ?_
  · rintro y s2 ⟨k1, k2⟩
    refine ⟨?_, allP_snoc h1 k1, k2⟩
    have := (allP_len h1).1
    have e := congrArg List.length ex
    rw [List.length_append, List.length_cons] at e
    rw [sizeLine_eq]; omega
  · rintro C s2 ⟨rfl, k2⟩
    exact fine s2 (allP_none k2 hx)
def pairQ : List Str → Option (Int × Int)
  | [a, b] => (num a).bind fun x => (num b).map fun y => (x, y)
  | _ => none
def pairP (w : Str) : Option (Int × Int) := (gSplit "/" w).bind pairQ
def rowP (line : Str) : Option (List (Int × Int)) := (gSplit " " line).bind (allP pairP)
structure Wd (w : Str) : Prop where
  s : Sm w
  l : w.length ≤ 640
theorem Wd.sub {c x : Str} {ps : List Str} (h : Wd x) (k : Sp c x ps) : ∀ p ∈ ps, Wd p := fun p hp => ⟨fun d hd => h.s d ((k.sub p hp).2 d hd), Nat.le_trans (k.sub p hp).1 h.l⟩
theorem seps : tl ("/" : Str) = [47] ∧ tl (" " : Str) = [32] ∧ tl ("\n" : Str) = [10] := by decide +kernel
theorem Wd.spl {x : Str} (h : Wd x) : ∃ ps, Sp " " x ps := sp_ex seps.2.1 (by decide) (by have := h.l; omega)
theorem Wd.spl2 {x : Str} (h : Wd x) : ∃ ps, Sp "/" x ps := sp_ex seps.1 (by decide) (by have := h.l; omega)
theorem Wd.spl3 {x : Str} (h : Wd x) : ∃ ps, Sp "\n" x ps := sp_ex seps.2.2 (by decide) (by have := h.l; omega)
theorem rn_ok {w : Str} (h : Wd w) : Ev (F_read_number () (w, ())) (fun r _ => num w = some r) (fun C _ => C = "MachineSyntaxError" ∧ num w = none) := (rnum_ok h.s h.l).mono (fun r _ ⟨a, b⟩ => by unfold num; rw [if_pos a, b]) fun C _ ⟨a, b⟩ => ⟨a, by unfold num; rw [if_neg (by rw [b]; simp)]⟩
def nv (w : Str) : Int := (num w).getD (-1)
theorem ln_ok {w : Str} (h : Wd w) : Ev (F_law_number () (w, ())) (fun r _ => r = nv w) (fun _ _ => False) := (lnum_ok h.s h.l).mono (fun r _ e => by
  rw [e]; unfold nv num
  by_cases c : numB w = true
  · rw [if_pos c, if_pos c]; rfl
  · rw [if_neg c, if_neg c]; rfl) fun _ _ h => h
theorem num_nn {w : Str} {n : Int} (h : num w = some n) : 0 ≤ n := by
  unfold num at h
  split at h
  · cases h; exact numV_nn w
  · cases h
theorem nv_neg {w : Str} : nv w < 0 ↔ num w = none := by
  unfold nv
  cases e : num w with
  | none => exact ⟨fun _ => rfl, fun _ => by decide⟩
  | some n => exact ⟨fun h => absurd (num_nn e) (by have h : n < 0 := h; omega), fun h => nomatch h⟩
theorem sm_mid {a : Str} {i j : Option Int} (h : Sm a) : Sm (cutS a i j) := fun c hc => h c (List.mem_of_mem_drop (List.mem_of_mem_take hc))
theorem len_mid {a : Str} {i j : Option Int} : (cutS a i j).length ≤ a.length := by
  rw [len_tl, len_tl a]
  show (((tl a).drop _).take _).length ≤ _
  rw [List.length_take, List.length_drop]; omega
theorem litOk : okS ("-" : Str) = true ∧ okS ("0" : Str) = true ∧ okS ("" : Str) = true ∧ okS ("machine" : Str) = true ∧ okS ("opening" : Str) = true := by decide +kernel
theorem rlead_ok {w : Str} (h : Wd w) : Ev (F_read_lead () (w, ())) (fun r _ => leadP w = some r) (fun C _ => C = "MachineSyntaxError" ∧ leadP w = none) := by
  unfold F_read_lead
  apply Ev_yRun
  simp only [Ev_ok, Ev_exc, Os_some, Os_if, Ev_xC, Ev_xV, Ev_xN, Ev_xYes, Ev_x1, Ev_x1o, Ev_x2, Ev_x2o, Ev_xIxV, Ev_xIf, Ev_xAnd, Ev_xOr, Ev_xNot, Ev_xCs, Ev_xUn, Ev_xCh, Ev_xSl, Ev_xMeth, Ev_xCall, Ev_xMake, Ev_xComp, Po_nx, Po_yNil, Po_ySeq, Po_ySet, Po_yRet, Po_yRetC, Po_yExpr, Po_yIf, Po_yBreak, Po_yCont, Po_yRaise, Po_yFor, Po_ySetI, Po_yAugI, Po_yTry, gApp, gCat, gMul, gDiv, gMod, gPow, gRep, id, decide_eq_true_eq, Bool.not_eq_true', decide_eq_false_iff_not, Bool.false_eq_true, if_false, if_true, ite_true, ite_false]
  simp only [Ev_xSlS]
  simp only [Ev_ok, Ev_exc, Os_some, Os_if, Ev_xC, Ev_xV, Ev_xN, Ev_xYes, Ev_x1, Ev_x1o, Ev_x2, Ev_x2o, Ev_xIxV, Ev_xIf, Ev_xAnd, Ev_xOr, Ev_xNot, Ev_xCs, Ev_xUn, Ev_xCh, Ev_xSl, Ev_xMeth, Ev_xCall, Ev_xMake, Ev_xComp, Po_nx, Po_yNil, Po_ySeq, Po_ySet, Po_yRet, Po_yRetC, Po_yExpr, Po_yIf, Po_yBreak, Po_yCont, Po_yRaise, Po_yFor, Po_ySetI, Po_yAugI, Po_yTry, gApp, gCat, gMul, gDiv, gMod, gPow, gRep, id, decide_eq_true_eq, Bool.not_eq_true', decide_eq_false_iff_not, Bool.false_eq_true, if_false, if_true, ite_true, ite_false]
  have z : w.length ≤ sizeLine := by rw [sizeLine_eq]; have := h.l; omega
  have h1 : Wd (cutS w (some 1) none) := ⟨sm_mid h.s, Nat.le_trans len_mid h.l⟩
  have rest : ¬ (cutS w none (some 1) = "-" ∧ cutS w (some 1) (some 2) ≠ "0") → Ev (F_read_number () (w, ())) (fun r _ => leadP w = some r) (fun C _ => C = "MachineSyntaxError" ∧ leadP w = none) := fun c => by
    unfold leadP
    rw [if_neg c]
    exact rn_ok h
  refine ⟨z, ⟨(sm_mid h.s).ok, litOk.1⟩, ?_⟩
  by_cases c1 : cutS w none (some 1) = "-"
  · rw [if_pos c1]
    refine ⟨z, ⟨(sm_mid h.s).ok, litOk.2.1⟩, ?_⟩
    by_cases c2 : cutS w (some 1) (some 2) = "0"
    · rw [if_neg (fun k => k c2)]
      exact rest fun k => k.2 c2
    · rw [if_pos c2]
      refine ⟨z, (rn_ok h1).mono ?_ ?_⟩
      · rintro r _ e
        unfold leadP
        rw [if_pos ⟨c1, c2⟩, e]; rfl
      · rintro C _ ⟨a, e⟩
        refine ⟨a, ?_⟩
        unfold leadP
        rw [if_pos ⟨c1, c2⟩, e]; rfl
  · rw [if_neg c1]
    exact rest fun k => c1 k.1
theorem rwords_ok {line first : Str} (h : Wd line) (hf : okS first = true) : Ev (F_read_words () (line, first, ())) (fun r _ => gSplit " " line = some (first :: r)) (fun C _ => C = "MachineSyntaxError" ∧ ∀ r, gSplit " " line ≠ some (first :: r)) := by
  obtain ⟨ps, S⟩ := h.spl
  have W := h.sub S
  unfold F_read_words
  apply Ev_yRun
  simp only [Ev_ok, Ev_exc, Os_some, Os_if, Ev_xC, Ev_xV, Ev_xN, Ev_xYes, Ev_x1, Ev_x1o, Ev_x2, Ev_x2o, Ev_xIxV, Ev_xIf, Ev_xAnd, Ev_xOr, Ev_xNot, Ev_xCs, Ev_xUn, Ev_xCh, Ev_xSl, Ev_xMeth, Ev_xCall, Ev_xMake, Ev_xComp, Po_nx, Po_yNil, Po_ySeq, Po_ySet, Po_yRet, Po_yRetC, Po_yExpr, Po_yIf, Po_yBreak, Po_yCont, Po_yRaise, Po_yFor, Po_ySetI, Po_yAugI, Po_yTry, gApp, gCat, gMul, gDiv, gMod, gPow, gRep, id, decide_eq_true_eq, Bool.not_eq_true', decide_eq_false_iff_not, Bool.false_eq_true, if_false, if_true, ite_true, ite_false]
  rw [S.g, Os_some]
  cases ps with
  | nil => exact absurd rfl S.ne
  | cons p r =>
    rw [show gIx (p :: r) (0 : Int) = some p from gIx_nat (j := 0) rfl, Os_some]
    refine ⟨⟨(W p (List.mem_cons_self ..)).s.ok, hf⟩, ?_⟩
    by_cases c : p = first
    · subst c
      rw [if_neg (fun k => k rfl)]
      rw [Fo.cut1]
    · rw [if_pos c]
      refine ⟨trivial, fun u e => ?_⟩
      cases e
      exact c rfl
theorem pairP_of {w : Str} {ps : List Str} (e : gSplit "/" w = some ps) : pairP w = pairQ ps := by
  unfold pairP
  rw [e]; rfl
theorem rpair_ok {w : Str} (h : Wd w) : Ev (F_read_pair () (w, ())) (fun r _ => pairP w = some r) (fun C _ => C = "MachineSyntaxError" ∧ pairP w = none) := by
  obtain ⟨ps, S⟩ := h.spl2
  have W := h.sub S
  unfold F_read_pair
  apply Ev_yRun
  simp only [Ev_ok, Ev_exc, Os_some, Os_if, Ev_xC, Ev_xV, Ev_xN, Ev_xYes, Ev_x1, Ev_x1o, Ev_x2, Ev_x2o, Ev_xIxV, Ev_xIf, Ev_xAnd, Ev_xOr, Ev_xNot, Ev_xCs, Ev_xUn, Ev_xCh, Ev_xSl, Ev_xMeth, Ev_xCall, Ev_xMake, Ev_xComp, Po_nx, Po_yNil, Po_ySeq, Po_ySet, Po_yRet, Po_yRetC, Po_yExpr, Po_yIf, Po_yBreak, Po_yCont, Po_yRaise, Po_yFor, Po_ySetI, Po_yAugI, Po_yTry, gApp, gCat, gMul, gDiv, gMod, gPow, gRep, id, decide_eq_true_eq, Bool.not_eq_true', decide_eq_false_iff_not, Bool.false_eq_true, if_false, if_true, ite_true, ite_false]
  rw [S.g, Os_some, pairP_of S.g]
  rcases ps with _ | ⟨a, _ | ⟨b, _ | ⟨c, r⟩⟩⟩
  · rw [if_pos (by simp)]; exact ⟨trivial, rfl⟩
  · rw [if_pos (by simp)]; exact ⟨trivial, rfl⟩
  · rw [if_neg (by simp)]
    rw [show gIx [a, b] (0 : Int) = some a from gIx_nat (j := 0) rfl, Os_some]
    refine (rn_ok (W a (by simp))).mono ?_ ?_
    · rintro x _ ex
      rw [show gIx [a, b] (1 : Int) = some b from gIx_nat (j := 1) rfl, Os_some]
      refine (rn_ok (W b (by simp))).mono ?_ ?_
      · rintro y _ ey
        show (num a).bind _ = _
        rw [ex, ey]; rfl
      · rintro C _ ⟨q, ey⟩
        refine ⟨q, ?_⟩
        show (num a).bind _ = _
        rw [ex, ey]; rfl
    · rintro C _ ⟨q, ex⟩
      refine ⟨q, ?_⟩
      show (num a).bind _ = _
      rw [ex]; rfl
  · rw [if_pos (by simp <;> omega)]; exact ⟨trivial, rfl⟩
theorem llead_ok {w : Str} (h : Wd w) : Ev (F_law_lead () (w, ())) (fun r _ => (r = 9 ∧ ∀ L, leadP w = some L → ¬ (-3 ≤ L ∧ L ≤ 2)) ∨ (leadP w = some r ∧ -3 ≤ r ∧ r ≤ 2)) (fun _ _ => False) := by
  unfold F_law_lead
  apply Ev_yRun
  simp only [Ev_ok, Ev_exc, Os_some, Os_if, Ev_xC, Ev_xV, Ev_xN, Ev_xYes, Ev_x1, Ev_x1o, Ev_x2, Ev_x2o, Ev_xIxV, Ev_xIf, Ev_xAnd, Ev_xOr, Ev_xNot, Ev_xCs, Ev_xUn, Ev_xCh, Ev_xSl, Ev_xMeth, Ev_xCall, Ev_xMake, Ev_xComp, Po_nx, Po_yNil, Po_ySeq, Po_ySet, Po_yRet, Po_yRetC, Po_yExpr, Po_yIf, Po_yBreak, Po_yCont, Po_yRaise, Po_yFor, Po_ySetI, Po_yAugI, Po_yTry, gApp, gCat, gMul, gDiv, gMod, gPow, gRep, id, decide_eq_true_eq, Bool.not_eq_true', decide_eq_false_iff_not, Bool.false_eq_true, if_false, if_true, ite_true, ite_false]
  by_cases c : w ∈ leads
  · rw [if_pos (by
      unfold leads at c
      simp only [List.mem_cons, List.not_mem_nil, or_false] at c
      simp only [List.any_cons, List.any_nil, Bool.or_false, Bool.or_eq_true, beq_iff_eq]
      rcases c with c | c | c | c | c | c <;> simp [c])]
    obtain ⟨L, e1, e2, e3, e4⟩ := lead_of w c
    rw [e2, Os_some]
    exact .inr ⟨e1, e3, e4⟩
  · rw [if_neg (fun k => c (by
      simp only [List.any_cons, List.any_nil, Bool.or_false, Bool.or_eq_true, beq_iff_eq] at k
      unfold leads
      simp only [List.mem_cons, List.not_mem_nil, or_false]
      rcases k with k | k | k | k | k | k <;> simp [← k]))]
    exact .inl ⟨trivial, fun L e q => c (of_lead e q.1 q.2)⟩
theorem lpairs_ok {line : Str} (h : Wd line) : Ev (F_law_pairs () (line, ())) (fun r _ => r = (rowP line).getD []) (fun _ _ => False) := by
  obtain ⟨ps, S⟩ := h.spl
  have W := h.sub S
  have er : rowP line = allP pairP ps := by unfold rowP; rw [S.g]; rfl
  have pl := h.l
  have cnt := S.cnt
  unfold F_law_pairs
  apply Ev_yRun
  simp only [Ev_ok, Ev_exc, Os_some, Os_if, Ev_xC, Ev_xV, Ev_xN, Ev_xYes, Ev_x1, Ev_x1o, Ev_x2, Ev_x2o, Ev_xIxV, Ev_xIf, Ev_xAnd, Ev_xOr, Ev_xNot, Ev_xCs, Ev_xUn, Ev_xCh, Ev_xSl, Ev_xMeth, Ev_xCall, Ev_xMake, Ev_xComp, Po_nx, Po_yNil, Po_ySeq, Po_ySet, Po_yRet, Po_yRetC, Po_yExpr, Po_yIf, Po_yBreak, Po_yCont, Po_yRaise, Po_yFor, Po_ySetI, Po_yAugI, Po_yTry, gApp, gCat, gMul, gDiv, gMod, gPow, gRep, id, decide_eq_true_eq, Bool.not_eq_true', decide_eq_false_iff_not, Bool.false_eq_true, if_false, if_true, ite_true, ite_false]
  rw [S.g, Os_some]
  refine po_forP (fun ys s => allP pairP ys = some s.lfound) rfl ?_ ?_
  · rintro ys zs x s ex h1
    have ex : ps = ys ++ x :: zs := ex
    have hx : x ∈ ps := by rw [ex]; simp
    obtain ⟨qs, S2⟩ := (W x hx).spl2
    have W2 := (W x hx).sub S2
    have ep := pairP_of S2.g
    have nogo : pairP x = none → ([] : List (Int × Int)) = (rowP line).getD [] := fun k => by rw [er, allP_none k hx]; rfl
    simp only [Ev_ok, Ev_exc, Os_some, Os_if, Ev_xC, Ev_xV, Ev_xN, Ev_xYes, Ev_x1, Ev_x1o, Ev_x2, Ev_x2o, Ev_xIxV, Ev_xIf, Ev_xAnd, Ev_xOr, Ev_xNot, Ev_xCs, Ev_xUn, Ev_xCh, Ev_xSl, Ev_xMeth, Ev_xCall, Ev_xMake, Ev_xComp, Po_nx, Po_yNil, Po_ySeq, Po_ySet, Po_yRet, Po_yRetC, Po_yExpr, Po_yIf, Po_yBreak, Po_yCont, Po_yRaise, Po_yFor, Po_ySetI, Po_yAugI, Po_yTry, gApp, gCat, gMul, gDiv, gMod, gPow, gRep, id, decide_eq_true_eq, Bool.not_eq_true', decide_eq_false_iff_not, Bool.false_eq_true, if_false, if_true, ite_true, ite_false]
    rw [S2.g, Os_some]
    rcases qs with _ | ⟨a, _ | ⟨b, _ | ⟨c, r⟩⟩⟩
    · rw [if_pos (by simp)]; exact nogo ep
    · rw [if_pos (by simp)]; exact nogo ep
    · rw [if_neg (by simp)]
      have ep : pairP x = (num a).bind fun x => (num b).map fun y => (x, y) := ep
      have g0 : gIx [a, b] (0 : Int) = some a := gIx_nat (j := 0) rfl
      have g1 : gIx [a, b] (1 : Int) = some b := gIx_nat (j := 1) rfl
      rw [g0, Os_some]
      refine (ln_ok (W2 a (by simp))).mono ?_ (fun _ _ h => h)
      rintro _ _ rfl
      by_cases c1 : nv a < 0
      · rw [if_pos c1]
        exact nogo (by rw [ep, nv_neg.mp c1]; rfl)
      · rw [if_neg c1]
        rw [g1, Os_some]
        refine (ln_ok (W2 b (by simp))).mono ?_ (fun _ _ h => h)
        rintro _ _ rfl
        by_cases c2 : nv b < 0
        · rw [if_pos c2]
          exact nogo (by rw [ep, nv_neg.mp c2]; cases num a <;> rfl)
        · rw [if_neg c2]
          rw [Os_some]
          refine (ln_ok (W2 a (by simp))).mono ?_ (fun _ _ h => h)
          rintro _ _ rfl
          rw [Os_some]
          refine (ln_ok (W2 b (by simp))).mono ?_ (fun _ _ h => h)
          rintro _ _ rfl
          have ha : num a = some (nv a) := by
            cases e : num a with
            | none => exact absurd (nv_neg.mpr e) c1
            | some n => unfold nv; rw [e]; rfl
          have hb : num b = some (nv b) := by
            cases e : num b with
            | none => exact absurd (nv_neg.mpr e) c2
            | some n => unfold nv; rw [e]; rfl
          have l1 := (allP_len h1).1
          have e := congrArg List.length ex
          rw [List.length_append, List.length_cons] at e
          refine ⟨by rw [sizeLine_eq]; show s.lfound.length < _; omega, ?_⟩
          exact allP_snoc h1 (by rw [ep, ha, hb]; rfl)
    · rw [if_pos (by simp <;> omega)]; exact nogo ep
  · rintro s h1
    rw [er, h1]; rfl
end K44
set_option Elab.async false
set_option linter.all false
set_option maxRecDepth 100000
set_option maxHeartbeats 4000000
namespace K44
open PySem PySem.Spec PyProof.Rows L2 Mn Ty
open Tn Tj
def headQ : List Str → Option (Int × Int × Int)
  | [a, b, c] => (num a).bind fun i => (num b).bind fun o => (leadP c).map fun L => (i, o, L)
  | _ => none
def tailQ (first : Str) : Option (List Str) → Option (List Str)
  | some (m :: r) => if m = first then some r else none
  | _ => none
def tailP (first line : Str) : Option (List Str) := tailQ first (gSplit " " line)
def bodyP (l0 l1 : Str) (mid : List Str) : Option (Int × Int × Int × List Int × List (List (Int × Int))) :=
  ((tailP "machine" l0).bind headQ).bind fun h => ((tailP "opening" l1).bind (allP num)).bind fun op => (allP rowP mid).map fun rows => (h.1, h.2.1, h.2.2, op, rows)
def linesQ : List Str → Option (Int × Int × Int × List Int × List (List (Int × Int)))
  | l0 :: l1 :: r => if 2 ≤ r.length ∧ r.getLast? = some "" then bodyP l0 l1 r.dropLast else none
  | _ => none
def readP (text : Str) : Option (Int × Int × Int × List Int × List (List (Int × Int))) := (gSplit "\n" text).bind linesQ
theorem readP_of {text : Str} {ls : List Str} (e : gSplit "\n" text = some ls) : readP text = linesQ ls := by unfold readP; rw [e]; rfl
theorem linesQ_short {ls : List Str} (h : ls.length < 4) : linesQ ls = none := by
  rcases ls with _ | ⟨a, _ | ⟨b, r⟩⟩
  · rfl
  · rfl
  · show (if _ then _ else none) = none
    rw [if_neg]
    rw [List.length_cons, List.length_cons] at h
    omega
theorem lines_shape {ls : List Str} (h : ¬ ls.length < 4) : ∃ l0 l1 mid last, ls = l0 :: l1 :: (mid ++ [last]) ∧ mid ≠ [] := by
  rcases ls with _ | ⟨a, _ | ⟨b, r⟩⟩
  · simp at h
  · simp at h
  · rcases List.eq_nil_or_concat r with rfl | ⟨m, z, hh⟩
    · simp at h
    · rw [List.concat_eq_append] at hh
      subst hh
      refine ⟨a, b, m, z, rfl, ?_⟩
      rintro rfl
      simp at h
theorem linesQ_of {l0 l1 last : Str} {mid : List Str} (h : mid ≠ []) : linesQ (l0 :: l1 :: (mid ++ [last])) = if last = "" then bodyP l0 l1 mid else none := by
  show (if _ then _ else none) = _
  have : 1 ≤ mid.length := by
    cases mid with
    | nil => exact absurd rfl h
    | cons _ _ => simp
  by_cases c : last = ""
  · subst c
    rw [if_pos ⟨by rw [List.length_append]; simp; omega, by simp⟩, if_pos rfl, List.dropLast_concat]
  · rw [if_neg (fun k => c (by simpa using k.2)), if_neg c]
theorem cut_mid4 {l0 l1 last : Str} {xs : List Str} : gCut (l0 :: l1 :: (xs ++ [last])) (some 2) (some (-1)) = xs := by
  have n : (l0 :: l1 :: (xs ++ [last])).length = xs.length + 3 := by simp
  have h2 : HT.sIx (l0 :: l1 :: (xs ++ [last])).length 0 (some 2) = 2 := by rw [n]; unfold HT.sIx; simp only; split <;> omega
  have h3 : HT.sIx (l0 :: l1 :: (xs ++ [last])).length (l0 :: l1 :: (xs ++ [last])).length (some (-1)) = xs.length + 2 := by rw [n]; unfold HT.sIx; simp only; split <;> omega
  unfold gCut
  rw [h2, h3]
  show (xs ++ [last]).take (xs.length + 2 - 2) = xs
  rw [Nat.add_sub_cancel, List.take_left]
theorem cut_mid5 {l0 l1 last : Str} {xs : List Str} {k : Int} (hk : k = (xs.length : Int) + 2) : gCut (l0 :: l1 :: (xs ++ [last])) (some 2) (some k) = xs := by
  subst hk
  have n : (l0 :: l1 :: (xs ++ [last])).length = xs.length + 3 := by simp
  have h2 : HT.sIx (l0 :: l1 :: (xs ++ [last])).length 0 (some 2) = 2 := by rw [n]; unfold HT.sIx; simp only; split <;> omega
  have h3 : HT.sIx (l0 :: l1 :: (xs ++ [last])).length (l0 :: l1 :: (xs ++ [last])).length (some ((xs.length : Int) + 2)) = xs.length + 2 := by rw [n]; unfold HT.sIx; simp only; split <;> omega
  unfold gCut
  rw [h2, h3]
  show (xs ++ [last]).take (xs.length + 2 - 2) = xs
  rw [Nat.add_sub_cancel, List.take_left]
theorem tailP_of {first line : Str} {r : List Str} (e : gSplit " " line = some (first :: r)) : tailP first line = some r := by
  unfold tailP
  rw [e]
  exact if_pos rfl
theorem tailP_none {first line : Str} (h : ∀ r, gSplit " " line ≠ some (first :: r)) : tailP first line = none := by
  unfold tailP
  cases e : gSplit " " line with
  | none => rfl
  | some l =>
    cases l with
    | nil => rfl
    | cons m r =>
      show (if m = first then some r else none) = none
      rw [if_neg]
      rintro rfl
      exact h r e
theorem rowP_len {line : Str} {row : List (Int × Int)} (h : Wd line) (e : rowP line = some row) : 1 ≤ row.length ∧ row.length ≤ 641 := by
  obtain ⟨ps, S⟩ := h.spl
  have er : rowP line = allP pairP ps := by unfold rowP; rw [S.g]; rfl
  rw [er] at e
  have := (allP_len e).1
  have c := S.cnt
  have l := h.l
  have n : 1 ≤ ps.length := by
    cases ps with
    | nil => exact absurd rfl S.ne
    | cons _ _ => simp
  omega
abbrev NoVM (text : Str) : Prop := ∀ i o L op rows, readP text = some (i, o, L, op, rows) → ¬ VM i o L op rows
theorem parse_ok {text : Str} (h : Wd text) : Ev (F_parse_machine () (text, ())) (fun A _ => readP text = some (A.inputs, A.outputs, A.lead, A.opening, A.rows) ∧ VM A.inputs A.outputs A.lead A.opening A.rows) (fun C _ => C = "MachineSyntaxError" ∧ NoVM text) := by
  obtain ⟨ls, S⟩ := h.spl3
  have W := h.sub S
  have er := readP_of S.g
  have no : readP text = none → NoVM text := fun k i o L op rows e => by rw [k] at e; cases e
  have tlen := h.l
  have cnt := S.cnt
  unfold F_parse_machine
  apply Ev_yRun
  simp only [Po_ySeq, Po_ySet, Po_yIf, Po_yRaise, Po_yNil, Ev_xCompX, Po_yTryN, Ev_x1o, Ev_xV, Ev_xOr, Ev_x2, Ev_x2o, Ev_x1, Ev_xC, Ev_xCall, Ev_xCs, Po_yFor, Ev_xSl, Po_yRet, Ev_xMake, Ev_xN]
  simp only [Ev_ok, Ev_exc, Os_some, Os_if, Ev_xC, Ev_xV, Ev_xN, Ev_xYes, Ev_x1, Ev_x1o, Ev_x2, Ev_x2o, Ev_xIxV, Ev_xIf, Ev_xAnd, Ev_xOr, Ev_xNot, Ev_xCs, Ev_xUn, Ev_xCh, Ev_xSl, Ev_xMeth, Ev_xCall, Ev_xMake, Ev_xComp, Po_nx, Po_yNil, Po_ySeq, Po_ySet, Po_yRet, Po_yRetC, Po_yExpr, Po_yIf, Po_yBreak, Po_yCont, Po_yRaise, Po_yFor, Po_ySetI, Po_yAugI, Po_yTry, gApp, gCat, gMul, gDiv, gMod, gPow, gRep, id, decide_eq_true_eq, Bool.not_eq_true', decide_eq_false_iff_not, Bool.false_eq_true, if_false, if_true, ite_true, ite_false]
  rw [S.g, Os_some]
  by_cases c0 : ls.length < 4
  · rw [if_pos (by omega)]
    exact ⟨trivial, no (by rw [er, linesQ_short c0])⟩
  rw [if_neg (by omega)]
  obtain ⟨l0, l1, mid, last, rfl, hm⟩ := lines_shape c0
  rw [linesQ_of hm] at er
  have W0 := W l0 (by simp)
  have W1 := W l1 (by simp)
  have Wl := W last (by simp)
  have Wm : ∀ p ∈ mid, Wd p := fun p hp => W p (by simp [hp])
  rw [show gIx (l0 :: l1 :: (mid ++ [last])) (-1) = some last from gIx_last (xs := l0 :: l1 :: mid), Os_some]
  refine ⟨⟨Wl.s.ok, litOk.2.2.1⟩, ?_⟩
  by_cases c1 : last = ""
  rotate_left
  · rw [if_pos c1]
    exact ⟨trivial, no (by rw [er, if_neg c1])⟩
  rw [if_neg (fun k => k c1)]
  rw [if_pos c1] at er
  rw [show gIx (l0 :: l1 :: (mid ++ [last])) (0 : Int) = some l0 from gIx_nat (j := 0) rfl, Os_some]
  have ml : mid.length ≤ 641 := by
    rw [List.length_cons, List.length_cons, List.length_append] at cnt
    omega
  refine (rwords_ok W0 litOk.2.2.2.1).mono ?_ ?_
  rotate_left
  · rintro C _ ⟨q, k⟩
    exact ⟨q, no (by rw [er]; unfold bodyP; rw [tailP_none k]; rfl)⟩
  rintro sz _ e0
  have e0' := tailP_of e0
  have Ws : ∀ p ∈ sz, Wd p := by
    obtain ⟨ps, S0⟩ := W0.spl
    have z := W0.sub S0
    rw [S0.g] at e0
    cases e0
    exact fun p hp => z p (List.mem_cons_of_mem _ hp)
  have noQ : headQ sz = none → NoVM text := fun k => no (by
    rw [er]; unfold bodyP; rw [e0']
    show (headQ sz).bind _ = none
    rw [k]; rfl)
  rcases sz with _ | ⟨a, _ | ⟨b, _ | ⟨c, _ | ⟨d, r⟩⟩⟩⟩
  · rw [if_pos (by simp)]; exact ⟨trivial, noQ rfl⟩
  · rw [if_pos (by simp)]; exact ⟨trivial, noQ rfl⟩
  · rw [if_pos (by simp)]; exact ⟨trivial, noQ rfl⟩
  rotate_left
  · rw [if_pos (by simp <;> omega)]; exact ⟨trivial, noQ rfl⟩
  rw [if_neg (by simp)]
  have hQ : headQ [a, b, c] = (num a).bind fun i => (num b).bind fun o => (leadP c).map fun L => (i, o, L) := rfl
  rw [show gIx [a, b, c] (0 : Int) = some a from gIx_nat (j := 0) rfl, Os_some]
  refine (rn_ok (Ws a (by simp))).mono ?_ ?_
  rotate_left
  · rintro C _ ⟨q, k⟩
    exact ⟨q, noQ (by rw [hQ, k]; rfl)⟩
  rintro i _ ei
  rw [show gIx [a, b, c] (1 : Int) = some b from gIx_nat (j := 1) rfl, Os_some]
  refine (rn_ok (Ws b (by simp))).mono ?_ ?_
  rotate_left
  · rintro C _ ⟨q, k⟩
    exact ⟨q, noQ (by rw [hQ, ei, k]; rfl)⟩
  rintro o _ eo
  rw [show gIx [a, b, c] (2 : Int) = some c from gIx_nat (j := 2) rfl, Os_some]
  refine (rlead_ok (Ws c (by simp))).mono ?_ ?_
  rotate_left
  · rintro C _ ⟨q, k⟩
    exact ⟨q, noQ (by rw [hQ, ei, eo, k]; rfl)⟩
  rintro L _ eL
  have hQ : headQ [a, b, c] = some (i, o, L) := by rw [hQ, ei, eo, eL]; rfl
  have er : readP text = ((tailP "opening" l1).bind (allP num)).bind fun op => (allP rowP mid).map fun rows => (i, o, L, op, rows) := by
    rw [er]; unfold bodyP; rw [e0']
    show (headQ [a, b, c]).bind _ = _
    rw [hQ]; rfl
  rw [show gIx (l0 :: l1 :: (mid ++ [last])) (1 : Int) = some l1 from gIx_nat (j := 1) rfl, Os_some]
  refine (rwords_ok W1 litOk.2.2.2.2).mono ?_ ?_
  rotate_left
  · rintro C _ ⟨q, k⟩
    exact ⟨q, no (by rw [er, tailP_none k]; rfl)⟩
  rintro os _ e1
  obtain ⟨Wo, ol⟩ : (∀ p ∈ os, Wd p) ∧ os.length ≤ 641 := by
    obtain ⟨ps, S0⟩ := W1.spl
    have z := W1.sub S0
    have n := S0.cnt
    have n2 := W1.l
    rw [S0.g] at e1
    cases e1
    rw [List.length_cons] at n
    exact ⟨fun p hp => z p (List.mem_cons_of_mem _ hp), by omega⟩
  rw [tailP_of e1] at er
  have er : readP text = (allP num os).bind fun op => (allP rowP mid).map fun rows => (i, o, L, op, rows) := er
  refine compX_all (f := num) (E0 := "MachineSyntaxError") (fun s => s.lines = l0 :: l1 :: (mid ++ [last]) ∧ s.inputs = i ∧ s.outputs = o ∧ s.lead = L) ⟨rfl, rfl, rfl, rfl⟩ (by omega) ?_ ?_ ?_
  · rintro x hx s hs
    simp only [Ev_ok, Ev_exc, Os_some, Os_if, Ev_xC, Ev_xV, Ev_xN, Ev_xYes, Ev_x1, Ev_x1o, Ev_x2, Ev_x2o, Ev_xIxV, Ev_xIf, Ev_xAnd, Ev_xOr, Ev_xNot, Ev_xCs, Ev_xUn, Ev_xCh, Ev_xSl, Ev_xMeth, Ev_xCall, Ev_xMake, Ev_xComp, Po_nx, Po_yNil, Po_ySeq, Po_ySet, Po_yRet, Po_yRetC, Po_yExpr, Po_yIf, Po_yBreak, Po_yCont, Po_yRaise, Po_yFor, Po_ySetI, Po_yAugI, Po_yTry, gApp, gCat, gMul, gDiv, gMod, gPow, gRep, id, decide_eq_true_eq, Bool.not_eq_true', decide_eq_false_iff_not, Bool.false_eq_true, if_false, if_true, ite_true, ite_false]
    refine (rn_ok (Wo x hx)).mono ?_ ?_
    · rintro r _ e
      exact ⟨e, hs⟩
    · rintro C _ q
      exact q
  rotate_left
  · rintro s k
    exact ⟨rfl, no (by rw [er, k]; rfl)⟩
  rintro op s eop ⟨h1, h2, h3, h4⟩
  rw [eop] at er
  have er : readP text = (allP rowP mid).map fun rows => (i, o, L, op, rows) := er
  rw [h1, cut_mid4]
  refine po_forP (fun ys s => s.inputs = i ∧ s.outputs = o ∧ s.lead = L ∧ s.opening = op ∧ allP rowP ys = some s.rows) ⟨h2, h3, h4, rfl, rfl⟩ ?_ ?_
  · clear h1 h2 h3 h4 eop s
    rintro ys zs x s ex ⟨h2, h3, h4, h5, h6⟩
    have ex : mid = ys ++ x :: zs := ex
    have hx : x ∈ mid := by rw [ex]; simp
    obtain ⟨ps, S0⟩ := (Wm x hx).spl
    have z := (Wm x hx).sub S0
    have erow : rowP x = allP pairP ps := by unfold rowP; rw [S0.g]; rfl
    have n := S0.cnt
    have n2 := (Wm x hx).l
    simp only [Po_yExpr, Ev_xMeth, Ev_xCs, Ev_xCompX, Ev_x1o, Ev_xV, Ev_xN]
    rw [S0.g, Os_some]
    refine compX_all (f := pairP) (E0 := "MachineSyntaxError") (fun s' => s'.inputs = i ∧ s'.outputs = o ∧ s'.lead = L ∧ s'.opening = op ∧ s'.rows = s.rows) ⟨h2, h3, h4, h5, rfl⟩ (by omega) ?_ ?_ ?_
    · rintro p hp s' hs'
      simp only [Ev_ok, Ev_exc, Os_some, Os_if, Ev_xC, Ev_xV, Ev_xN, Ev_xYes, Ev_x1, Ev_x1o, Ev_x2, Ev_x2o, Ev_xIxV, Ev_xIf, Ev_xAnd, Ev_xOr, Ev_xNot, Ev_xCs, Ev_xUn, Ev_xCh, Ev_xSl, Ev_xMeth, Ev_xCall, Ev_xMake, Ev_xComp, Po_nx, Po_yNil, Po_ySeq, Po_ySet, Po_yRet, Po_yRetC, Po_yExpr, Po_yIf, Po_yBreak, Po_yCont, Po_yRaise, Po_yFor, Po_ySetI, Po_yAugI, Po_yTry, gApp, gCat, gMul, gDiv, gMod, gPow, gRep, id, decide_eq_true_eq, Bool.not_eq_true', decide_eq_false_iff_not, Bool.false_eq_true, if_false, if_true, ite_true, ite_false]
      refine (rpair_ok (z p hp)).mono ?_ ?_
      · rintro r _ e
        exact ⟨e, hs'⟩
      · rintro C _ q
        exact q
    · rintro row s' er2 ⟨h2, h3, h4, h5, h7⟩
      have l1 := (allP_len h6).1
      have e := congrArg List.length ex
      rw [List.length_append, List.length_cons] at e
      unfold gApp
      rw [h7]
      dsimp only
      rw [if_pos (by rw [sizeLine_eq]; omega), Os_some]
      exact ⟨h2, h3, h4, h5, allP_snoc h6 (erow.trans er2)⟩
    · rintro s' k
      exact ⟨rfl, no (by rw [er, allP_none (erow.trans k) hx]; rfl)⟩
  · clear h1 h2 h3 h4 eop s
    rintro s ⟨h2, h3, h4, h5, h6⟩
    rw [h2, h3, h4, h5]
    obtain ⟨r1, r2⟩ := allP_len h6
    rw [h6] at er
    have er : readP text = some (i, o, L, op, s.rows) := er
    refine (machine_iff (by omega) (fun r hr => by
      obtain ⟨x, hx, e⟩ := r2 r hr
      have := (rowP_len (Wm x hx) e).2
      omega)).mono ?_ ?_
    · rintro A _ ⟨rfl, V⟩
      exact ⟨er, V⟩
    · rintro C _ ⟨rfl, V⟩
      refine ⟨trivial, fun i' o' L' op' rows' e => ?_⟩
      rw [er] at e
      cases e
      exact V
end K44
set_option Elab.async false
set_option linter.all false
set_option maxRecDepth 100000
set_option maxHeartbeats 4000000
namespace K44
open PySem PySem.Spec PyProof.Rows L2 Mn Ty
open Tn Tj
theorem allP_map {α β : Type} {f : α → Option β} {d : β} : ∀ {xs : List α} {ys : List β}, allP f xs = some ys → ys = xs.map fun x => (f x).getD d
  | [], ys, h => by cases h; rfl
  | x :: r, ys, h => by
    have h : (f x).bind (fun y => (allP f r).map (y :: ·)) = some ys := h
    cases e : f x with
    | none => rw [e] at h; cases h
    | some y =>
      rw [e] at h
      cases e2 : allP f r with
      | none => rw [e2] at h; cases h
      | some u =>
        rw [e2] at h
        have h : y :: u = ys := Option.some.inj h
        rw [← h, List.map_cons, e, ← allP_map e2]; rfl
theorem allP_of {α β : Type} {f : α → Option β} {d : β} : ∀ {xs : List α}, (∀ x ∈ xs, f x ≠ none) → allP f xs = some (xs.map fun x => (f x).getD d)
  | [], _ => rfl
  | x :: r, h => by
    show (f x).bind (fun y => (allP f r).map (y :: ·)) = _
    rw [allP_of (d := d) fun z hz => h z (List.mem_cons_of_mem _ hz)]
    cases e : f x with
    | none => exact absurd e (h x (List.mem_cons_self ..))
    | some y => rw [List.map_cons, e]; rfl
theorem nv_some {w : Str} {n : Int} (h : num w = some n) : nv w = n := by unfold nv; rw [h]; rfl
theorem some_nv {w : Str} (h : ¬ nv w < 0) : num w = some (nv w) := by
  cases e : num w with
  | none => exact absurd (nv_neg.mpr e) h
  | some n => rw [nv_some e]
theorem pair_nn {w : Str} {p : Int × Int} (h : pairP w = some p) : 0 ≤ p.1 ∧ 0 ≤ p.2 := by
  unfold pairP at h
  cases e : gSplit "/" w with
  | none => rw [e] at h; cases h
  | some ps =>
    rw [e] at h
    have h : pairQ ps = some p := h
    rcases ps with _ | ⟨a, _ | ⟨b, _ | ⟨c, r⟩⟩⟩
    · cases h
    · cases h
    · have h : (num a).bind (fun x => (num b).map fun y => (x, y)) = some p := h
      cases ea : num a with
      | none => rw [ea] at h; cases h
      | some x =>
        cases eb : num b with
        | none => rw [ea, eb] at h; cases h
        | some y =>
          rw [ea, eb] at h
          have h : (x, y) = p := Option.some.inj h
          rw [← h]
          exact ⟨num_nn ea, num_nn eb⟩
    · cases h
theorem row_nn {l : Str} {row : List (Int × Int)} (h : rowP l = some row) : ∀ p ∈ row, 0 ≤ p.1 ∧ 0 ≤ p.2 := fun p hp => by
  unfold rowP at h
  cases e : gSplit " " l with
  | none => rw [e] at h; cases h
  | some ps =>
    rw [e] at h
    obtain ⟨x, _, q⟩ := (allP_len (show allP pairP ps = some row from h)).2 p hp
    exact pair_nn q
def rr (l : Str) : List (Int × Int) := (rowP l).getD []
abbrev bodyQ (a b c : Str) (os mid : List Str) : Option (Int × Int × Int × List Int × List (List (Int × Int))) := (num a).bind fun i => (num b).bind fun o => (leadP c).bind fun L => (allP num os).bind fun op => (allP rowP mid).map fun rows => (i, o, L, op, rows)
theorem bodyQ_inv {a b c : Str} {os mid : List Str} {i o L : Int} {op : List Int} {rows : List (List (Int × Int))} (h : bodyQ a b c os mid = some (i, o, L, op, rows)) : num a = some i ∧ num b = some o ∧ leadP c = some L ∧ allP num os = some op ∧ allP rowP mid = some rows := by
  unfold bodyQ at h
  cases ea : num a with
  | none => rw [ea] at h; cases h
  | some x =>
    cases eb : num b with
    | none => rw [ea, eb] at h; cases h
    | some y =>
      cases ec : leadP c with
      | none => rw [ea, eb, ec] at h; cases h
      | some z =>
        cases eo : allP num os with
        | none => rw [ea, eb, ec, eo] at h; cases h
        | some u =>
          cases em : allP rowP mid with
          | none => rw [ea, eb, ec, eo, em] at h; cases h
          | some v =>
            rw [ea, eb, ec, eo, em] at h
            have h : (x, y, z, u, v) = (i, o, L, op, rows) := Option.some.inj h
            cases h
            exact ⟨rfl, rfl, rfl, rfl, rfl⟩
abbrev MP : Type := Int × Int × Int × List Int × List (List (Int × Int))
def RdOk (text : Str) (r : Option MP) : Prop := (∀ i o L op rows, r = some (i, o, L, op, rows) → readP text = some (i, o, L, op, rows) ∧ VM i o L op rows) ∧ (r = none → NoVM text)
theorem lread_ok {text : Str} (h : Wd text) : Ev (F_law_read () (text, ())) (fun r _ => RdOk text r) (fun _ _ => False) := by
  obtain ⟨ls, S⟩ := h.spl3
  have W := h.sub S
  have er := readP_of S.g
  have tlen := h.l
  have cnt := S.cnt
  have no : NoVM text → RdOk text none := fun k => ⟨fun _ _ _ _ _ e => (nomatch e), fun _ => k⟩
  have nor : readP text = none → NoVM text := fun k i o L op rows e => by rw [k] at e; cases e
  unfold F_law_read
  apply Ev_yRun
  simp only [Ev_ok, Ev_exc, Os_some, Os_if, Ev_xC, Ev_xV, Ev_xN, Ev_xYes, Ev_x1, Ev_x1o, Ev_x2, Ev_x2o, Ev_xIxV, Ev_xIf, Ev_xAnd, Ev_xOr, Ev_xNot, Ev_xCs, Ev_xUn, Ev_xCh, Ev_xSl, Ev_xMeth, Ev_xCall, Ev_xMake, Ev_xComp, Po_nx, Po_yNil, Po_ySeq, Po_ySet, Po_yRet, Po_yRetC, Po_yExpr, Po_yIf, Po_yBreak, Po_yCont, Po_yRaise, Po_yFor, Po_ySetI, Po_yAugI, Po_yTry, gApp, gCat, gMul, gDiv, gMod, gPow, gRep, id, decide_eq_true_eq, Bool.not_eq_true', decide_eq_false_iff_not, Bool.false_eq_true, if_false, if_true, ite_true, ite_false]
  rw [S.g, Os_some]
  by_cases c0 : ls.length < 4
  · rw [if_pos (by omega)]
    exact no (nor (by rw [er, linesQ_short c0]))
  rw [if_neg (by omega)]
  obtain ⟨l0, l1, mid, last, rfl, hm⟩ := lines_shape c0
  rw [linesQ_of hm] at er
  have W0 := W l0 (by simp)
  have W1 := W l1 (by simp)
  have Wl := W last (by simp)
  have Wm : ∀ p ∈ mid, Wd p := fun p hp => W p (by simp [hp])
  rw [show gIx (l0 :: l1 :: (mid ++ [last])) (-1) = some last from gIx_last (xs := l0 :: l1 :: mid), Os_some]
  refine ⟨⟨Wl.s.ok, litOk.2.2.1⟩, ?_⟩
  by_cases c1 : last = ""
  rotate_left
  · rw [if_pos c1]
    exact no (nor (by rw [er, if_neg c1]))
  rw [if_neg (fun k => k c1)]
  rw [if_pos c1] at er
  have ml : mid.length ≤ 641 := by
    rw [List.length_cons, List.length_cons, List.length_append] at cnt
    omega
  have mp : 1 ≤ mid.length := List.length_pos_iff.mpr hm
  obtain ⟨ps0, S0⟩ := W0.spl
  obtain ⟨ps1, S1⟩ := W1.spl
  have Q0 := W0.sub S0
  have Q1 := W1.sub S1
  rw [show gIx (l0 :: l1 :: (mid ++ [last])) (0 : Int) = some l0 from gIx_nat (j := 0) rfl, Os_some, S0.g, Os_some]
  rw [show gIx (l0 :: l1 :: (mid ++ [last])) (1 : Int) = some l1 from gIx_nat (j := 1) rfl, Os_some, S1.g, Os_some]
  have e00 : tailP "machine" l0 = tailQ "machine" (some ps0) := by unfold tailP; rw [S0.g]
  have e01 : tailP "opening" l1 = tailQ "opening" (some ps1) := by unfold tailP; rw [S1.g]
  have noT : (tailP "machine" l0).bind headQ = none → NoVM text := fun k => nor (by rw [er]; unfold bodyP; rw [k]; rfl)
  rcases ps0 with _ | ⟨m, _ | ⟨a, _ | ⟨b, _ | ⟨c, _ | ⟨d, r⟩⟩⟩⟩⟩
  · rw [if_pos (by simp)]; exact no (noT (by rw [e00]; rfl))
  · rw [if_pos (by simp)]; exact no (noT (by rw [e00]; show (if _ then _ else none : Option (List Str)).bind _ = none; split <;> rfl))
  · rw [if_pos (by simp)]; exact no (noT (by rw [e00]; show (if _ then _ else none : Option (List Str)).bind _ = none; split <;> rfl))
  · rw [if_pos (by simp)]; exact no (noT (by rw [e00]; show (if _ then _ else none : Option (List Str)).bind _ = none; split <;> rfl))
  rotate_left
  · rw [if_pos (by simp <;> omega)]; exact no (noT (by rw [e00]; show (if _ then _ else none : Option (List Str)).bind _ = none; split <;> rfl))
  rw [if_neg (by simp)]
  rw [show gIx [m, a, b, c] (0 : Int) = some m from gIx_nat (j := 0) rfl, Os_some]
  refine ⟨⟨(Q0 m (by simp)).s.ok, litOk.2.2.2.1⟩, ?_⟩
  by_cases c2 : m = "machine"
  rotate_left
  · rw [if_pos c2]
    exact no (noT (by rw [e00]; show (if _ then _ else none : Option (List Str)).bind _ = none; rw [if_neg c2]; rfl))
  rw [if_neg (fun k => k c2)]
  have e00 : tailP "machine" l0 = some [a, b, c] := e00.trans (if_pos c2)
  rcases ps1 with _ | ⟨m1, os⟩
  · exact absurd rfl S1.ne
  rw [show gIx (m1 :: os) (0 : Int) = some m1 from gIx_nat (j := 0) rfl, Os_some]
  refine ⟨⟨(Q1 m1 (by simp)).s.ok, litOk.2.2.2.2⟩, ?_⟩
  by_cases c3 : m1 = "opening"
  rotate_left
  · rw [if_pos c3]
    refine no (nor ?_)
    rw [er]; unfold bodyP
    have : tailP "opening" l1 = none := e01.trans (if_neg c3)
    rw [this]
    cases (tailP "machine" l0).bind headQ <;> rfl
  rw [if_neg (fun k => k c3)]
  have e01 : tailP "opening" l1 = some os := e01.trans (if_pos c3)
  have Wo : ∀ p ∈ os, Wd p := fun p hp => Q1 p (List.mem_cons_of_mem _ hp)
  have ol : os.length ≤ 641 := by
    have z := S1.cnt
    have := W1.l
    rw [List.length_cons] at z
    omega
  have er : readP text = bodyQ a b c os mid := by
    rw [er]; unfold bodyP bodyQ; rw [e00, e01]
    show (headQ [a, b, c]).bind _ = _
    show ((num a).bind fun i => (num b).bind fun o => (leadP c).map fun L => (i, o, L)).bind _ = _
    cases num a with
    | none => rfl
    | some i =>
      cases num b with
      | none => rfl
      | some o => cases leadP c <;> rfl
  clear e00 e01 noT
  have inv : ∀ {i o L op rows}, readP text = some (i, o, L, op, rows) → num a = some i ∧ num b = some o ∧ leadP c = some L ∧ allP num os = some op ∧ allP rowP mid = some rows := fun e => bodyQ_inv (by rw [← er]; exact e)
  rw [show gIx [m, a, b, c] (1 : Int) = some a from gIx_nat (j := 1) rfl, Os_some]
  refine (ln_ok (Q0 a (by simp))).mono ?_ (fun _ _ h => h)
  rintro _ _ rfl
  rw [show gIx [m, a, b, c] (2 : Int) = some b from gIx_nat (j := 2) rfl, Os_some]
  refine (ln_ok (Q0 b (by simp))).mono ?_ (fun _ _ h => h)
  rintro _ _ rfl
  rw [show gIx [m, a, b, c] (3 : Int) = some c from gIx_nat (j := 3) rfl, Os_some]
  refine (llead_ok (Q0 c (by simp))).mono ?_ (fun _ _ h => h)
  rintro L _ hL
  rw [Fo.cut1]
  refine comp_mapP (fun s => s.llines = l0 :: l1 :: (mid ++ [last]) ∧ s.linputs = nv a ∧ s.loutputs = nv b ∧ s.llead_here = L) nv ⟨rfl, rfl, rfl, rfl⟩ (by omega) ?_ ?_
  · rintro x hx s hs
    simp only [Ev_ok, Ev_exc, Os_some, Os_if, Ev_xC, Ev_xV, Ev_xN, Ev_xYes, Ev_x1, Ev_x1o, Ev_x2, Ev_x2o, Ev_xIxV, Ev_xIf, Ev_xAnd, Ev_xOr, Ev_xNot, Ev_xCs, Ev_xUn, Ev_xCh, Ev_xSl, Ev_xMeth, Ev_xCall, Ev_xMake, Ev_xComp, Po_nx, Po_yNil, Po_ySeq, Po_ySet, Po_yRet, Po_yRetC, Po_yExpr, Po_yIf, Po_yBreak, Po_yCont, Po_yRaise, Po_yFor, Po_ySetI, Po_yAugI, Po_yTry, gApp, gCat, gMul, gDiv, gMod, gPow, gRep, id, decide_eq_true_eq, Bool.not_eq_true', decide_eq_false_iff_not, Bool.false_eq_true, if_false, if_true, ite_true, ite_false]
    refine (ln_ok (Wo x hx)).mono ?_ (fun _ _ h => h)
    rintro r _ rfl
    exact ⟨rfl, hs⟩
  rintro s ⟨h1, h2, h3, h4⟩
  dsimp only
  rw [h2, h3, h4]
  by_cases d1 : nv a < 1
  · rw [if_pos d1]
    refine no fun i o L' op rows e V => ?_
    have := nv_some (inv e).1
    have := V.i1
    omega
  rw [if_neg d1]
  by_cases d2 : nv b < 1
  · rw [if_pos d2]
    refine no fun i o L' op rows e V => ?_
    have := nv_some (inv e).2.1
    have := V.o1
    omega
  rw [if_neg d2]
  rcases hL with ⟨rfl, hL⟩ | ⟨eL, L1, L2⟩
  · rw [if_pos rfl]
    exact no fun i o L' op rows e V => hL L' (inv e).2.2.1 V.L0
  rw [if_neg (by omega)]
  by_cases d3 : ((os.map nv).length : Int) = max 0 (-L)
  rotate_left
  · rw [if_pos d3]
    refine no fun i o L' op rows e V => d3 ?_
    obtain ⟨q1, q2, q3, q4, q5⟩ := inv e
    rw [eL] at q3
    cases q3
    have := V.ol
    rw [(allP_len q4).1] at this
    rw [List.length_map]
    exact this
  rw [if_neg (fun k => k d3)]
  refine po_forP (fun ys s => (s.llines = l0 :: l1 :: (mid ++ [last]) ∧ s.linputs = nv a ∧ s.loutputs = nv b ∧ s.llead_here = L ∧ s.lopening = os.map nv) ∧ ∀ y ∈ ys, 0 ≤ y ∧ y < nv b) ⟨⟨h1, h2, h3, h4, rfl⟩, fun y hy => (nomatch hy)⟩ ?_ ?_
  · clear h1 h2 h3 h4 s
    rintro ys zs y s ex ⟨⟨h1, h2, h3, h4, h5⟩, h6⟩
    have hy : y ∈ os.map nv := by rw [show os.map nv = ys ++ y :: zs from ex]; simp
    simp only [Ev_ok, Ev_exc, Os_some, Os_if, Ev_xC, Ev_xV, Ev_xN, Ev_xYes, Ev_x1, Ev_x1o, Ev_x2, Ev_x2o, Ev_xIxV, Ev_xIf, Ev_xAnd, Ev_xOr, Ev_xNot, Ev_xCs, Ev_xUn, Ev_xCh, Ev_xSl, Ev_xMeth, Ev_xCall, Ev_xMake, Ev_xComp, Po_nx, Po_yNil, Po_ySeq, Po_ySet, Po_yRet, Po_yRetC, Po_yExpr, Po_yIf, Po_yBreak, Po_yCont, Po_yRaise, Po_yFor, Po_ySetI, Po_yAugI, Po_yTry, gApp, gCat, gMul, gDiv, gMod, gPow, gRep, id, decide_eq_true_eq, Bool.not_eq_true', decide_eq_false_iff_not, Bool.false_eq_true, if_false, if_true, ite_true, ite_false]
    rw [show (s.put_lletter y).loutputs = nv b from h3]
    have bad : ¬ (0 ≤ y ∧ y < nv b) → RdOk text none := fun k => no fun i o L' op rows e V => k (by
      obtain ⟨q1, q2, q3, q4, q5⟩ := inv e
      have := V.op y (by rw [allP_map (d := -1) q4]; exact hy)
      rw [nv_some q2]
      exact this)
    by_cases d4 : y < 0
    · rw [if_pos d4]; exact bad (by omega)
    · rw [if_neg d4]
      by_cases d5 : nv b ≤ y
      · rw [if_pos d5]; exact bad (by omega)
      · rw [if_neg d5]
        refine ⟨⟨h1, h2, by first | rfl | exact h3, h4, h5⟩, fun z hz => ?_⟩
        rcases List.mem_append.mp hz with hz | hz
        · exact h6 z hz
        · rw [List.mem_singleton.mp hz]; omega
  clear h1 h2 h3 h4 s
  rintro s ⟨⟨h1, h2, h3, h4, h5⟩, h6⟩
  have lk : ((l0 :: l1 :: (mid ++ [last])).length : Int) - 1 = (mid.length : Int) + 2 := by
    rw [List.length_cons, List.length_cons, List.length_append]
    simp <;> omega
  rw [h1, cut_mid5 lk]
  refine comp_mapP (fun s => s.linputs = nv a ∧ s.loutputs = nv b ∧ s.llead_here = L ∧ s.lopening = os.map nv) rr ⟨h2, h3, h4, h5⟩ (by omega) ?_ ?_
  · rintro x hx s hs
    simp only [Ev_ok, Ev_exc, Os_some, Os_if, Ev_xC, Ev_xV, Ev_xN, Ev_xYes, Ev_x1, Ev_x1o, Ev_x2, Ev_x2o, Ev_xIxV, Ev_xIf, Ev_xAnd, Ev_xOr, Ev_xNot, Ev_xCs, Ev_xUn, Ev_xCh, Ev_xSl, Ev_xMeth, Ev_xCall, Ev_xMake, Ev_xComp, Po_nx, Po_yNil, Po_ySeq, Po_ySet, Po_yRet, Po_yRetC, Po_yExpr, Po_yIf, Po_yBreak, Po_yCont, Po_yRaise, Po_yFor, Po_ySetI, Po_yAugI, Po_yTry, gApp, gCat, gMul, gDiv, gMod, gPow, gRep, id, decide_eq_true_eq, Bool.not_eq_true', decide_eq_false_iff_not, Bool.false_eq_true, if_false, if_true, ite_true, ite_false]
    refine (lpairs_ok (Wm x hx)).mono ?_ (fun _ _ h => h)
    rintro r _ rfl
    exact ⟨rfl, hs⟩
  clear h1 h2 h3 h4 h5 s
  rintro s ⟨h2, h3, h4, h5⟩
  dsimp only
  have inR : ∀ {i o L' op rows}, readP text = some (i, o, L', op, rows) → rows = mid.map rr := fun e => allP_map (d := []) (inv e).2.2.2.2
  refine po_forP (fun ys s => (s.linputs = nv a ∧ s.loutputs = nv b ∧ s.llead_here = L ∧ s.lopening = os.map nv ∧ s.lrows = mid.map rr) ∧ ∀ row ∈ ys, (row.length : Int) = nv a ∧ ∀ p ∈ row, p.1 < (mid.length : Int) ∧ p.2 < nv b) ⟨⟨h2, h3, h4, h5, rfl⟩, fun y hy => (nomatch hy)⟩ ?_ ?_
  · clear h2 h3 h4 h5 s
    rintro ys zs row s ex ⟨⟨h2, h3, h4, h5, h7⟩, h6⟩
    have hr : row ∈ mid.map rr := by rw [show mid.map rr = ys ++ row :: zs from ex]; simp
    simp only [Ev_ok, Ev_exc, Os_some, Os_if, Ev_xC, Ev_xV, Ev_xN, Ev_xYes, Ev_x1, Ev_x1o, Ev_x2, Ev_x2o, Ev_xIxV, Ev_xIf, Ev_xAnd, Ev_xOr, Ev_xNot, Ev_xCs, Ev_xUn, Ev_xCh, Ev_xSl, Ev_xMeth, Ev_xCall, Ev_xMake, Ev_xComp, Po_nx, Po_yNil, Po_ySeq, Po_ySet, Po_yRet, Po_yRetC, Po_yExpr, Po_yIf, Po_yBreak, Po_yCont, Po_yRaise, Po_yFor, Po_ySetI, Po_yAugI, Po_yTry, gApp, gCat, gMul, gDiv, gMod, gPow, gRep, id, decide_eq_true_eq, Bool.not_eq_true', decide_eq_false_iff_not, Bool.false_eq_true, if_false, if_true, ite_true, ite_false]
    rw [show (s.put_lrow row).linputs = nv a from h2]
    by_cases d4 : (row.length : Int) = nv a
    rotate_left
    · rw [if_pos d4]
      refine no fun i o L' op rows e V => d4 ?_
      rw [(V.r row (by rw [inR e]; exact hr)).1, nv_some (inv e).1]
    rw [if_neg (fun k => k d4)]
    refine po_forP (fun qs s => (s.linputs = nv a ∧ s.loutputs = nv b ∧ s.llead_here = L ∧ s.lopening = os.map nv ∧ s.lrows = mid.map rr) ∧ ∀ p ∈ qs, p.1 < (mid.length : Int) ∧ p.2 < nv b) ⟨⟨h2, h3, h4, h5, h7⟩, fun y hy => (nomatch hy)⟩ ?_ ?_
    · clear h2 h3 h4 h5 h7 s
      rintro qs ws p s ex2 ⟨⟨h2, h3, h4, h5, h7⟩, h8⟩
      have hp : p ∈ row := by rw [show row = qs ++ p :: ws from ex2]; simp
      simp only [Ev_ok, Ev_exc, Os_some, Os_if, Ev_xC, Ev_xV, Ev_xN, Ev_xYes, Ev_x1, Ev_x1o, Ev_x2, Ev_x2o, Ev_xIxV, Ev_xIf, Ev_xAnd, Ev_xOr, Ev_xNot, Ev_xCs, Ev_xUn, Ev_xCh, Ev_xSl, Ev_xMeth, Ev_xCall, Ev_xMake, Ev_xComp, Po_nx, Po_yNil, Po_ySeq, Po_ySet, Po_yRet, Po_yRetC, Po_yExpr, Po_yIf, Po_yBreak, Po_yCont, Po_yRaise, Po_yFor, Po_ySetI, Po_yAugI, Po_yTry, gApp, gCat, gMul, gDiv, gMod, gPow, gRep, id, decide_eq_true_eq, Bool.not_eq_true', decide_eq_false_iff_not, Bool.false_eq_true, if_false, if_true, ite_true, ite_false]
      rw [show (s.put_lpair p).lrows = mid.map rr from h7, show (s.put_lpair p).loutputs = nv b from h3]
      have bad : ¬ (p.1 < (mid.length : Int) ∧ p.2 < nv b) → RdOk text none := fun k => no fun i o L' op rows e V => k (by
        have er2 := inR e
        obtain ⟨_, v2, v3⟩ := V.r row (by rw [er2]; exact hr)
        have v2 := (v2 p hp).2
        rw [er2, List.length_map] at v2
        have v3 := (v3 p hp).2
        rw [nv_some (inv e).2.1]
        exact ⟨v2, v3⟩)
      rw [List.length_map]
      by_cases d5 : (mid.length : Int) ≤ p.1
      · rw [if_pos d5]; exact bad (by omega)
      · rw [if_neg d5]
        by_cases d6 : nv b ≤ p.2
        · rw [if_pos d6]; exact bad (by omega)
        · rw [if_neg d6]
          refine ⟨⟨h2, by first | rfl | exact h3, h4, h5, by first | rfl | exact h7⟩, fun z hz => ?_⟩
          rcases List.mem_append.mp hz with hz | hz
          · exact h8 z hz
          · rw [List.mem_singleton.mp hz]; omega
    · rintro s ⟨h0, h8⟩
      refine ⟨h0, fun z hz => ?_⟩
      rcases List.mem_append.mp hz with hz | hz
      · exact h6 z hz
      · rw [List.mem_singleton.mp hz]; exact ⟨d4, h8⟩
  clear h2 h3 h4 h5 s
  rintro s ⟨⟨h2, h3, h4, h5, h7⟩, h8⟩
  rw [h2, h3, h4, h5, h7]
  refine ⟨fun i o L' op rows e => ?_, fun e => (nomatch e)⟩
  cases e
  have ea := some_nv (w := a) (by omega)
  have eb := some_nv (w := b) (by omega)
  have eo : allP num os = some (os.map nv) := allP_of (d := -1) fun x hx e => by
    have := (h6 (nv x) (List.mem_map.mpr ⟨x, hx, rfl⟩)).1
    have := nv_neg.mpr e
    omega
  have rs : ∀ x ∈ mid, rowP x ≠ none := fun x hx e => by
    have := (h8 (rr x) (List.mem_map.mpr ⟨x, hx, rfl⟩)).1
    unfold rr at this
    rw [e] at this
    have this : (0 : Int) = nv a := this
    omega
  have em : allP rowP mid = some (mid.map rr) := allP_of (d := []) rs
  refine ⟨by rw [er]; unfold bodyQ; rw [ea, eb, eL, eo, em]; rfl, by omega, by omega, ⟨L1, L2⟩, d3, by rw [List.length_map]; exact mp, h6, fun row hr => ?_⟩
  obtain ⟨k1, k2⟩ := h8 row hr
  obtain ⟨x, hx, rfl⟩ := List.mem_map.mp hr
  have nn : ∀ p ∈ rr x, 0 ≤ p.1 ∧ 0 ≤ p.2 := by
    unfold rr
    cases e : rowP x with
    | none => exact absurd e (rs x hx)
    | some row => exact row_nn e
  rw [List.length_map]
  exact ⟨k1, fun p hp => ⟨(nn p hp).1, (k2 p hp).1⟩, fun p hp => ⟨(nn p hp).2, (k2 p hp).2⟩⟩
end K44
set_option Elab.async false
set_option linter.all false
set_option maxRecDepth 100000
set_option maxHeartbeats 4000000
namespace K44
open PySem PySem.Spec PyProof.Rows L2 Mn Ty
open Tn Tj
theorem cutL_to {α : Type} {xs : List α} {k : Int} (h : 0 ≤ k) : gCut xs none (some k) = xs.take k.toNat := by
  unfold gCut
  rw [six_some h, show HT.sIx xs.length 0 none = 0 from rfl, List.drop_zero, Nat.sub_zero, take_min]
theorem cutL_from {α : Type} {xs : List α} {k : Int} (h : 0 ≤ k) : gCut xs (some k) none = xs.drop k.toNat := by
  unfold gCut
  rw [six_some h, show HT.sIx xs.length xs.length none = xs.length from rfl, drop_min, List.take_of_length_le]
  rw [List.length_drop]; omega
theorem cutL_mid {α : Type} {xs : List α} {i j : Int} (h : 0 ≤ i) (h2 : 0 ≤ j) : gCut xs (some i) (some j) = (xs.drop i.toNat).take (j.toNat - i.toNat) := by
  unfold gCut
  rw [six_some h, six_some h2, drop_min]
  by_cases c : i.toNat ≤ xs.length
  · rw [Nat.min_eq_left c]
    have := take_min (xs.drop i.toNat) (j.toNat - i.toNat)
    rw [← this, List.length_drop]
    congr 1
    omega
  · rw [List.drop_of_length_le (by omega)]
    simp
theorem ll_take (ps : List Str) (k : Nat) : ll (ps.take k) ≤ ll ps := by have := ll_split ps k; omega
theorem ll_drop (ps : List Str) (k : Nat) : ll (ps.drop k) ≤ ll ps := by have := ll_split ps k; omega
theorem ll_drop2 (ps : List Str) (k m : Nat) : ll ((ps.drop k).take m) + ll (ps.drop (k + m)) = ll (ps.drop k) := by
  have := ll_split (ps.drop k) m
  rw [List.drop_drop] at this
  exact this
theorem change_ok {ds : List Int} {text : Str} (hs : Sm text) (hl : text.length ≤ 1000) : Ev (F_law_change (ds, ()) (text, ())) (fun r _ => Sm r ∧ r.length ≤ 2 * text.length + 2) (fun _ _ => False) := by
  obtain ⟨qs, q, h⟩ := cut_ex text
  have hz : text.length = ll qs + q.length := by
    have := congrArg Str.length h.e
    rw [app_len, lcat_ll] at this
    exact this
  have hp : ll (qs ++ [q]) = text.length + 1 := by rw [ll_app]; show ll qs + ((q.length + 1) + 0) = _; omega
  have sp : ∀ p ∈ qs ++ [q], Sm p := fun p hp' => sm_sub hs fun c hc => by
    rw [h.e, tl_app]
    rcases List.mem_append.mp hp' with z | z
    · refine List.mem_append_left _ ?_
      rw [tl_lcat]
      exact List.mem_flatten.mpr ⟨tl p ++ tl "\n", List.mem_map.mpr ⟨p, z, rfl⟩, List.mem_append_left _ hc⟩
    · rw [List.mem_singleton.mp z] at hc
      exact List.mem_append_right _ hc
  have snl : Sm "\n" := (by unfold Sm; decide +kernel)
  have fin : ∀ ps : List Str, (∀ p ∈ ps, p ∈ qs ++ [q]) → ll ps ≤ 2 * text.length + 2 → Os (gJoin "\n" ps) fun r => Sm r ∧ r.length ≤ 2 * text.length + 2 := fun ps a b => by
    rw [join_okL (by omega), Os_some]
    exact ⟨Sm.join snl fun p hp => sp p (a p hp), Nat.le_trans join_ll b⟩
  have cnt := ll_count (qs ++ [q])
  unfold F_law_change
  apply Ev_yRun
  simp only [Ev_ok, Ev_exc, Os_some, Os_if, Ev_xC, Ev_xV, Ev_xN, Ev_xYes, Ev_x1, Ev_x1o, Ev_x2, Ev_x2o, Ev_xIxV, Ev_xIf, Ev_xAnd, Ev_xOr, Ev_xNot, Ev_xCs, Ev_xUn, Ev_xCh, Ev_xSl, Ev_xMeth, Ev_xCall, Ev_xMake, Ev_xComp, Po_nx, Po_yNil, Po_ySeq, Po_ySet, Po_yRet, Po_yRetC, Po_yExpr, Po_yIf, Po_yBreak, Po_yCont, Po_yRaise, Po_yFor, Po_ySetI, Po_yAugI, Po_yTry, gApp, gCat, gMul, gDiv, gMod, gPow, gRep, id, decide_eq_true_eq, Bool.not_eq_true', decide_eq_false_iff_not, Bool.false_eq_true, if_false, if_true, ite_true, ite_false]
  simp only [Ev_xSlS]
  simp only [Ev_ok, Ev_exc, Os_some, Os_if, Ev_xC, Ev_xV, Ev_xN, Ev_xYes, Ev_x1, Ev_x1o, Ev_x2, Ev_x2o, Ev_xIxV, Ev_xIf, Ev_xAnd, Ev_xOr, Ev_xNot, Ev_xCs, Ev_xUn, Ev_xCh, Ev_xSl, Ev_xMeth, Ev_xCall, Ev_xMake, Ev_xComp, Po_nx, Po_yNil, Po_ySeq, Po_ySet, Po_yRet, Po_yRetC, Po_yExpr, Po_yIf, Po_yBreak, Po_yCont, Po_yRaise, Po_yFor, Po_ySetI, Po_yAugI, Po_yTry, gApp, gCat, gMul, gDiv, gMod, gPow, gRep, id, decide_eq_true_eq, Bool.not_eq_true', decide_eq_false_iff_not, Bool.false_eq_true, if_false, if_true, ite_true, ite_false]
  refine (take_ok (by decide)).mono ?_ (fun _ _ h => h)
  rintro kind _ _
  unfold gLenS
  rw [if_pos (by rw [sizeLine_eq]; omega), Os_some]
  refine (take_ok (by omega)).mono ?_ (fun _ _ h => h)
  rintro at_ _ ⟨a0, a1⟩
  have lc : ("0123456789 /-\nmachineopg" : Str).length = 24 := by decide +kernel
  rw [if_pos (by rw [sizeLine_eq, lc]; decide), Os_some]
  refine (take_ok (by rw [lc]; decide)).mono ?_ (fun _ _ h => h)
  rintro sg _ ⟨g0, g1⟩
  obtain ⟨c, c1, c2⟩ := Sx.six_ok (z := "0123456789 /-\nmachineopg") (i := sg) g0 (by show sg < (tl _).length; rw [← len_tl]; exact g1) (by rw [lc]; decide)
  rw [c2, Os_some, split_nl h (by omega), Os_some]
  have sc : Sm (⟨#[c]⟩ : Str) := fun d hd => by
    have e : d = c := by simpa using hd
    subst e
    have sm : Sm "0123456789 /-\nmachineopg" := by unfold Sm; decide +kernel
    exact sm d (List.mem_of_getElem? c1)
  have l1 : (⟨#[c]⟩ : Str).length = 1 := rfl
  refine (take_ok (by rw [List.length_append]; simp <;> omega)).mono ?_ (fun _ _ h => h)
  rintro k _ ⟨k0, k1⟩
  have z1 : text.length ≤ sizeLine := by rw [sizeLine_eq]; omega
  have t1 := len_to (a := text) (i := at_) a0
  have t2 := len_from (a := text) (i := at_) a0
  have t3 := len_from (a := text) (i := at_ + 1) (by omega)
  have t4 : (cutS text none (some at_)).length + (cutS text (some at_) none).length = text.length := by
    rw [len_tl, len_tl, len_tl, cut_to a0, cut_from a0, ← List.length_append, List.take_append_drop]
  have s1 := sm_to hs a0
  have s2 := sm_from hs a0
  have s3 := sm_from (i := at_ + 1) hs (by omega)
  by_cases e0 : kind = 0
  · rw [if_pos e0]
    refine ⟨z1, z1, ?_⟩
    rw [Sx.cat_ok (by omega), Os_some]
    exact ⟨s1.app s3, by rw [app_len]; omega⟩
  rw [if_neg e0]
  by_cases e3 : kind < 3
  · rw [if_pos e3]
    refine ⟨z1, ?_⟩
    rw [Sx.cat_ok (by omega), Os_some]
    refine ⟨z1, ?_⟩
    rw [Sx.cat_ok (by rw [app_len]; omega), Os_some]
    exact ⟨(s1.app sc).app s2, by rw [app_len, app_len]; omega⟩
  rw [if_neg e3]
  by_cases e5 : kind < 5
  · rw [if_pos e5]
    refine ⟨z1, ?_⟩
    rw [Sx.cat_ok (by omega), Os_some]
    refine ⟨z1, ?_⟩
    rw [Sx.cat_ok (by rw [app_len]; omega), Os_some]
    exact ⟨(s1.app sc).app s3, by rw [app_len, app_len]; omega⟩
  rw [if_neg e5]
  have m0 : ∀ {p}, p ∈ gCut (qs ++ [q]) none (some k) → p ∈ qs ++ [q] := fun h => by rw [cutL_to k0] at h; exact List.mem_of_mem_take h
  have mF : ∀ {p} {i : Int}, 0 ≤ i → p ∈ gCut (qs ++ [q]) (some i) none → p ∈ qs ++ [q] := fun hi h => by rw [cutL_from hi] at h; exact List.mem_of_mem_drop h
  have mM : ∀ {p} {i j : Int}, 0 ≤ i → 0 ≤ j → p ∈ gCut (qs ++ [q]) (some i) (some j) → p ∈ qs ++ [q] := fun hi hj h => by rw [cutL_mid hi hj] at h; exact List.mem_of_mem_drop (List.mem_of_mem_take h)
  have n0 : (gCut (qs ++ [q]) none (some k)).length ≤ 1001 := by rw [cutL_to k0, List.length_take]; omega
  have nF : ∀ {i : Int}, 0 ≤ i → (gCut (qs ++ [q]) (some i) none).length ≤ 1001 := fun hi => by rw [cutL_from hi, List.length_drop]; omega
  have nM : ∀ {i j : Int}, 0 ≤ i → 0 ≤ j → (gCut (qs ++ [q]) (some i) (some j)).length ≤ 1001 := fun hi hj => by rw [cutL_mid hi hj, List.length_take, List.length_drop]; omega
  by_cases e5' : kind = 5
  · rw [if_pos e5']
    refine ⟨by have := nF (i := k + 1) (by omega); rw [sizeLine_eq]; omega, fin _ (fun p hp => (List.mem_append.mp hp).elim m0 (mF (by omega))) ?_⟩
    rw [ll_app, cutL_to k0, cutL_from (by omega)]
    have a := ll_split (qs ++ [q]) k.toNat
    have b := ll_drop ((qs ++ [q]).drop k.toNat) 1
    rw [List.drop_drop] at b
    rw [show (k + 1).toNat = k.toNat + 1 from by omega]
    omega
  rw [if_neg e5']
  by_cases e6 : kind = 6
  · rw [if_pos e6]
    have x1 := nF (i := k) k0
    have x2 := nM (i := k) (j := k + 1) k0 (by omega)
    refine ⟨by rw [sizeLine_eq]; omega, by rw [sizeLine_eq, List.length_append]; omega, fin _ (fun p hp => (List.mem_append.mp hp).elim (fun z => (List.mem_append.mp z).elim m0 (mM k0 (by omega))) (mF k0)) ?_⟩
    rw [ll_app, ll_app, cutL_to k0, cutL_from k0, cutL_mid k0 (by omega)]
    have a := ll_split (qs ++ [q]) k.toNat
    have b := ll_take ((qs ++ [q]).drop k.toNat) ((k + 1).toNat - k.toNat)
    have d := ll_drop (qs ++ [q]) k.toNat
    omega
  rw [if_neg e6]
  by_cases e7 : kind = 7
  · rw [if_pos e7]
    have x1 := nF (i := k + 2) (by omega)
    have x2 := nM (i := k) (j := k + 1) k0 (by omega)
    have x3 := nM (i := k + 1) (j := k + 2) (by omega) (by omega)
    refine ⟨by rw [sizeLine_eq]; omega, by rw [sizeLine_eq, List.length_append]; omega, by rw [sizeLine_eq, List.length_append, List.length_append]; omega, fin _ (fun p hp => (List.mem_append.mp hp).elim (fun z => (List.mem_append.mp z).elim (fun z => (List.mem_append.mp z).elim m0 (mM (by omega) (by omega))) (mM k0 (by omega))) (mF (by omega))) ?_⟩
    rw [ll_app, ll_app, ll_app, cutL_to k0, cutL_from (by omega), cutL_mid k0 (by omega), cutL_mid (by omega) (by omega)]
    have a := ll_split (qs ++ [q]) k.toNat
    have b := ll_drop2 (qs ++ [q]) k.toNat 1
    have d := ll_drop2 (qs ++ [q]) (k.toNat + 1) 1
    rw [show (k + 1).toNat = k.toNat + 1 from by omega, show (k + 2).toNat = k.toNat + 1 + 1 from by omega, Nat.add_sub_cancel_left, Nat.add_sub_cancel_left]
    omega
  rw [if_neg e7]
  exact ⟨hs, by omega⟩
end K44
set_option Elab.async false
set_option linter.all false
set_option maxRecDepth 100000
set_option maxHeartbeats 4000000
namespace K44
open PySem PySem.Spec PyProof.Rows L2 Mn Ty
open Tn Tj
structure Sh (n : Int) : Prop where
  s : gStr n = some (wd n)
  m : Sm (wd n)
  l : (wd n).length ≤ 2
theorem sh_nn {n : Int} (h0 : 0 ≤ n) (h1 : n ≤ 12) : Sh n := ⟨(numF h0 h1).str, (numF h0 h1).sm, (numF h0 h1).l2⟩
theorem sh_lead {L : Int} (h : -3 ≤ L ∧ L ≤ 2) : Sh L := by
  have all : ∀ k : Fin 6, gStr ((k.val : Int) - 3) = some (wd ((k.val : Int) - 3)) ∧ (∀ c ∈ tl (wd ((k.val : Int) - 3)), c < 128) ∧ (wd ((k.val : Int) - 3)).length ≤ 2 := by
    unfold gStr
    decide +kernel
  obtain ⟨a, b, c⟩ := all ⟨(L + 3).toNat, by omega⟩
  have e : (((L + 3).toNat : Nat) : Int) - 3 = L := by omega
  simp only [e] at a b c
  exact ⟨a, b, c⟩
theorem lits : ("machine " : Str).length = 8 ∧ (" " : Str).length = 1 ∧ ("\n" : Str).length = 1 ∧ ("/" : Str).length = 1 ∧ ("opening" : Str).length = 7 := by decide +kernel
theorem litSm : Sm "machine " ∧ Sm " " ∧ Sm "\n" ∧ Sm "/" ∧ Sm "opening" := by unfold Sm; decide +kernel
def pt (p : Int × Int) : Str := wd p.1 ++ "/" ++ wd p.2
theorem mtext_ok {i o L : Int} {op : List Int} {rows : List (List (Int × Int))} (V : VM i o L op rows) (hi : i ≤ 2) (ho : o ≤ 3) (hr : rows.length ≤ 3) : Ev (F_law_machine_text () (i, o, L, op, rows, ())) (fun r _ => Sm r ∧ r.length ≤ 100) (fun _ _ => False) := by
  have i1 := V.i1
  have o1 := V.o1
  have I := sh_nn (n := i) (by omega) (by omega)
  have O := sh_nn (n := o) (by omega) (by omega)
  have LL := sh_lead V.L0
  have il := I.l
  have oL := O.l
  have lL := LL.l
  have opl : op.length ≤ 3 := by have := V.ol; have := V.L0; omega
  have P : ∀ x ∈ op, Sh x := fun x hx => by have := V.op x hx; exact sh_nn (by omega) (by omega)
  have R : ∀ row ∈ rows, row.length ≤ 2 ∧ ∀ p ∈ row, Sh p.1 ∧ Sh p.2 := fun row hrow => by
    obtain ⟨v1, v2, v3⟩ := V.r row hrow
    exact ⟨by omega, fun p hp => ⟨by have := v2 p hp; exact sh_nn (by omega) (by omega), by have := v3 p hp; exact sh_nn (by omega) (by omega)⟩⟩
  have z := lits
  unfold F_law_machine_text
  apply Ev_yRun
  simp only [Ev_ok, Ev_exc, Os_some, Os_if, Ev_xC, Ev_xV, Ev_xN, Ev_xYes, Ev_x1, Ev_x1o, Ev_x2, Ev_x2o, Ev_xIxV, Ev_xIf, Ev_xAnd, Ev_xOr, Ev_xNot, Ev_xCs, Ev_xUn, Ev_xCh, Ev_xSl, Ev_xMeth, Ev_xCall, Ev_xMake, Ev_xComp, Po_nx, Po_yNil, Po_ySeq, Po_ySet, Po_yRet, Po_yRetC, Po_yExpr, Po_yIf, Po_yBreak, Po_yCont, Po_yRaise, Po_yFor, Po_ySetI, Po_yAugI, Po_yTry, gApp, gCat, gMul, gDiv, gMod, gPow, gRep, id, decide_eq_true_eq, Bool.not_eq_true', decide_eq_false_iff_not, Bool.false_eq_true, if_false, if_true, ite_true, ite_false]
  rw [I.s, Os_some, Sx.cat_ok (by omega), Os_some, Sx.cat_ok (by simp only [app_len]; omega), Os_some]
  rw [O.s, Os_some, Sx.cat_ok (by simp only [app_len]; omega), Os_some, Sx.cat_ok (by simp only [app_len]; omega), Os_some]
  rw [LL.s, Os_some, Sx.cat_ok (by simp only [app_len]; omega), Os_some, Sx.cat_ok (by simp only [app_len]; omega), Os_some]
  have hS : Sm (("machine " ++ wd i ++ " " ++ wd o ++ " " ++ wd L) ++ "\n") := ((((((litSm.1.app I.m).app litSm.2.1).app O.m).app litSm.2.1).app LL.m).app litSm.2.2.1)
  have hl : (("machine " ++ wd i ++ " " ++ wd o ++ " " ++ wd L) ++ "\n").length ≤ 17 := by simp only [app_len]; omega
  generalize hT : (("machine " ++ wd i ++ " " ++ wd o ++ " " ++ wd L) ++ "\n" : Str) = T at hS hl ⊢
  refine comp_mapP (fun s => s.lrows = rows ∧ s.ltext = T) wd ⟨rfl, rfl⟩ (by show op.length ≤ _; omega) ?_ ?_
  · rintro x hx s ⟨h1, h2⟩
    simp only [Ev_ok, Ev_exc, Os_some, Os_if, Ev_xC, Ev_xV, Ev_xN, Ev_xYes, Ev_x1, Ev_x1o, Ev_x2, Ev_x2o, Ev_xIxV, Ev_xIf, Ev_xAnd, Ev_xOr, Ev_xNot, Ev_xCs, Ev_xUn, Ev_xCh, Ev_xSl, Ev_xMeth, Ev_xCall, Ev_xMake, Ev_xComp, Po_nx, Po_yNil, Po_ySeq, Po_ySet, Po_yRet, Po_yRetC, Po_yExpr, Po_yIf, Po_yBreak, Po_yCont, Po_yRaise, Po_yFor, Po_ySetI, Po_yAugI, Po_yTry, gApp, gCat, gMul, gDiv, gMod, gPow, gRep, id, decide_eq_true_eq, Bool.not_eq_true', decide_eq_false_iff_not, Bool.false_eq_true, if_false, if_true, ite_true, ite_false]
    rw [(P x hx).s, Os_some]
    exact ⟨rfl, h1, h2⟩
  rintro s ⟨h1, h2⟩
  simp only [Ev_ok, Ev_exc, Os_some, Os_if, Ev_xC, Ev_xV, Ev_xN, Ev_xYes, Ev_x1, Ev_x1o, Ev_x2, Ev_x2o, Ev_xIxV, Ev_xIf, Ev_xAnd, Ev_xOr, Ev_xNot, Ev_xCs, Ev_xUn, Ev_xCh, Ev_xSl, Ev_xMeth, Ev_xCall, Ev_xMake, Ev_xComp, Po_nx, Po_yNil, Po_ySeq, Po_ySet, Po_yRet, Po_yRetC, Po_yExpr, Po_yIf, Po_yBreak, Po_yCont, Po_yRaise, Po_yFor, Po_ySetI, Po_yAugI, Po_yTry, gApp, gCat, gMul, gDiv, gMod, gPow, gRep, id, decide_eq_true_eq, Bool.not_eq_true', decide_eq_false_iff_not, Bool.false_eq_true, if_false, if_true, ite_true, ite_false]
  refine ⟨by show 1 + (op.map wd).length ≤ _; rw [List.length_map, sizeLine_eq]; omega, ?_⟩
  have jp : ∀ p ∈ ([("opening" : Str)] ++ op.map wd), p.length ≤ 7 ∧ Sm p := fun p hp => by
    rcases List.mem_append.mp hp with hp | hp
    · rw [List.mem_singleton.mp hp]; exact ⟨by omega, litSm.2.2.2.2⟩
    · obtain ⟨x, hx, rfl⟩ := List.mem_map.mp hp
      exact ⟨by have := (P x hx).l; omega, (P x hx).m⟩
  have jn : ([("opening" : Str)] ++ op.map wd).length ≤ 4 := by rw [List.length_append, List.length_map]; simp <;> omega
  have jl := join_len (y := " ") (ps := [("opening" : Str)] ++ op.map wd) (B := 7) fun p hp => (jp p hp).1
  rw [z.2.1] at jl
  have jl : (Txt.join " " ([("opening" : Str)] ++ op.map wd)).length ≤ 32 := by
    have := Nat.mul_le_mul_right (7 + 1) jn
    omega
  have jS := Sm.join (y := " ") (ps := [("opening" : Str)] ++ op.map wd) litSm.2.1 fun p hp => (jp p hp).2
  show Os (gJoin " " ([("opening" : Str)] ++ op.map wd)) _
  rw [join_some (B := 7) (fun p hp => (jp p hp).1) (by rw [z.2.1]; have := Nat.mul_le_mul_right (7 + 1) jn; omega), Os_some, Sx.cat_ok (by omega), Os_some, Sx.cat_ok (by simp only [app_len]; omega), Os_some]
  show Po (yForL _ _ s.lrows _) _ _ _ _ _
  rw [h1]
  refine po_forP (fun ys s => Sm s.ltext ∧ s.ltext.length ≤ 50 + 13 * ys.length) ⟨(hS.app jS).app litSm.2.2.1, by simp only [app_len]; show _ ≤ 50 + 13 * 0; omega⟩ ?_ ?_
  · clear h1 h2 s
    rintro ys zs row s er ⟨h1, h2⟩
    have hrow : row ∈ rows := by rw [show rows = ys ++ row :: zs from er]; simp
    obtain ⟨r1, r2⟩ := R row hrow
    have yl : ys.length + 1 ≤ 3 := by
      have := congrArg List.length (show rows = ys ++ row :: zs from er)
      rw [List.length_append, List.length_cons] at this
      omega
    simp only [Ev_ok, Ev_exc, Os_some, Os_if, Ev_xC, Ev_xV, Ev_xN, Ev_xYes, Ev_x1, Ev_x1o, Ev_x2, Ev_x2o, Ev_xIxV, Ev_xIf, Ev_xAnd, Ev_xOr, Ev_xNot, Ev_xCs, Ev_xUn, Ev_xCh, Ev_xSl, Ev_xMeth, Ev_xCall, Ev_xMake, Ev_xComp, Po_nx, Po_yNil, Po_ySeq, Po_ySet, Po_yRet, Po_yRetC, Po_yExpr, Po_yIf, Po_yBreak, Po_yCont, Po_yRaise, Po_yFor, Po_ySetI, Po_yAugI, Po_yTry, gApp, gCat, gMul, gDiv, gMod, gPow, gRep, id, decide_eq_true_eq, Bool.not_eq_true', decide_eq_false_iff_not, Bool.false_eq_true, if_false, if_true, ite_true, ite_false]
    have pl : ∀ p ∈ row, (pt p).length ≤ 5 ∧ Sm (pt p) := fun p hp => by
      obtain ⟨a, b⟩ := r2 p hp
      have := a.l
      have := b.l
      exact ⟨by unfold pt; simp only [app_len]; omega, (a.m.app litSm.2.2.2.1).app b.m⟩
    refine comp_mapP (fun s' => s'.ltext = s.ltext) pt rfl (by show row.length ≤ _; omega) ?_ ?_
    · rintro p hp s' hs'
      obtain ⟨a, b⟩ := r2 p hp
      have al := a.l
      have bl := b.l
      simp only [Ev_ok, Ev_exc, Os_some, Os_if, Ev_xC, Ev_xV, Ev_xN, Ev_xYes, Ev_x1, Ev_x1o, Ev_x2, Ev_x2o, Ev_xIxV, Ev_xIf, Ev_xAnd, Ev_xOr, Ev_xNot, Ev_xCs, Ev_xUn, Ev_xCh, Ev_xSl, Ev_xMeth, Ev_xCall, Ev_xMake, Ev_xComp, Po_nx, Po_yNil, Po_ySeq, Po_ySet, Po_yRet, Po_yRetC, Po_yExpr, Po_yIf, Po_yBreak, Po_yCont, Po_yRaise, Po_yFor, Po_ySetI, Po_yAugI, Po_yTry, gApp, gCat, gMul, gDiv, gMod, gPow, gRep, id, decide_eq_true_eq, Bool.not_eq_true', decide_eq_false_iff_not, Bool.false_eq_true, if_false, if_true, ite_true, ite_false]
      rw [a.s, Os_some, Sx.cat_ok (by omega), Os_some, b.s, Os_some, Sx.cat_ok (by simp only [app_len]; omega), Os_some]
      exact ⟨rfl, hs'⟩
    · rintro s' hs'
      dsimp only
      have q1 : ∀ p ∈ row.map pt, p.length ≤ 5 ∧ Sm p := fun p hp => by
        obtain ⟨x, hx, rfl⟩ := List.mem_map.mp hp
        exact pl x hx
      have q2 := join_len (y := " ") (ps := row.map pt) (B := 5) fun p hp => (q1 p hp).1
      rw [z.2.1, List.length_map] at q2
      have q3 : (Txt.join " " (row.map pt)).length ≤ 12 := by
        have := Nat.mul_le_mul_right (5 + 1) r1
        omega
      have q4 := Sm.join (y := " ") (ps := row.map pt) litSm.2.1 fun p hp => (q1 p hp).2
      rw [join_some (B := 5) (fun p hp => (q1 p hp).1) (by rw [List.length_map, z.2.1]; have := Nat.mul_le_mul_right (5 + 1) r1; omega), Os_some]
      rw [Sx.cat_ok (by omega), Os_some, Sx.cat_ok (by simp only [app_len]; omega), Os_some]
      refine ⟨(h1.app q4).app litSm.2.2.1, ?_⟩
      simp only [app_len, List.length_append, List.length_cons, List.length_nil]
      omega
  · rintro s ⟨h1, h2⟩
    exact ⟨h1, by omega⟩
theorem nf_rnum : ∀ i a C xs s', F_read_number i a = .exc C xs s' → xs = [] := by
  unfold F_read_number
  refine nx_Run ?_
  repeat' first | apply nf_Seq | apply nf_Set | apply nf_If | apply nf_For | apply nf_Raise | apply nf_Nil | apply nf_Ret | apply nx_And | apply nx_Or | apply nx_Not | apply nx_Cs | apply nx_2o | apply nx_1o | apply nx_2 | apply nx_1 | apply nx_SlS | apply nx_V | apply nx_C | apply nx_N
theorem nf_rlead : ∀ i a C xs s', F_read_lead i a = .exc C xs s' → xs = [] := by
  unfold F_read_lead
  refine nx_Run ?_
  repeat' first | exact nf_rnum | apply nf_Seq | apply nf_Set | apply nf_If | apply nf_For | apply nf_Raise | apply nf_Nil | apply nf_Ret | apply nx_And | apply nx_Or | apply nx_Not | apply nx_Call | apply nx_Cs | apply nx_2o | apply nx_1o | apply nx_2 | apply nx_1 | apply nx_SlS | apply nx_V | apply nx_C | apply nx_N
theorem nf_rwords : ∀ i a C xs s', F_read_words i a = .exc C xs s' → xs = [] := by
  unfold F_read_words
  refine nx_Run ?_
  repeat' first | exact nf_rnum | apply nf_Seq | apply nf_Set | apply nf_If | apply nf_For | apply nf_Raise | apply nf_Nil | apply nf_Ret | apply nx_And | apply nx_Or | apply nx_Not | apply nx_Call | apply nx_Cs | apply nx_2o | apply nx_1o | apply nx_2 | apply nx_1 | apply nx_SlS | apply nx_Sl | apply nx_V | apply nx_C | apply nx_N
theorem nf_rpair : ∀ i a C xs s', F_read_pair i a = .exc C xs s' → xs = [] := by
  unfold F_read_pair
  refine nx_Run ?_
  repeat' first | exact nf_rnum | apply nf_Seq | apply nf_Set | apply nf_If | apply nf_For | apply nf_Raise | apply nf_Nil | apply nf_Ret | apply nx_And | apply nx_Or | apply nx_Not | apply nx_Call | apply nx_Cs | apply nx_2o | apply nx_1o | apply nx_2 | apply nx_1 | apply nx_SlS | apply nx_Sl | apply nx_V | apply nx_C | apply nx_N
section
variable {σ α β γ δ : Type}
theorem nx_Ch {p : σ → X σ α} {q : σ → X σ β} {r : σ → X σ γ} {g : α → β → Option Bool} {g' : β → γ → Option Bool} (h : NX p) (k : NX q) (m : NX r) : NX (xCh g g' p q r) := by with_unfolding_all exact (fun s => nx_bind (h s) fun a s => nx_bind (k s) fun b s C xs s' e => by
  cases hg : g a b with
  | none => rw [hg] at e; cases e
  | some v =>
    cases v with
    | false => rw [hg] at e; cases e
    | true =>
      rw [hg] at e
      refine nx_bind (m s) (fun c s C xs s' e => ?_) C xs s' e
      cases hg' : g' b c with
      | none => rw [hg'] at e; cases e
      | some v => rw [hg'] at e; cases e)
theorem nx_Meth {get : σ → List α} {put : σ → List α → σ} {g : List α → β → Option (γ × List α)} {q : σ → X σ β} (h : NX q) : NX (xMeth get put g q) := by with_unfolding_all exact (fun s => nx_bind (h s) fun b s C xs s' e => by
  cases hg : g (get s) b with
  | none => rw [hg] at e; cases e
  | some r => rw [hg] at e; cases e)
end
theorem nf_init : ∀ a C xs s', F_Machine_init a = .exc C xs s' → xs = [] := by
  unfold F_Machine_init
  refine nx_Init ?_
  repeat' first | exact nf_nox | apply nf_Seq | apply nf_Set | apply nf_If | apply nf_For | apply nf_Raise | apply nf_Nil | apply nf_Ret | apply nx_And | apply nx_Or | apply nx_Not | apply nx_Call | apply nx_Comp | apply nx_Ch | apply nx_Cs | apply nx_2o | apply nx_1o | apply nx_2 | apply nx_1 | apply nx_SlS | apply nx_V | apply nx_C | apply nx_N
theorem nf_parse : ∀ i a C xs s', F_parse_machine i a = .exc C xs s' → xs = [] := by
  unfold F_parse_machine
  refine nx_Run ?_
  repeat' first | exact nf_rnum | exact nf_rlead | exact nf_rwords | exact nf_rpair | exact nf_init | apply nf_Seq | apply nf_Set | apply nf_If | apply nf_For | apply nf_Raise | apply nf_Nil | apply nf_Ret | apply nf_Expr | apply nf_TryN | apply nx_And | apply nx_Or | apply nx_Not | apply nx_Call | apply nx_Make | apply nx_CompX | apply nx_Meth | apply nx_Cs | apply nx_2o | apply nx_1o | apply nx_2 | apply nx_1 | apply nx_SlS | apply nx_Sl | apply nx_V | apply nx_C | apply nx_N
def OutOk (text : Str) (r : Option C_Machine) : Prop := (∀ A, r = some A → readP text = some (A.inputs, A.outputs, A.lead, A.opening, A.rows) ∧ VM A.inputs A.outputs A.lead A.opening A.rows) ∧ (r = none → NoVM text)
theorem outcome_ok {text : Str} (h : Wd text) : Ev (F_law_outcome () (text, ())) (fun r _ => OutOk text r) (fun _ _ => False) := by
  unfold F_law_outcome
  apply Ev_yRun
  rw [Po_ySeq, Po_yTry2 (nf_Ret (nx_1 (nx_Call nf_parse (nx_Cs nx_V nx_C))))]
  simp only [Ev_ok, Ev_exc, Os_some, Os_if, Ev_xC, Ev_xV, Ev_xN, Ev_xYes, Ev_x1, Ev_x1o, Ev_x2, Ev_x2o, Ev_xIxV, Ev_xIf, Ev_xAnd, Ev_xOr, Ev_xNot, Ev_xCs, Ev_xUn, Ev_xCh, Ev_xSl, Ev_xMeth, Ev_xCall, Ev_xMake, Ev_xComp, Po_nx, Po_yNil, Po_ySeq, Po_ySet, Po_yRet, Po_yRetC, Po_yExpr, Po_yIf, Po_yBreak, Po_yCont, Po_yRaise, Po_yFor, Po_ySetI, Po_yAugI, Po_yTry, gApp, gCat, gMul, gDiv, gMod, gPow, gRep, id, decide_eq_true_eq, Bool.not_eq_true', decide_eq_false_iff_not, Bool.false_eq_true, if_false, if_true, ite_true, ite_false]
  refine (parse_ok h).mono ?_ ?_
  · rintro A _ e
    exact ⟨fun B q => by cases q; exact e, fun q => (nomatch q)⟩
  · rintro C _ ⟨rfl, e⟩
    show Po (yRetC none _) _ _ _ _ _
    simp only [Ev_ok, Ev_exc, Os_some, Os_if, Ev_xC, Ev_xV, Ev_xN, Ev_xYes, Ev_x1, Ev_x1o, Ev_x2, Ev_x2o, Ev_xIxV, Ev_xIf, Ev_xAnd, Ev_xOr, Ev_xNot, Ev_xCs, Ev_xUn, Ev_xCh, Ev_xSl, Ev_xMeth, Ev_xCall, Ev_xMake, Ev_xComp, Po_nx, Po_yNil, Po_ySeq, Po_ySet, Po_yRet, Po_yRetC, Po_yExpr, Po_yIf, Po_yBreak, Po_yCont, Po_yRaise, Po_yFor, Po_ySetI, Po_yAugI, Po_yTry, gApp, gCat, gMul, gDiv, gMod, gPow, gRep, id, decide_eq_true_eq, Bool.not_eq_true', decide_eq_false_iff_not, Bool.false_eq_true, if_false, if_true, ite_true, ite_false]
    exact ⟨fun B q => (nomatch q), fun _ => e⟩
theorem readP_rows {text : Str} {i o L : Int} {op : List Int} {rows : List (List (Int × Int))} (h : Wd text) (e : readP text = some (i, o, L, op, rows)) : rows.length ≤ 641 := by
  obtain ⟨ls, S⟩ := h.spl3
  have cnt := S.cnt
  have tlen := h.l
  rw [readP_of S.g] at e
  by_cases c0 : ls.length < 4
  · rw [linesQ_short c0] at e; cases e
  obtain ⟨l0, l1, mid, last, rfl, hm⟩ := lines_shape c0
  rw [linesQ_of hm] at e
  split at e
  rotate_left
  · cases e
  unfold bodyP at e
  cases e1 : (tailP "machine" l0).bind headQ with
  | none => rw [e1] at e; cases e
  | some x =>
    cases e2 : (tailP "opening" l1).bind (allP num) with
    | none => rw [e1, e2] at e; cases e
    | some y =>
      cases e3 : allP rowP mid with
      | none => rw [e1, e2, e3] at e; cases e
      | some z =>
        rw [e1, e2, e3] at e
        have e : (x.1, x.2.1, x.2.2, y, z) = (i, o, L, op, rows) := Option.some.inj e
        have e : z = rows := by cases e; rfl
        rw [← e, (allP_len e3).1]
        rw [List.length_cons, List.length_cons, List.length_append] at cnt
        omega
theorem law_ok (ns : List Int) (hl : ns.length ≤ 63) : F_law () (ns, ()) = .ok true () := by
  unfold F_law
  refine Ev.ok (Ev_yRun ?_)
  simp only [Ev_ok, Ev_exc, Os_some, Os_if, Ev_xC, Ev_xV, Ev_xN, Ev_xYes, Ev_x1, Ev_x1o, Ev_x2, Ev_x2o, Ev_xIxV, Ev_xIf, Ev_xAnd, Ev_xOr, Ev_xNot, Ev_xCs, Ev_xUn, Ev_xCh, Ev_xSl, Ev_xMeth, Ev_xCall, Ev_xMake, Ev_xComp, Po_nx, Po_yNil, Po_ySeq, Po_ySet, Po_yRet, Po_yRetC, Po_yExpr, Po_yIf, Po_yBreak, Po_yCont, Po_yRaise, Po_yFor, Po_ySetI, Po_yAugI, Po_yTry, gApp, gCat, gMul, gDiv, gMod, gPow, gRep, id, decide_eq_true_eq, Bool.not_eq_true', decide_eq_false_iff_not, Bool.false_eq_true, if_false, if_true, ite_true, ite_false]
  refine (draws_ok hl (by decide) (by decide)).mono ?_
  intro ds _ _
  refine (take_ok (by decide)).mono ?_
  intro a _ ha
  refine (take_ok (by decide)).mono ?_
  intro b _ hb
  refine (take_ok (by decide)).mono ?_
  intro c _ hc
  refine (lmach_ok (i := 1 + a) (o := 1 + b) (L := c - 3) (m := 3) ⟨by omega, by omega⟩ (by omega) ⟨by omega, by omega⟩ ⟨by decide, by decide⟩).mono ?_
  rintro ⟨op, rows⟩ _ ⟨V, rl⟩
  refine (mtext_ok V (by omega) (by omega) (by have : (rows.length : Int) ≤ 3 := rl; omega)).mono ?_ (fun _ _ h => h)
  rintro text _ ⟨tS, tl1⟩
  refine (take_ok (by decide)).mono ?_
  intro n _ hn
  refine Os_intro (rng1 (by omega) (by omega)) ?_
  refine po_forL (fun j s => Sm s.ltext ∧ s.ltext.length ≤ if j = 0 then 100 else if j = 1 then 202 else 406) ⟨tS, tl1⟩ ?_ ?_
  · rintro j x s hx ⟨h1, h2⟩
    have hj := (rng_get hx).2
    have hj : j < 2 := by omega
    simp only [Ev_ok, Ev_exc, Os_some, Os_if, Ev_xC, Ev_xV, Ev_xN, Ev_xYes, Ev_x1, Ev_x1o, Ev_x2, Ev_x2o, Ev_xIxV, Ev_xIf, Ev_xAnd, Ev_xOr, Ev_xNot, Ev_xCs, Ev_xUn, Ev_xCh, Ev_xSl, Ev_xMeth, Ev_xCall, Ev_xMake, Ev_xComp, Po_nx, Po_yNil, Po_ySeq, Po_ySet, Po_yRet, Po_yRetC, Po_yExpr, Po_yIf, Po_yBreak, Po_yCont, Po_yRaise, Po_yFor, Po_ySetI, Po_yAugI, Po_yTry, gApp, gCat, gMul, gDiv, gMod, gPow, gRep, id, decide_eq_true_eq, Bool.not_eq_true', decide_eq_false_iff_not, Bool.false_eq_true, if_false, if_true, ite_true, ite_false]
    have h3 : s.ltext.length ≤ 202 := by
      by_cases e : j = 0
      · rw [if_pos e] at h2; omega
      · rw [if_neg e, if_pos (by omega)] at h2; exact h2
    refine (change_ok h1 (by omega)).mono ?_ (fun _ _ h => h)
    rintro t _ ⟨k1, k2⟩
    refine ⟨k1, ?_⟩
    show t.length ≤ _
    have k2 : t.length ≤ 2 * s.ltext.length + 2 := k2
    by_cases e : j = 0
    · subst e
      rw [if_pos rfl] at h2
      show t.length ≤ 202
      omega
    · rw [if_neg e, if_pos (by omega)] at h2
      rw [if_neg (by omega), if_neg (by omega)]
      omega
  rintro s ⟨h1, h2⟩
  have h3 : s.ltext.length ≤ 640 := by
    by_cases e : (rng 0 (1 + n).toNat).length = 0
    · rw [if_pos e] at h2; omega
    · rw [if_neg e] at h2
      split at h2 <;> omega
  have W : Wd s.ltext := ⟨h1, h3⟩
  refine (lread_ok W).mono ?_ (fun _ _ h => h)
  rintro r _ ⟨r1, r2⟩
  refine (outcome_ok W).mono ?_ (fun _ _ h => h)
  rintro A _ ⟨a1, a2⟩
  cases r with
  | none =>
    rw [if_pos (by rfl)]
    cases A with
    | none => exact ⟨rfl, trivial⟩
    | some B =>
      obtain ⟨q1, q2⟩ := a1 B rfl
      exact absurd q2 (r2 rfl _ _ _ _ _ q1)
  | some x =>
    rw [if_neg (by simp)]
    obtain ⟨i, o, L, op, rows⟩ := x
    obtain ⟨q1, q2⟩ := r1 i o L op rows rfl
    cases A with
    | none => exact absurd q2 (a2 rfl _ _ _ _ _ q1)
    | some B =>
      rw [if_neg (by simp)]
      obtain ⟨q3, q4⟩ := a1 B rfl
      obtain ⟨bi, bo, bL, bop, brows⟩ := B
      rw [q1] at q3
      have q3 : (i, o, L, op, rows) = (bi, bo, bL, bop, brows) := Option.some.inj q3
      cases q3
      have rl2 := readP_rows W q1
      simp only [Os_some]
      refine (lismach_ok q2).mono ?_ (fun _ _ h => h)
      rintro _ _ rfl
      rw [if_neg (by simp), if_pos trivial]
      refine comp_mapP (fun s' => s'.lexpected = some (i, o, L, op, rows)) (fun r => r) rfl (by show rows.length ≤ _; omega) ?_ ?_
      · rintro r hr s hs
        simp only [Ev_ok, Ev_exc, Os_some, Os_if, Ev_xC, Ev_xV, Ev_xN, Ev_xYes, Ev_x1, Ev_x1o, Ev_x2, Ev_x2o, Ev_xIxV, Ev_xIf, Ev_xAnd, Ev_xOr, Ev_xNot, Ev_xCs, Ev_xUn, Ev_xCh, Ev_xSl, Ev_xMeth, Ev_xCall, Ev_xMake, Ev_xComp, Po_nx, Po_yNil, Po_ySeq, Po_ySet, Po_yRet, Po_yRetC, Po_yExpr, Po_yIf, Po_yBreak, Po_yCont, Po_yRaise, Po_yFor, Po_ySetI, Po_yAugI, Po_yTry, gApp, gCat, gMul, gDiv, gMod, gPow, gRep, id, decide_eq_true_eq, Bool.not_eq_true', decide_eq_false_iff_not, Bool.false_eq_true, if_false, if_true, ite_true, ite_false]
        exact ⟨trivial, hs⟩
      · rintro s hs
        dsimp only
        rw [hs, Os_some, List.map_id']
        exact ⟨rfl, trivial⟩
end K44
set_option Elab.async false
set_option linter.all false
namespace K44
open Mn
theorem law_true (ns : List Int) (hl : ns.length ≤ 63) : ∃ h', m_law [.sl (ns.map MV.int)] [] = .ok (.bl true) h' := by
  have z := ty_law () (ns, ()) [.sl (ns.map MV.int)] [] [] ⟨_, rfl, rfl, rfl⟩ List.nodup_nil
  rw [law_ok ns hl] at z
  obtain ⟨v, h', _, _, e, _, r, _⟩ := z
  exact ⟨h', by rw [e, r.1]⟩
end K44
open PySem PySem.W PyProof.Rows
set_option maxRecDepth 100000 in
set_option maxHeartbeats 0 in
theorem PySem.Challenge.cw_reactivesynth_k44_machine_text_refused_holds : PySem.Challenge.rw_reactivesynth_k44_machine_text_refused.Holds := by
  w_on; o_law; k_head; (case hw => w_witness2)
  k_fill
  refine L2.walk_of (l := PySem.Challenge.rw_reactivesynth_k44_machine_text_refused) (n := 63) (k := 6) (x := "_law_script") (CX := fun w => L2.CX PySem.Challenge.pw_reactivesynth_k44_machine_text_refused w) (sp := fun w => Mn.spL _ K44.m_law) rfl (by decide) rfl ⟨rfl, by decide, by decide⟩ (fun w h Y => PySem.W.kIn_of Y) ?F (fun _ _ a ns hl _ hS => Mn.law_sp hS (K44.law_true ns hl)) (fun _ _ _ _ _ h => ?X)
  case F =>
    intro w mg fa h KX G hmg
    refine' Mn.law_run h hmg (fun base => K44.ok_law (K44.txt_mk KX G ?oa_Machine ?og_Machine ?oh_Machine ?oo_Machine ?os_Machine ?om_Machine ?ok_Machine ?on_Machine_inputs ?on_Machine_outputs ?on_Machine_lead ?on_Machine_opening ?on_Machine_rows ?a_law_draws ?l_law_draws ?c_law_draws ?k_law_draws ?a_law_take ?l_law_take ?c_law_take ?k_law_take ?a_law_machine ?l_law_machine ?c_law_machine ?k_law_machine ?a_law_is_integer ?l_law_is_integer ?c_law_is_integer ?k_law_is_integer ?a_law_integers ?l_law_integers ?c_law_integers ?k_law_integers ?a_law_is_machine ?l_law_is_machine ?c_law_is_machine ?k_law_is_machine ?a_law_machine_text ?l_law_machine_text ?c_law_machine_text ?k_law_machine_text ?a_all_below ?l_all_below ?c_all_below ?k_all_below ?a_Machine_init ?l_Machine_init ?c_Machine_init ?k_Machine_init ?i_Machine_init ?a_read_number ?l_read_number ?c_read_number ?k_read_number ?a_read_lead ?l_read_lead ?c_read_lead ?k_read_lead ?a_read_words ?l_read_words ?c_read_words ?k_read_words ?a_read_pair ?l_read_pair ?c_read_pair ?k_read_pair ?a_parse_machine ?l_parse_machine ?c_parse_machine ?k_parse_machine ?a_law_outcome ?l_law_outcome ?c_law_outcome ?k_law_outcome ?a_law_number ?l_law_number ?c_law_number ?k_law_number ?a_law_lead ?l_law_lead ?c_law_lead ?k_law_lead ?a_law_pairs ?l_law_pairs ?c_law_pairs ?k_law_pairs ?a_law_read ?l_law_read ?c_law_read ?k_law_read ?a_law_change ?l_law_change ?c_law_change ?k_law_change ?a_law ?l_law ?c_law ?k_law ?z_bool ?z_int ?z_isinstance ?z_len ?z_list ?z_max ?z_range ?z_str ?z_tuple ?xa_SynthError ?xq_SynthError ?xk_SynthError ?xb_SynthError ?xt_SynthError ?xa_InvalidMachine ?xq_InvalidMachine ?xk_InvalidMachine ?xb_InvalidMachine ?xt_InvalidMachine ?xa_MachineSyntaxError ?xq_MachineSyntaxError ?xk_MachineSyntaxError ?xb_MachineSyntaxError ?xt_MachineSyntaxError ?xi_InvalidMachine ?xi_MachineSyntaxError ?xi_SynthError ?xs_InvalidMachine_InvalidMachine ?xs_InvalidMachine_MachineSyntaxError ?xs_MachineSyntaxError_MachineSyntaxError ?xs_MachineSyntaxError_SynthError ?y1_MachineSyntaxError ?y2_MachineSyntaxError ?y5_MachineSyntaxError ?y6_MachineSyntaxError ?y7_MachineSyntaxError ?y8_MachineSyntaxError ?e8_Machine ?e0_Machine ?ga_DIGITS))
    (case oa_Machine => k_is); (case og_Machine => k_is); (case oh_Machine => k_is); (case oo_Machine => k_is); (case os_Machine => k_is); (case om_Machine => k_is); (case ok_Machine => k_is); (case on_Machine_inputs => k_is); (case on_Machine_outputs => k_is); (case on_Machine_lead => k_is); (case on_Machine_opening => k_is); (case on_Machine_rows => k_is); (case a_law_draws => k_is); (case l_law_draws => k_is); (case c_law_draws => k_is); (case k_law_draws => k_is); (case a_law_take => k_is); (case l_law_take => k_is); (case c_law_take => k_is); (case k_law_take => k_is); (case a_law_machine => k_is); (case l_law_machine => k_is); (case c_law_machine => k_is); (case k_law_machine => k_is); (case a_law_is_integer => k_is); (case l_law_is_integer => k_is); (case c_law_is_integer => k_is); (case k_law_is_integer => k_is); (case a_law_integers => k_is); (case l_law_integers => k_is); (case c_law_integers => k_is); (case k_law_integers => k_is); (case a_law_is_machine => k_is); (case l_law_is_machine => k_is); (case c_law_is_machine => k_is); (case k_law_is_machine => k_is); (case a_law_machine_text => k_is); (case l_law_machine_text => k_is); (case c_law_machine_text => k_is); (case k_law_machine_text => k_is); (case a_all_below => k_is); (case l_all_below => k_is); (case c_all_below => k_is); (case k_all_below => k_is); (case a_Machine_init => k_is); (case l_Machine_init => k_is); (case c_Machine_init => k_is); (case k_Machine_init => k_is); (case i_Machine_init => k_is); (case a_read_number => k_is); (case l_read_number => k_is); (case c_read_number => k_is); (case k_read_number => k_is); (case a_read_lead => k_is); (case l_read_lead => k_is); (case c_read_lead => k_is); (case k_read_lead => k_is); (case a_read_words => k_is); (case l_read_words => k_is); (case c_read_words => k_is); (case k_read_words => k_is); (case a_read_pair => k_is); (case l_read_pair => k_is); (case c_read_pair => k_is); (case k_read_pair => k_is); (case a_parse_machine => k_is); (case l_parse_machine => k_is); (case c_parse_machine => k_is); (case k_parse_machine => k_is); (case a_law_outcome => k_is); (case l_law_outcome => k_is); (case c_law_outcome => k_is); (case k_law_outcome => k_is); (case a_law_number => k_is); (case l_law_number => k_is); (case c_law_number => k_is); (case k_law_number => k_is); (case a_law_lead => k_is); (case l_law_lead => k_is); (case c_law_lead => k_is); (case k_law_lead => k_is); (case a_law_pairs => k_is); (case l_law_pairs => k_is); (case c_law_pairs => k_is); (case k_law_pairs => k_is); (case a_law_read => k_is); (case l_law_read => k_is); (case c_law_read => k_is); (case k_law_read => k_is); (case a_law_change => k_is); (case l_law_change => k_is); (case c_law_change => k_is); (case k_law_change => k_is); (case a_law => k_is); (case l_law => k_is); (case c_law => k_is); (case k_law => k_is); (case z_bool => k_is); (case z_int => k_is); (case z_isinstance => k_is); (case z_len => k_is); (case z_list => k_is); (case z_max => k_is); (case z_range => k_is); (case z_str => k_is); (case z_tuple => k_is); (case xa_SynthError => k_is); (case xq_SynthError => k_exc); (case xk_SynthError => k_is); (case xb_SynthError => k_is); (case xt_SynthError => k_is); (case xa_InvalidMachine => k_is); (case xq_InvalidMachine => k_exc); (case xk_InvalidMachine => k_is); (case xb_InvalidMachine => k_is); (case xt_InvalidMachine => k_is); (case xa_MachineSyntaxError => k_is); (case xq_MachineSyntaxError => k_exc); (case xk_MachineSyntaxError => k_is); (case xb_MachineSyntaxError => k_is); (case xt_MachineSyntaxError => k_is); (case xi_InvalidMachine => k_is); (case xi_MachineSyntaxError => k_is); (case xi_SynthError => k_is); (case xs_InvalidMachine_InvalidMachine => k_is); (case xs_InvalidMachine_MachineSyntaxError => k_is); (case xs_MachineSyntaxError_MachineSyntaxError => k_is); (case xs_MachineSyntaxError_SynthError => k_is); (case y1_MachineSyntaxError => k_is); (case y2_MachineSyntaxError => k_is); (case y5_MachineSyntaxError => k_is); (case y6_MachineSyntaxError => k_is); (case y7_MachineSyntaxError => k_is); (case y8_MachineSyntaxError => k_is); (case e8_Machine => k_is); (case e0_Machine => k_is); (case ga_DIGITS => k_is)
  case X =>
    obtain ⟨_, _, _, _, _, _, _, _, _, _, _, _, z⟩ := h
    exact z
