import PyProof.Rows.All
import Wide.All
import OpenK.AllK
import Wide.FinOn
import HandS.ForMost
import HandS.ForExc
import HandS.Walk
import HandS.Wide
import HandS.IsInst
import HandS.EndBits
import HandS.More
import HandS.SortInts
import HandS.Text
import HandS.Zip
import HandS.Iter
import HandS.TupAny
import PySem.Challenge.RW_pressluck_k22_whole_ends_come_to
set_option Elab.async false
set_option linter.all false
set_option maxRecDepth 100000
/-! Mx: a Python subset over plain data, held against the hand layer's readings. -/
namespace Mx
open PySem PySem.Spec PyProof.Rows L2

/-- plain data -/
inductive D where
  | non | bl (b : Bool) | int (i : Int) | str (s : Str) | tup (l : List D) | lst (l : List D) | dct (ks vs : List D) | exc (n : String) (a : List D) | scr (l : List D)

/-- an error: its class by name, what it carries -/
structure Exn where
  name : String
  arg : List D

inductive Rs (α : Type) where
  | no | ex (x : Exn) | ok (a : α)
def Rs.bind {α β : Type} : Rs α → (α → Rs β) → Rs β
  | .no, _ => .no
  | .ex x, _ => .ex x
  | .ok a, f => f a

abbrev Ts := List D
abbrev ME := Ts → Rs D
abbrev MT := Ts → Rs Bool
abbrev MA := Ts → Rs (List D)
inductive Out where
  | no | ex (x : Exn) (τ : Ts) | nx (τ : Ts) | rt (d : D)
abbrev MS := Ts → Out

abbrev Own := Addr → Prop
def KL (K : PySem.W.Frag) (a : Addr) (xs : List V) : Prop :=
  ∃ (o : Obj) (its : Array Value) (n : Nat), K.lookup a = some o ∧ o.cls = .type "list" ∧ o.dict = none ∧ o.data = .seq its n ∧ its.size ≤ sizeLine ∧ Vals xs its.toList
/-- the list at p, not one's own; the script -/
def FzL (O : Own) (H : Hp) (p : Addr) (vs : List V) : Prop := H p = some (.lst vs) ∧ ¬ O p
def ScL (K : PySem.W.Frag) (H : Hp) (p : Addr) (vs : List V) : Prop := (∃ o, H p = some (.frz o (.lst vs))) ∨ KL K p vs
theorem FzL.sq {K : PySem.W.Frag} {O : Own} {H : Hp} {p : Addr} {vs : List V} (h : FzL O H p vs) : SqL K H p vs := .of h.1
theorem ScL.sq {K : PySem.W.Frag} {H : Hp} {p : Addr} {vs : List V} (h : ScL K H p vs) : SqL K H p vs := h.elim (fun z => .inl (.inr z)) .inr

mutual
/-- v reads as d, nothing of it one's own (O) -/
def Den (K : PySem.W.Frag) (O : Own) (H : Hp) : D → V → Prop
  | .non, v => v = .non
  | .bl b, v => v = .bl b
  | .int i, v => v = .int i
  | .str s, v => v = .str s
  | .tup ds, v => ∃ p vs, v = .ref p ∧ SqT K H p vs ∧ Dens K O H ds vs
  | .lst ds, v => ∃ p vs, v = .ref p ∧ FzL O H p vs ∧ Dens K O H ds vs
  | .dct ks vs, v => False
  | .exc n a, v => False
  | .scr ds, v => ∃ p vs, v = .ref p ∧ ScL K H p vs ∧ Dens K O H ds vs
def Dens (K : PySem.W.Frag) (O : Own) (H : Hp) : List D → List V → Prop
  | [], vs => vs = []
  | d :: ds, vs => ∃ v r, vs = v :: r ∧ Den K O H d v ∧ Dens K O H ds r
end

/-- grown: all that was tracked stands, what is one's own was so or is new -/
def Gr (O : Own) (H : Hp) (O' : Own) (H' : Hp) : Prop := (∀ a o, H a = some o → H' a = some o) ∧ ∀ a, O' a → O a ∨ H a = none
theorem Gr.refl {O : Own} {H : Hp} : Gr O H O H := ⟨fun _ _ h => h, fun _ h => .inl h⟩
theorem Gr.trans {O O1 O2 : Own} {H H1 H2 : Hp} (a : Gr O H O1 H1) (b : Gr O1 H1 O2 H2) : Gr O H O2 H2 :=
  ⟨fun x o h => b.1 x o (a.1 x o h), fun x h => (b.2 x h).elim (fun z => a.2 x z) fun z => .inr (by
    cases q : H x with
    | none => rfl
    | some o =>
      rw [a.1 x o q] at z
      cases z)⟩
section
variable {K : PySem.W.Frag} {O O' : Own} {H H' : Hp}
theorem rd_mono (g : Gr O H O' H') {p : Addr} {u : HO} (h : Rd H p u) : Rd H' p u := h.elim (fun z => .inl (g.1 _ _ z)) fun ⟨o, z⟩ => .inr ⟨o, g.1 _ _ z⟩
theorem rd_some {p : Addr} {u : HO} (h : Rd H p u) : H p ≠ none := by
  rcases h with h | ⟨o, h⟩ <;> rw [h] <;> exact fun z => nomatch z
theorem sqt_mono (g : Gr O H O' H') {p : Addr} {vs : List V} (h : SqT K H p vs) : SqT K H' p vs := h.elim (fun z => .inl (rd_mono g z)) .inr
theorem sql_mono (g : Gr O H O' H') {p : Addr} {vs : List V} (h : SqL K H p vs) : SqL K H' p vs := h.elim (fun z => .inl (rd_mono g z)) .inr
theorem fzl_mono (g : Gr O H O' H') {p : Addr} {vs : List V} (h : FzL O H p vs) : FzL O' H' p vs := ⟨g.1 _ _ h.1, fun q => (g.2 p q).elim h.2 (rd_some (.inl h.1))⟩
theorem scl_mono (g : Gr O H O' H') {p : Addr} {vs : List V} (h : ScL K H p vs) : ScL K H' p vs := h.elim (fun ⟨o, z⟩ => .inl ⟨o, g.1 _ _ z⟩) .inr
mutual
theorem den_mono (g : Gr O H O' H') : ∀ (d : D) (v : V), Den K O H d v → Den K O' H' d v
  | .non, v, h => h
  | .bl b, v, h => h
  | .int i, v, h => h
  | .str s, v, h => h
  | .tup ds, v, h => by
    obtain ⟨p, vs, e, s, r⟩ := h
    exact ⟨p, vs, e, sqt_mono g s, dens_mono g ds vs r⟩
  | .lst ds, v, h => by
    obtain ⟨p, vs, e, s, r⟩ := h
    exact ⟨p, vs, e, fzl_mono g s, dens_mono g ds vs r⟩
  | .dct ks vs, v, h => h.elim
  | .exc n a, v, h => h.elim
  | .scr ds, v, h => by
    obtain ⟨p, vs, e, s, r⟩ := h
    exact ⟨p, vs, e, scl_mono g s, dens_mono g ds vs r⟩
theorem dens_mono (g : Gr O H O' H') : ∀ (ds : List D) (vs : List V), Dens K O H ds vs → Dens K O' H' ds vs
  | [], vs, h => h
  | d :: ds, vs, h => by
    obtain ⟨v, r, e, a, b⟩ := h
    exact ⟨v, r, e, den_mono g d v a, dens_mono g ds r b⟩
end
end

/-! ### modes: how a value stands to what is one's own -/
inductive Md where
  | fz | own | deep | bo | bw
  deriving DecidableEq
mutual
/-- v reads as d, each list of it one's own (in A), each once -/
def Dp (K : PySem.W.Frag) (H : Hp) : D → V → Own → Prop
  | .non, v, _ => v = .non
  | .bl b, v, _ => v = .bl b
  | .int i, v, _ => v = .int i
  | .str s, v, _ => v = .str s
  | .tup ds, v, A => ∃ p vs, v = .ref p ∧ SqT K H p vs ∧ Dps K H ds vs A
  | .lst ds, v, A => ∃ p vs A1, v = .ref p ∧ H p = some (.lst vs) ∧ A p ∧ ¬ A1 p ∧ (∀ a, A1 a → A a) ∧ Dps K H ds vs A1
  | .dct ks vs, v, _ => False
  | .exc n a, v, _ => False
  | .scr ds, v, _ => False
def Dps (K : PySem.W.Frag) (H : Hp) : List D → List V → Own → Prop
  | [], vs, _ => vs = []
  | d :: ds, vs, A => ∃ v r A1 A2, vs = v :: r ∧ (∀ a, A1 a → A2 a → False) ∧ (∀ a, A1 a → A a) ∧ (∀ a, A2 a → A a) ∧ Dp K H d v A1 ∧ Dps K H ds r A2
end
abbrev O0 : Own := fun _ => False
def VOK (K : PySem.W.Frag) (md : Md) (O : Own) (H : Hp) (A : Own) (d : D) (v : V) : Prop := match md with
  | .fz => Den K O H d v
  | .bw => Den K O0 H d v
  | .own => match d with
    | .lst ds => ∃ p vs, v = .ref p ∧ H p = some (.lst vs) ∧ A p ∧ Dens K O H ds vs
    | d => Den K O H d v
  | .bo => match d with
    | .lst ds => ∃ p vs, v = .ref p ∧ H p = some (.lst vs) ∧ Dens K O H ds vs
    | d => Den K O H d v
  | .deep => Dp K H d v A
def VOKs (K : PySem.W.Frag) (md : Md) (O : Own) (H : Hp) (A : Own) (ds : List D) (vs : List V) : Prop := match md with
  | .fz => Dens K O H ds vs
  | .bw => Dens K O0 H ds vs
  | .deep => Dps K H ds vs A
  | _ => False
section
variable {K : PySem.W.Frag} {O O' A A' : Own} {H H' : Hp} {d : D} {v : V} {ds : List D} {vs : List V}
theorem den_less (h : Den K O H d v) (s : ∀ a, O' a → O a) : Den K O' H d v := den_mono ⟨fun _ _ z => z, fun a z => .inl (s a z)⟩ d v h
theorem dens_less (h : Dens K O H ds vs) (s : ∀ a, O' a → O a) : Dens K O' H ds vs := dens_mono ⟨fun _ _ z => z, fun a z => .inl (s a z)⟩ ds vs h
mutual
theorem dp_mono (g : ∀ a o, H a = some o → H' a = some o) : ∀ (d : D) (v : V) (A : Own), Dp K H d v A → Dp K H' d v A
  | .non, v, _, h => h
  | .bl b, v, _, h => h
  | .int i, v, _, h => h
  | .str s, v, _, h => h
  | .tup ds, v, A, h => by
    obtain ⟨p, vs, e, s, r⟩ := h
    exact ⟨p, vs, e, sqt_mono (O := O0) (O' := O0) ⟨g, fun _ z => .inl z⟩ s, dps_mono g ds vs A r⟩
  | .lst ds, v, A, h => by
    obtain ⟨p, vs, A1, e, s, a, n, l, r⟩ := h
    exact ⟨p, vs, A1, e, g _ _ s, a, n, l, dps_mono g ds vs A1 r⟩
  | .dct ks vs, v, _, h => h.elim
  | .exc n a, v, _, h => h.elim
  | .scr ds, v, _, h => h.elim
theorem dps_mono (g : ∀ a o, H a = some o → H' a = some o) : ∀ (ds : List D) (vs : List V) (A : Own), Dps K H ds vs A → Dps K H' ds vs A
  | [], vs, _, h => h
  | d :: ds, vs, A, h => by
    obtain ⟨v, r, A1, A2, e, x, l1, l2, a, b⟩ := h
    exact ⟨v, r, A1, A2, e, x, l1, l2, dp_mono g d v A1 a, dps_mono g ds r A2 b⟩
end
mutual
theorem dp_over : ∀ (d : D) (v : V) (A A' : Own), (∀ a, A a → A' a) → Dp K H d v A → Dp K H d v A'
  | .non, v, _, _, _, h => h
  | .bl b, v, _, _, _, h => h
  | .int i, v, _, _, _, h => h
  | .str s, v, _, _, _, h => h
  | .tup ds, v, A, A', s, h => by
    obtain ⟨p, vs, e, t, r⟩ := h
    exact ⟨p, vs, e, t, dps_over ds vs A A' s r⟩
  | .lst ds, v, A, A', s, h => by
    obtain ⟨p, vs, A1, e, t, a, n, l, r⟩ := h
    exact ⟨p, vs, A1, e, t, s _ a, n, fun x z => s x (l x z), r⟩
  | .dct ks vs, v, _, _, _, h => h.elim
  | .exc n a, v, _, _, _, h => h.elim
  | .scr ds, v, _, _, _, h => h.elim
theorem dps_over : ∀ (ds : List D) (vs : List V) (A A' : Own), (∀ a, A a → A' a) → Dps K H ds vs A → Dps K H ds vs A'
  | [], vs, _, _, _, h => h
  | d :: ds, vs, A, A', s, h => by
    obtain ⟨v, r, A1, A2, e, x, l1, l2, a, b⟩ := h
    exact ⟨v, r, A1, A2, e, x, fun z w => s z (l1 z w), fun z w => s z (l2 z w), a, b⟩
end
abbrev Own.minus (O A : Own) : Own := fun a => O a ∧ ¬ A a
abbrev Own.or (O A : Own) : Own := fun a => O a ∨ A a
mutual
theorem dp_den : ∀ (d : D) (v : V) (A : Own), Dp K H d v A → Den K (Own.minus O A) H d v
  | .non, v, _, h => h
  | .bl b, v, _, h => h
  | .int i, v, _, h => h
  | .str s, v, _, h => h
  | .tup ds, v, A, h => by
    obtain ⟨p, vs, e, s, r⟩ := h
    exact ⟨p, vs, e, s, dps_dens ds vs A r⟩
  | .lst ds, v, A, h => by
    obtain ⟨p, vs, A1, e, s, a, n, l, r⟩ := h
    exact ⟨p, vs, e, ⟨s, fun z => z.2 a⟩, dens_less (dps_dens ds vs A1 r) fun x z => ⟨z.1, fun w => z.2 (l x w)⟩⟩
  | .dct ks vs, v, _, h => h.elim
  | .exc n a, v, _, h => h.elim
  | .scr ds, v, _, h => h.elim
theorem dps_dens : ∀ (ds : List D) (vs : List V) (A : Own), Dps K H ds vs A → Dens K (Own.minus O A) H ds vs
  | [], vs, _, h => h
  | d :: ds, vs, A, h => by
    obtain ⟨v, r, A1, A2, e, x, l1, l2, a, b⟩ := h
    exact ⟨v, r, e, den_less (dp_den d v A1 a) fun x z => ⟨z.1, fun w => z.2 (l1 x w)⟩, dens_less (dps_dens ds r A2 b) fun x z => ⟨z.1, fun w => z.2 (l2 x w)⟩⟩
end
theorem VOK.mono {md : Md} (g : Gr O H O' H') (h : VOK K md O H A d v) : VOK K md O' H' A d v := by
  cases md with
  | fz => exact den_mono g d v h
  | bw => exact den_mono ⟨g.1, fun _ z => z.elim⟩ d v h
  | deep => exact dp_mono g.1 d v A h
  | own =>
    cases d with
    | lst ds =>
      obtain ⟨p, vs, e, a, b, c⟩ := h
      exact ⟨p, vs, e, g.1 _ _ a, b, dens_mono g ds vs c⟩
    | _ => exact den_mono g _ v h
  | bo =>
    cases d with
    | lst ds =>
      obtain ⟨p, vs, e, a, c⟩ := h
      exact ⟨p, vs, e, g.1 _ _ a, dens_mono g ds vs c⟩
    | _ => exact den_mono g _ v h
theorem VOKs.mono {md : Md} (g : Gr O H O' H') (h : VOKs K md O H A ds vs) : VOKs K md O' H' A ds vs := by
  cases md with
  | fz => exact dens_mono g ds vs h
  | bw => exact dens_mono ⟨g.1, fun _ z => z.elim⟩ ds vs h
  | deep => exact dps_mono g.1 ds vs A h
  | own => exact h
  | bo => exact h
/-- what is one's own grows; the value's own set may be told greater -/
theorem VOK.over {md : Md} (h : VOK K md O H A d v) (s : ∀ a, A a → A' a) : VOK K md O H A' d v := by
  cases md with
  | fz => exact h
  | bw => exact h
  | deep => exact dp_over d v A A' s h
  | own =>
    cases d with
    | lst ds =>
      obtain ⟨p, vs, e, a, b, c⟩ := h
      exact ⟨p, vs, e, a, s _ b, c⟩
    | _ => exact h
  | bo => exact h
/-- all modes can be read -/
theorem VOK.bw {md : Md} (h : VOK K md O H A d v) : VOK K .bw O H A d v := by
  cases md with
  | fz => exact den_less (O := O) h fun _ z => z.elim
  | bw => exact h
  | deep => exact den_less (dp_den (O := O0) d v A h) fun _ z => z.elim
  | own =>
    cases d with
    | lst ds =>
      obtain ⟨p, vs, e, a, b, c⟩ := h
      exact ⟨p, vs, e, ⟨a, fun z => z⟩, dens_less c fun _ z => z.elim⟩
    | _ => exact den_less (O := O) h fun _ z => z.elim
  | bo =>
    cases d with
    | lst ds =>
      obtain ⟨p, vs, e, a, c⟩ := h
      exact ⟨p, vs, e, ⟨a, fun z => z⟩, dens_less c fun _ z => z.elim⟩
    | _ => exact den_less (O := O) h fun _ z => z.elim
theorem VOK.bo_fz (h : VOK K .fz O H A d v) : VOK K .bo O H A d v := by
  cases d with
  | lst ds =>
    obtain ⟨p, vs, e, a, c⟩ := h
    exact ⟨p, vs, e, a.1, c⟩
  | _ => exact h
theorem VOK.bo_own (h : VOK K .own O H A d v) : VOK K .bo O H A d v := by
  cases d with
  | lst ds =>
    obtain ⟨p, vs, e, a, b, c⟩ := h
    exact ⟨p, vs, e, a, c⟩
  | _ => exact h
/-- freezing: what was one's own is given up -/
theorem VOK.fz_own (h : VOK K .own O H A d v) : VOK K .fz (Own.minus O A) H A' d v := by
  cases d with
  | lst ds =>
    obtain ⟨p, vs, e, a, b, c⟩ := h
    exact ⟨p, vs, e, ⟨a, fun z => z.2 b⟩, dens_less c fun _ z => z.1⟩
  | _ => exact den_less h fun _ z => z.1
theorem VOK.fz_deep (h : VOK K .deep O H A d v) : VOK K .fz (Own.minus O A) H A' d v := dp_den d v A h
end

/-! ### the frame: slots, by modes -/
abbrev Ms := List (Option Md)
structure Fr (K : PySem.W.Frag) (ms : Ms) (τ : Ts) (O : Own) (H : Hp) (σ : L2.St) (C : Own) : Prop where
  lm : ms.length = τ.length
  ls : σ.length = τ.length
  dom : ∀ a, O a → H a ≠ none
  sub : ∀ a, C a → O a
  slots : ∃ A : Nat → Own, (∀ i j a, A i a → A j a → i = j) ∧ (∀ i a, A i a → O a ∧ ¬ C a) ∧
    ∀ (i : Nat) md, ms[i]? = some (some md) → ∃ d v, τ[i]? = some d ∧ σ[i]? = some (some v) ∧ VOK K md O H (A i) d v
section
variable {K : PySem.W.Frag} {ms ms' : Ms} {τ τ' : Ts} {O O' A A' C C' : Own} {H H' : Hp} {σ σ' : L2.St} {d : D} {v : V}
/-- new objects, one's own -/
structure Nw (H H' : Hp) (A : Own) : Prop where
  ex : ∀ a o, H a = some o → H' a = some o
  new : ∀ a, A a → H a = none ∧ H' a ≠ none
theorem Nw.gr (n : Nw H H' A) : Gr O H (Own.or O A) H' := ⟨n.ex, fun a z => z.elim .inl fun q => .inr (n.new a q).1⟩
theorem Nw.none : Nw H H O0 := ⟨fun _ _ z => z, fun _ z => z.elim⟩
theorem Nw.upd {p : Addr} {o : HO} (h : H p = .none) : Nw H (upd H p o) (fun a => a = p) :=
  ⟨fun a u e => by
    rw [upd_ne (ne_of_none e h)]
    exact e, fun a e => by
    subst e
    exact ⟨h, by
      rw [upd_same]
      exact fun z => nomatch z⟩⟩
theorem Nw.upd0 {p : Addr} {o : HO} (h : H p = .none) : Nw H (L2.upd H p o) O0 := ⟨(Nw.upd h).ex, fun _ z => z.elim⟩
theorem ex_dom (g : ∀ a o, H a = some o → H' a = some o) {a : Addr} (h : H a ≠ .none) : H' a ≠ .none := by
  cases q : H a with
  | none => exact absurd q h
  | some o =>
    rw [g a o q]
    exact fun z => nomatch z
theorem Fr.ctx (f : Fr K ms τ O H σ C) (s : ∀ a, C' a → C a) : Fr K ms τ O H σ C' := by
  obtain ⟨A, a1, a2, a3⟩ := f.slots
  exact ⟨f.lm, f.ls, f.dom, fun a z => f.sub a (s a z), A, a1, fun i a z => ⟨(a2 i a z).1, fun q => (a2 i a z).2 (s a q)⟩, a3⟩
theorem Fr.grow (f : Fr K ms τ O H σ C) (n : Nw H H' A) : Fr K ms τ (Own.or O A) H' σ (Own.or C A) := by
  obtain ⟨B, a1, a2, a3⟩ := f.slots
  refine ⟨f.lm, f.ls, fun a z => z.elim (fun q => ex_dom n.ex (f.dom a q)) fun q => (n.new a q).2, fun a z => z.elim (fun q => .inl (f.sub a q)) .inr, B, a1, fun i a z => ⟨.inl (a2 i a z).1, fun q => q.elim (a2 i a z).2 fun r => f.dom a (a2 i a z).1 (n.new a r).1⟩, fun i md e => ?_⟩
  obtain ⟨d, v, e1, e2, h⟩ := a3 i md e
  exact ⟨d, v, e1, e2, h.mono n.gr⟩
/-- what A holds is given up -/
theorem Fr.less (f : Fr K ms τ O H σ (Own.or C A)) (x : ∀ a, A a → ¬ C a) : Fr K ms τ (Own.minus O A) H σ C := by
  obtain ⟨B, a1, a2, a3⟩ := f.slots
  refine ⟨f.lm, f.ls, fun a z => f.dom a z.1, fun a z => ⟨f.sub a (.inl z), fun q => x a q z⟩, B, a1, fun i a z => ⟨⟨(a2 i a z).1, fun q => (a2 i a z).2 (.inr q)⟩, fun q => (a2 i a z).2 (.inl q)⟩, fun i md e => ?_⟩
  obtain ⟨d, v, e1, e2, h⟩ := a3 i md e
  exact ⟨d, v, e1, e2, h.mono ⟨fun _ _ z => z, fun a z => .inl z.1⟩⟩
/-- weaker modes -/
def leMs : Ms → Ms → Bool
  | [], [] => true
  | _ :: r, none :: s => leMs r s
  | some a :: r, some b :: s => decide (a = b) && leMs r s
  | _, _ => false
theorem leMs_len : ∀ {a b : Ms}, leMs a b = true → a.length = b.length
  | [], [], _ => rfl
  | x :: r, none :: s, h => by
    have := leMs_len (a := r) (b := s) (by cases x <;> exact h)
    simp [this]
  | some a :: r, some b :: s, h => by
    have := leMs_len (a := r) (b := s) ((Bool.and_eq_true _ _).mp h).2
    simp [this]
theorem leMs_get : ∀ {a b : Ms} {i : Nat} {md : Md}, leMs a b = true → b[i]? = some (some md) → a[i]? = some (some md)
  | [], [], _, _, _, e => by simp at e
  | x :: r, none :: s, 0, _, _, e => by simp at e
  | x :: r, none :: s, i + 1, md, h, e => by
    have := leMs_get (a := r) (b := s) (i := i) (md := md) (by cases x <;> exact h) (by simpa using e)
    simpa using this
  | some a :: r, some b :: s, 0, md, h, e => by
    have q : a = b := of_decide_eq_true ((Bool.and_eq_true _ _).mp h).1
    simp at e
    simp [q, e]
  | some a :: r, some b :: s, i + 1, md, h, e => by
    have := leMs_get (a := r) (b := s) (i := i) (md := md) ((Bool.and_eq_true _ _).mp h).2 (by simpa using e)
    simpa using this
theorem Fr.weak (f : Fr K ms τ O H σ C) (h : leMs ms ms' = true) : Fr K ms' τ O H σ C := by
  obtain ⟨A, a1, a2, a3⟩ := f.slots
  exact ⟨(leMs_len h).symm.trans f.lm, f.ls, f.dom, f.sub, A, a1, a2, fun i md e => a3 i md (leMs_get h e)⟩
end

/-! ### judgements over readings -/
/-- K; the classes of errors; what is wanted of an error, and the modes then -/
structure Px where
  K : PySem.W.Frag
  cl : String → Option Value
  W : WX
  mx : Ms
def XOK (K : PySem.W.Frag) (cl : String → Option Value) (H : Hp) (x : Exn) (cls : Value) (dd : Option Addr) : Prop :=
  cl x.name = some cls ∧ match x.arg with
  | [] => dd = none
  | [d] => ∃ dx v, dd = some dx ∧ H dx = some (.xd [(("places" : Str), v)]) ∧ Den K O0 H d v
  | _ => False
def WOK (P : Px) (τ : Ts) (O : Own) (H : Hp) (C : Own) (σ : L2.St) (x : Exn) : Prop :=
  ∀ O' H' cls dd, Gr O H O' H' → Fr P.K P.mx τ O' H' σ C → XOK P.K P.cl H' x cls dd → P.W cls dd σ H'
def SE (P : Px) (ms ms' : Ms) (md : Md) (m : ME) (t : TE) : Prop := ∀ τ O H σ C (Q : VK), Fr P.K ms τ O H σ C → m τ ≠ .no →
  (∀ d O' H' A v, m τ = .ok d → Gr O H O' H' → Fr P.K ms' τ O' H' σ (Own.or C A) → (∀ a, A a → ¬ C a) → VOK P.K md O' H' A d v → Q v H') →
  (∀ x, m τ = .ex x → WOK P τ O H C σ x) → t σ H Q
def ST (P : Px) (ms ms' : Ms) (m : MT) (t : TT) : Prop := ∀ τ O H σ C (Q : Bool → Hp → Prop), Fr P.K ms τ O H σ C → m τ ≠ .no →
  (∀ b O' H', m τ = .ok b → Gr O H O' H' → Fr P.K ms' τ O' H' σ C → Q b H') →
  (∀ x, m τ = .ex x → WOK P τ O H C σ x) → t σ H Q
def SA (P : Px) (ms ms' : Ms) (md : Md) (m : MA) (t : TA) : Prop := ∀ τ O H σ C (Q : List V → Hp → Prop), Fr P.K ms τ O H σ C → m τ ≠ .no →
  (∀ ds O' H' A vs, m τ = .ok ds → Gr O H O' H' → Fr P.K ms' τ O' H' σ (Own.or C A) → (∀ a, A a → ¬ C a) → VOKs P.K md O' H' A ds vs → Q vs H') →
  (∀ x, m τ = .ex x → WOK P τ O H C σ x) → t σ H Q
abbrev MG := D → Ts → Rs Ts
def SG (P : Px) (ms ms' : Ms) (md : Md) (m : MG) (g : TG) : Prop := ∀ d v τ O H σ C A (Q : L2.St → Hp → Prop), Fr P.K ms τ O H σ (Own.or C A) → (∀ a, A a → ¬ C a) → VOK P.K md O H A d v → (∃ τ', m d τ = .ok τ') →
  (∀ τ' σ', m d τ = .ok τ' → Fr P.K ms' τ' O H σ' C → Q σ' H) → g v σ H Q
/-- a statement may change what is one's own, but not what C holds; tuples and what is locked stay -/
structure GrS (C O : Own) (H : Hp) (O' : Own) (H' : Hp) : Prop where
  keep : ∀ a o, H a = some o → (¬ O a ∨ C a) → H' a = some o
  tups : ∀ a xs, H a = some (.tup xs) → H' a = some (.tup xs)
  frzs : ∀ a o u, H a = some (.frz o u) → H' a = some (.frz o u)
  sub : ∀ a, O' a → O a ∨ H a = none
theorem Gr.s {C O O' : Own} {H H' : Hp} (g : Gr O H O' H') : GrS C O H O' H' := ⟨fun a o h _ => g.1 a o h, fun a o h => g.1 a _ h, fun a o u h => g.1 a _ h, g.2⟩
theorem GrS.refl {C O : Own} {H : Hp} : GrS C O H O H := Gr.refl.s
theorem GrS.trans {C O O1 O2 : Own} {H H1 H2 : Hp} (a : GrS C O H O1 H1) (b : GrS C O1 H1 O2 H2) : GrS C O H O2 H2 := by
  refine ⟨fun x o h c => b.keep x o (a.keep x o h c) ?_, fun x xs h => b.tups x xs (a.tups x xs h), fun x o u h => b.frzs x o u (a.frzs x o u h), fun x h => ?_⟩
  · rcases c with c | c
    · refine .inl fun z => ?_
      rcases a.sub x z with q | q
      · exact c q
      · rw [h] at q
        cases q
    · exact .inr c
  · rcases b.sub x h with z | z
    · exact a.sub x z
    · by_cases q : O x
      · exact .inl q
      · refine .inr ?_
        cases w : H x with
        | none => rfl
        | some o =>
          rw [a.keep x o w (.inl q)] at z
          cases z
section
variable {K : PySem.W.Frag} {C O O' : Own} {H H' : Hp}
theorem rdt_monoS (g : GrS C O H O' H') {p : Addr} {xs : List V} (h : Rd H p (.tup xs)) : Rd H' p (.tup xs) := h.elim (fun z => .inl (g.tups _ _ z)) fun ⟨o, z⟩ => .inr ⟨o, g.frzs _ _ _ z⟩
theorem sqt_monoS (g : GrS C O H O' H') {p : Addr} {vs : List V} (h : SqT K H p vs) : SqT K H' p vs := h.elim (fun z => .inl (rdt_monoS g z)) .inr
theorem fzl_monoS (g : GrS C O H O' H') {p : Addr} {vs : List V} (h : FzL O H p vs) : FzL O' H' p vs := ⟨g.keep _ _ h.1 (.inl h.2), fun q => (g.sub p q).elim h.2 (rd_some (.inl h.1))⟩
theorem scl_monoS (g : GrS C O H O' H') {p : Addr} {vs : List V} (h : ScL K H p vs) : ScL K H' p vs := h.elim (fun ⟨o, z⟩ => .inl ⟨o, g.frzs _ _ _ z⟩) .inr
mutual
theorem den_monoS (g : GrS C O H O' H') : ∀ (d : D) (v : V), Den K O H d v → Den K O' H' d v
  | .non, v, h => h
  | .bl b, v, h => h
  | .int i, v, h => h
  | .str s, v, h => h
  | .tup ds, v, h => by
    obtain ⟨p, vs, e, s, r⟩ := h
    exact ⟨p, vs, e, sqt_monoS g s, dens_monoS g ds vs r⟩
  | .lst ds, v, h => by
    obtain ⟨p, vs, e, s, r⟩ := h
    exact ⟨p, vs, e, fzl_monoS g s, dens_monoS g ds vs r⟩
  | .dct ks vs, v, h => h.elim
  | .exc n a, v, h => h.elim
  | .scr ds, v, h => by
    obtain ⟨p, vs, e, s, r⟩ := h
    exact ⟨p, vs, e, scl_monoS g s, dens_monoS g ds vs r⟩
theorem dens_monoS (g : GrS C O H O' H') : ∀ (ds : List D) (vs : List V), Dens K O H ds vs → Dens K O' H' ds vs
  | [], vs, h => h
  | d :: ds, vs, h => by
    obtain ⟨v, r, e, a, b⟩ := h
    exact ⟨v, r, e, den_monoS g d v a, dens_monoS g ds r b⟩
end
end
def WOS (P : Px) (τ : Ts) (O : Own) (H : Hp) (C : Own) (x : Exn) : Prop :=
  ∀ O' H' σ' cls dd, GrS C O H O' H' → Fr P.K P.mx τ O' H' σ' C → XOK P.K P.cl H' x cls dd → P.W cls dd σ' H'
def SS (P : Px) (ms ms' : Ms) (mr : Md) (m : MS) (t : TS) : Prop := ∀ τ O H σ C (D : Ends), Fr P.K ms τ O H σ C → m τ ≠ .no →
  (∀ τ' O' H' σ', m τ = .nx τ' → GrS C O H O' H' → Fr P.K ms' τ' O' H' σ' C → D.nx σ' H') →
  (∀ d O' H' A v, m τ = .rt d → GrS C O H O' H' → (∀ a, O' a → H' a ≠ none) → (∀ a, C a → O' a) → (∀ a, A a → O' a ∧ ¬ C a) → VOK P.K mr O' H' A d v → D.rt v H') →
  (∀ x τ', m τ = .ex x τ' → WOS P τ' O H C x) → t D σ H

/-! ### the meaning of the parts -/
def vr (i : Nat) : ME := fun τ => match τ[i]? with | some d => .ok d | none => .no
def kc (d : D) : ME := fun _ => .ok d
def o1 (f : D → Rs D) (a : ME) : ME := fun τ => (a τ).bind f
def o2 (f : D → D → Rs D) (a b : ME) : ME := fun τ => (a τ).bind fun x => (b τ).bind fun y => f x y
def an : MA := fun _ => .ok []
def ac (a : ME) (r : MA) : MA := fun τ => (a τ).bind fun x => (r τ).bind fun xs => .ok (x :: xs)
def cll (F : List D → Rs D) (a : MA) : ME := fun τ => (a τ).bind F
def tp (a : MA) : ME := fun τ => (a τ).bind fun l => if l.length ≤ 1000 then .ok (.tup l) else .no
def ls (a : MA) : ME := fun τ => (a τ).bind fun l => if l.length ≤ 1000 then .ok (.lst l) else .no
def asB : D → Rs Bool
  | .bl b => .ok b
  | _ => .no
def tb (a : ME) : MT := fun τ => (a τ).bind asB
def tand (a b : MT) : MT := fun τ => (a τ).bind fun x => if x = true then b τ else .ok false
def tor (a b : MT) : MT := fun τ => (a τ).bind fun x => if x = true then .ok true else b τ
def tnot (a : MT) : MT := fun τ => (a τ).bind fun x => .ok (!x)
def vand (a b : ME) : ME := fun τ => (a τ).bind fun x => match x with
  | .bl true => b τ
  | .bl false => .ok (.bl false)
  | _ => .no
def vor (a b : ME) : ME := fun τ => (a τ).bind fun x => match x with
  | .bl true => .ok (.bl true)
  | .bl false => b τ
  | _ => .no
def vnot (a : ME) : ME := fun τ => (a τ).bind fun x => match x with
  | .bl c => .ok (.bl (!c))
  | _ => .no
def ife (t : MT) (a b : ME) : ME := fun τ => (t τ).bind fun c => if c = true then a τ else b τ
def gn (i : Nat) : MG := fun d τ => .ok (τ.set i d)
def gts : List MG → List D → Ts → Rs Ts
  | [], [], τ => .ok τ
  | g :: gs, d :: ds, τ => (g d τ).bind fun τ' => gts gs ds τ'
  | _, _, _ => .no
def gt (gs : List MG) : MG := fun d τ => match d with
  | .tup ds => gts gs ds τ
  | _ => .no
def skip : MS := fun τ => .nx τ
def seq (a b : MS) : MS := fun τ => match a τ with
  | .nx τ' => b τ'
  | o => o
def asg (a : ME) (g : MG) : MS := fun τ => match a τ with
  | .ok d => (match g d τ with
    | .ok τ' => .nx τ'
    | _ => .no)
  | .ex x => .ex x τ
  | .no => .no
def par (i j : Nat) (a b : ME) : MS := fun τ => match (a τ).bind fun x => (b τ).bind fun y => .ok (x, y) with
  | .ok p => .nx ((τ.set i p.1).set j p.2)
  | .ex x => .ex x τ
  | .no => .no
def sif (t : MT) (a b : MS) : MS := fun τ => match t τ with
  | .ok c => if c = true then a τ else b τ
  | .ex x => .ex x τ
  | .no => .no
def ret (a : ME) : MS := fun τ => match a τ with
  | .ok d => .rt d
  | .ex x => .ex x τ
  | .no => .no
def drp (a : ME) : MS := fun τ => match a τ with
  | .ok d => .nx τ
  | .ex x => .ex x τ
  | .no => .no
def rse (x : Exn) : MS := fun τ => .ex x τ
def wh (c : MT) (b : MS) : Nat → MS
  | 0, _ => .no
  | n + 1, τ => match c τ with
    | .no => .no
    | .ex x => .ex x τ
    | .ok false => .nx τ
    | .ok true => (match b τ with
      | .nx τ' => wh c b n τ'
      | o => o)
open Classical in
noncomputable def whl (c : MT) (b : MS) : MS := fun τ => if h : ∃ n, wh c b n τ ≠ .no then wh c b (Classical.choose h) τ else .no
theorem wh_up {c : MT} {b : MS} : ∀ {n : Nat} {τ : Ts} {m : Nat}, wh c b n τ ≠ .no → n ≤ m → wh c b m τ = wh c b n τ
  | 0, _, _, h, _ => (h rfl).elim
  | n + 1, τ, 0, _, l => by omega
  | n + 1, τ, m + 1, h, l => by
    unfold wh at h ⊢
    cases hc : c τ with
    | no => rfl
    | ex x => rfl
    | ok k =>
      rw [hc] at h
      cases k with
      | false => rfl
      | true =>
        dsimp only at h ⊢
        cases hb : b τ with
        | nx τ' =>
          rw [hb] at h
          dsimp only at h ⊢
          exact wh_up h (Nat.le_of_succ_le_succ l)
        | _ => rfl
theorem whl_of {c : MT} {b : MS} {n : Nat} {τ : Ts} (h : wh c b n τ ≠ .no) : whl c b τ = wh c b n τ := by
  have e : ∃ n, wh c b n τ ≠ .no := ⟨n, h⟩
  unfold whl
  rw [dif_pos e]
  have h2 := Classical.choose_spec e
  rcases Nat.le_total n (Classical.choose e) with l | l
  · exact wh_up h l
  · exact (wh_up h2 l).symm
theorem whl_ex {c : MT} {b : MS} {τ : Ts} (h : whl c b τ ≠ .no) : ∃ n, wh c b n τ = whl c b τ := by
  unfold whl at h ⊢
  by_cases e : ∃ n, wh c b n τ ≠ .no
  · rw [dif_pos e]
    exact ⟨_, rfl⟩
  · rw [dif_neg e] at h
    exact (h rfl).elim
def fl (g : MG) (b : MS) : List D → MS
  | [], τ => .nx τ
  | d :: r, τ => match g d τ with
    | .ok τ1 => (match b τ1 with
      | .nx τ2 => fl g b r τ2
      | o => o)
    | _ => .no
/-- a for over the data that i tells -/
def fr (i : MA) (g : MG) (b : MS) : MS := fun τ => match i τ with
  | .ok l => fl g b l τ
  | .ex x => .ex x τ
  | .no => .no
/-- a def of n parameters, N names in all -/
def df (n N : Nat) (b : MS) : List D → Rs D := fun ds => if ds.length = n then (match b (ds ++ List.replicate (N - n) .non) with
  | .rt d => .ok d
  | .nx _ => .ok .non
  | .ex x _ => .ex x
  | .no => .no) else .no
theorem Rs.bind_ne {α β : Type} {a : Rs α} {f : α → Rs β} (h : a.bind f ≠ .no) : a ≠ .no := fun z => h (by rw [z]; rfl)
theorem Rs.bind_ok {α β : Type} {a : Rs α} {f : α → Rs β} {x : α} (h : a = .ok x) : a.bind f = f x := by rw [h]; rfl
theorem Rs.bind_ex {α β : Type} {a : Rs α} {f : α → Rs β} {x : Exn} (h : a = .ex x) : a.bind f = .ex x := by rw [h]; rfl

section
variable {P : Px} {ms ms1 ms2 ms3 : Ms} {md ma mb mr : Md} {a b : ME} {ta tb' : TE}
theorem WOK.up {τ : Ts} {O O1 : Own} {H H1 : Hp} {C C1 : Own} {σ : L2.St} {x : Exn} (w : WOK P τ O H C σ x) (g : Gr O H O1 H1) (s : ∀ a, C a → C1 a) : WOK P τ O1 H1 C1 σ x :=
  fun O' H' cls dd g' f x' => w O' H' cls dd (g.trans g') (f.ctx s) x'
theorem or_none {C : Own} : ∀ a, Own.or C O0 a → C a := fun a z => z.elim id fun q => q.elim
theorem se_const {d : D} {v : V} (h : ∀ K O H A, VOK K md O H A d v) : SE P ms ms md (kc d) (tC v) := fun τ O H σ C Q f _ k _ => k d O H O0 v rfl Gr.refl (f.ctx or_none) (fun _ z => z.elim) (h _ _ _ _)
/-- all modes for what holds no list -/
def Flat : D → Prop
  | .non => True | .bl _ => True | .int _ => True | .str _ => True
  | _ => False
theorem vok_flat {K : PySem.W.Frag} {O : Own} {H : Hp} {A : Own} {d : D} {v : V} (fl : Flat d) (h : Den K O H d v) (md : Md) (O' : Own) (H' : Hp) (A' : Own) : VOK K md O' H' A' d v := by
  cases d with
  | non => cases md <;> exact h
  | bl b => cases md <;> exact h
  | int b => cases md <;> exact h
  | str b => cases md <;> exact h
  | _ => exact fl.elim
theorem Fr.get {K : PySem.W.Frag} {τ : Ts} {O C : Own} {H : Hp} {σ : L2.St} (f : Fr K ms τ O H σ C) {i : Nat} (e : ms[i]? = some (some md)) : ∃ d v A, τ[i]? = some d ∧ σ[i]? = some (some v) ∧ VOK K md O H A d v := by
  obtain ⟨A, _, _, a3⟩ := f.slots
  obtain ⟨d, v, e1, e2, h⟩ := a3 i md e
  exact ⟨d, v, A i, e1, e2, h⟩
/-- a name that holds what is frozen; one's own lent -/
theorem se_var {i : Nat} (e : ms[i]? = some (some md)) (w : md = .fz ∨ md = .bo ∨ md = .bw) : SE P ms ms md (vr i) (tVar i) := fun τ O H σ C Q f _ k _ => by
  obtain ⟨d, v, A, e1, e2, h⟩ := f.get e
  refine ⟨v, e2, k d O H O0 v (by unfold vr; rw [e1]) Gr.refl (f.ctx or_none) (fun _ z => z.elim) ?_⟩
  rcases w with rfl | rfl | rfl
  · exact h
  · exact h
  · exact h
theorem se_bw {i : Nat} (e : ms[i]? = some (some md)) : SE P ms ms .bw (vr i) (tVar i) := fun τ O H σ C Q f _ k _ => by
  obtain ⟨d, v, A, e1, e2, h⟩ := f.get e
  exact ⟨v, e2, k d O H O0 v (by unfold vr; rw [e1]) Gr.refl (f.ctx or_none) (fun _ z => z.elim) h.bw⟩
theorem se_bo {i : Nat} (e : ms[i]? = some (some .own)) : SE P ms ms .bo (vr i) (tVar i) := fun τ O H σ C Q f _ k _ => by
  obtain ⟨d, v, A, e1, e2, h⟩ := f.get e
  exact ⟨v, e2, k d O H O0 v (by unfold vr; rw [e1]) Gr.refl (f.ctx or_none) (fun _ z => z.elim) h.bo_own⟩
/-- one's own handed on: the name is dead behind -/
theorem se_mv {i : Nat} (e : ms[i]? = some (some md)) : SE P ms (ms.set i none) md (vr i) (tVar i) := fun τ O H σ C Q f _ k _ => by
  obtain ⟨A, a1, a2, a3⟩ := f.slots
  obtain ⟨d, v, e1, e2, h⟩ := a3 i md e
  refine ⟨v, e2, k d O H (A i) v (by unfold vr; rw [e1]) Gr.refl ?_ (fun a z => (a2 i a z).2) h⟩
  refine ⟨by rw [List.length_set]; exact f.lm, f.ls, f.dom, fun a z => z.elim (f.sub a) fun q => (a2 i a q).1, fun j a => j ≠ i ∧ A j a, fun j j' a z z' => a1 j j' a z.2 z'.2, fun j a z => ?_, fun j md' ej => ?_⟩
  · exact ⟨(a2 j a z.2).1, fun q => q.elim (a2 j a z.2).2 fun q => z.1 (a1 j i a z.2 q)⟩
  · by_cases h1 : j = i
    · subst h1
      rw [List.getElem?_set_self (List.getElem?_eq_some_iff.mp e).1] at ej
      cases ej
    · rw [List.getElem?_set_ne (Ne.symm h1)] at ej
      obtain ⟨d', v', e1', e2', h'⟩ := a3 j md' ej
      exact ⟨d', v', e1', e2', h'.over fun a z => ⟨h1, z⟩⟩
/-- giving up what is one's own -/
theorem se_give {t : TE} (h : SE P ms ms1 md a t) (z : md = .own ∨ md = .deep) : SE P ms ms1 .fz a t := fun τ O H σ C Q f n k w =>
  h τ O H σ C Q f n (fun d O' H' A v e g f' x q => by
    have g2 : Gr O H (Own.minus O' A) H' := ⟨g.1, fun a z => g.2 a z.1⟩
    have q2 : VOK P.K .fz (Own.minus O' A) H' O0 d v := by
      rcases z with rfl | rfl
      · exact q.fz_own
      · exact q.fz_deep
    have f2 : Fr P.K ms1 τ (Own.minus O' A) H' σ (Own.or C O0) := (f'.less x).ctx or_none
    exact k d _ H' O0 v e g2 f2 (fun _ z => z.elim) q2) w
theorem se_sub {t : TE} (h : SE P ms ms1 ma a t) (z : ∀ K O H A d v, VOK K ma O H A d v → VOK K mb O H A d v) : SE P ms ms1 mb a t := fun τ O H σ C Q f n k w =>
  h τ O H σ C Q f n (fun d O' H' A v e g f' x q => k d O' H' A v e g f' x (z _ _ _ _ _ _ q)) w
theorem se_tobw {t : TE} (h : SE P ms ms1 md a t) : SE P ms ms1 .bw a t := se_sub h fun _ _ _ _ _ _ q => q.bw
theorem se_fz_bo {t : TE} (h : SE P ms ms1 .fz a t) : SE P ms ms1 .bo a t := se_sub h fun _ _ _ _ _ _ q => q.bo_fz
theorem se_own_bo {t : TE} (h : SE P ms ms1 .own a t) : SE P ms ms1 .bo a t := se_sub h fun _ _ _ _ _ _ q => q.bo_own
/-- what a one-place, a two-place operation does to data -/
def F1 (K : PySem.W.Frag) (ma md : Md) (f : D → Rs D) (r : V → Hp → VK → Prop) : Prop := ∀ O H A x dx (Q : VK), (∀ a, O a → H a ≠ none) → VOK K ma O H A dx x →
  (∀ d H' B v, f dx = .ok d → Nw H H' B → VOK K md (Own.or O B) H' B d v → Q v H') → (∃ d, f dx = .ok d) → r x H Q
def F2 (K : PySem.W.Frag) (ma mb md : Md) (f : D → D → Rs D) (r : R2) : Prop := ∀ O H A B x y dx dy (Q : VK), (∀ a, O a → H a ≠ none) → VOK K ma O H A dx x → VOK K mb O H B dy y →
  (∀ d H' B v, f dx dy = .ok d → Nw H H' B → VOK K md (Own.or O B) H' B d v → Q v H') → (∃ d, f dx dy = .ok d) → r x y H Q
def Pure1 (f : D → Rs D) : Prop := ∀ x e, f x ≠ .ex e
def Pure2 (f : D → D → Rs D) : Prop := ∀ x y e, f x y ≠ .ex e
theorem ok_of {α : Type} {r : Rs α} (h : r ≠ .no) (h2 : ∀ e, r ≠ .ex e) : ∃ d, r = .ok d := by
  cases r with
  | no => exact (h rfl).elim
  | ex e => exact (h2 e rfl).elim
  | ok d => exact ⟨d, rfl⟩
theorem se_o1 {f : D → Rs D} {r : V → Hp → VK → Prop} (ha : SE P ms ms1 ma a ta) (hr : F1 P.K ma md f r) (hp : Pure1 f) : SE P ms ms1 md (o1 f a) (tUn r ta) := fun τ O H σ C Q F n k w => by
  refine ha τ O H σ C _ F (Rs.bind_ne n) (fun d O' H' A v e g f' x q => ?_) fun x e => w x (Rs.bind_ex e)
  have eb : o1 f a τ = f d := Rs.bind_ok e
  refine hr O' H' A v d Q f'.dom q (fun d2 H2 B v2 e2 n2 q2 => ?_) (ok_of (eb ▸ n) (hp d))
  exact k d2 _ H2 B v2 (eb.trans e2) (g.trans n2.gr) ((f'.ctx fun a z => .inl z).grow n2) (fun a z q => f'.dom a (f'.sub a (.inl q)) (n2.new a z).1) q2
theorem se_o2 {f : D → D → Rs D} {r : R2} (ha : SE P ms ms1 ma a ta) (hb : SE P ms1 ms2 mb b tb') (hr : F2 P.K ma mb md f r) (hp : Pure2 f) : SE P ms ms2 md (o2 f a b) (tOp r ta tb') := fun τ O H σ C Q F n k w => by
  refine ha τ O H σ C _ F (Rs.bind_ne n) (fun d O1 H1 A v e g f1 x q => ?_) fun x e => w x (Rs.bind_ex e)
  have eb : o2 f a b τ = (b τ).bind fun y => f d y := Rs.bind_ok e
  rw [eb] at n k w
  refine hb τ O1 H1 σ (Own.or C A) _ f1 (Rs.bind_ne n) (fun d' O2 H2 A' v' e' g' f2 x' q' => ?_) fun x e => (w x (Rs.bind_ex e)).up g fun a z => .inl z
  have eb' : ((b τ).bind fun y => f d y) = f d d' := Rs.bind_ok e'
  refine hr O2 H2 A A' v v' d d' Q f2.dom (q.mono g') q' (fun d2 H3 B v2 e2 n2 q2 => ?_) (ok_of (eb' ▸ n) (hp d d'))
  exact k d2 _ H3 B v2 (eb'.trans e2) ((g.trans g').trans n2.gr) ((f2.ctx fun a z => .inl (.inl z)).grow n2) (fun a z q => f2.dom a (f2.sub a (.inl (.inl q))) (n2.new a z).1) q2
end

section
variable {P : Px} {ms ms1 ms2 ms3 : Ms} {md ma mb mr : Md} {a b : ME} {ta tb' te : TE} {x y : MT} {tx ty : TT} {l : MA} {tl : TA}
/-! ### tests -/
theorem st_tb (h : SE P ms ms1 md a ta) : ST P ms ms1 (tb a) (tB ta) := fun τ O H σ C Q F n k w => by
  refine h τ O H σ C _ F (Rs.bind_ne n) (fun d O' H' A v e g f' x q => ?_) fun x e => w x (Rs.bind_ex e)
  have eb : tb a τ = asB d := Rs.bind_ok e
  have hb := q.bw
  cases d with
  | bl c => exact ⟨c, hb, k c O' H' eb g (f'.ctx fun a z => .inl z)⟩
  | _ => exact (n (eb.trans rfl)).elim
theorem st_test (h : SE P ms ms1 md a ta) : ST P ms ms1 (tb a) (tTest ta) := st_tb h
theorem st_and (h1 : ST P ms ms1 x tx) (h2 : ST P ms1 ms2 y ty) (l : leMs ms1 ms2 = true := by rfl) : ST P ms ms2 (tand x y) (tAnd tx ty) := fun τ O H σ C Q F n k w => by
  refine h1 τ O H σ C _ F (Rs.bind_ne n) (fun b O' H' e g f' => ?_) fun x e => w x (Rs.bind_ex e)
  have eb : tand x y τ = if b = true then y τ else .ok false := Rs.bind_ok e
  cases b with
  | true =>
    rw [eb] at n k w
    exact h2 τ O' H' σ C Q f' n (fun b O2 H2 e2 g2 f2 => k b O2 H2 e2 (g.trans g2) f2) fun x e => (w x e).up g fun _ z => z
  | false => exact k false O' H' eb g (f'.weak l)
theorem st_or (h1 : ST P ms ms1 x tx) (h2 : ST P ms1 ms2 y ty) (l : leMs ms1 ms2 = true := by rfl) : ST P ms ms2 (tor x y) (tOr tx ty) := fun τ O H σ C Q F n k w => by
  refine h1 τ O H σ C _ F (Rs.bind_ne n) (fun b O' H' e g f' => ?_) fun x e => w x (Rs.bind_ex e)
  have eb : tor x y τ = if b = true then .ok true else y τ := Rs.bind_ok e
  cases b with
  | true => exact k true O' H' eb g (f'.weak l)
  | false =>
    rw [eb] at n k w
    exact h2 τ O' H' σ C Q f' n (fun b O2 H2 e2 g2 f2 => k b O2 H2 e2 (g.trans g2) f2) fun x e => (w x e).up g fun _ z => z
theorem st_not (h1 : ST P ms ms1 x tx) : ST P ms ms1 (tnot x) (tNot tx) := fun τ O H σ C Q F n k w =>
  h1 τ O H σ C _ F (Rs.bind_ne n) (fun b O' H' e g f' => k (!b) O' H' (Rs.bind_ok e) g f') fun x e => w x (Rs.bind_ex e)
theorem vok_bl {K : PySem.W.Frag} {O : Own} {H : Hp} {A : Own} {c : Bool} : VOK K md O H A (.bl c) (.bl c) := by cases md <;> rfl
theorem vok_int {K : PySem.W.Frag} {O : Own} {H : Hp} {A : Own} {i : Int} : VOK K md O H A (.int i) (.int i) := by cases md <;> rfl
theorem vok_str {K : PySem.W.Frag} {O : Own} {H : Hp} {A : Own} {i : Str} : VOK K md O H A (.str i) (.str i) := by cases md <;> rfl
theorem vok_non {K : PySem.W.Frag} {O : Own} {H : Hp} {A : Own} : VOK K md O H A .non .non := by cases md <;> rfl
theorem se_vand (h1 : SE P ms ms1 ma a ta) (h2 : SE P ms1 ms2 md b tb') (l : leMs ms1 ms2 = true := by rfl) : SE P ms ms2 md (vand a b) (tAndV ta tb') := fun τ O H σ C Q F n k w => by
  refine h1 τ O H σ C _ F (Rs.bind_ne n) (fun d O' H' A v e g f' x q => ?_) fun x e => w x (Rs.bind_ex e)
  have hb := q.bw
  have f2 := f'.ctx (C' := C) fun a z => .inl z
  cases d with
  | bl c =>
    refine ⟨c, hb, ?_⟩
    cases c with
    | true =>
      have eb : vand a b τ = b τ := Rs.bind_ok e
      rw [eb] at n k w
      exact h2 τ O' H' σ C Q f2 n (fun d O2 H2 A v e2 g2 f2 => k d O2 H2 A v e2 (g.trans g2) f2) fun x e => (w x e).up g fun _ z => z
    | false => exact k (.bl false) O' H' O0 _ (Rs.bind_ok e) g ((f2.weak l).ctx or_none) (fun _ z => z.elim) vok_bl
  | _ => exact (n (Rs.bind_ok e)).elim
theorem se_vor (h1 : SE P ms ms1 ma a ta) (h2 : SE P ms1 ms2 md b tb') (l : leMs ms1 ms2 = true := by rfl) : SE P ms ms2 md (vor a b) (tOrV ta tb') := fun τ O H σ C Q F n k w => by
  refine h1 τ O H σ C _ F (Rs.bind_ne n) (fun d O' H' A v e g f' x q => ?_) fun x e => w x (Rs.bind_ex e)
  have hb := q.bw
  have f2 := f'.ctx (C' := C) fun a z => .inl z
  cases d with
  | bl c =>
    refine ⟨c, hb, ?_⟩
    cases c with
    | false =>
      have eb : vor a b τ = b τ := Rs.bind_ok e
      rw [eb] at n k w
      exact h2 τ O' H' σ C Q f2 n (fun d O2 H2 A v e2 g2 f2 => k d O2 H2 A v e2 (g.trans g2) f2) fun x e => (w x e).up g fun _ z => z
    | true => exact k (.bl true) O' H' O0 _ (Rs.bind_ok e) g ((f2.weak l).ctx or_none) (fun _ z => z.elim) vok_bl
  | _ => exact (n (Rs.bind_ok e)).elim
theorem se_vnot (h1 : SE P ms ms1 ma a ta) : SE P ms ms1 md (vnot a) (tNotV ta) := fun τ O H σ C Q F n k w => by
  refine h1 τ O H σ C _ F (Rs.bind_ne n) (fun d O' H' A v e g f' x q => ?_) fun x e => w x (Rs.bind_ex e)
  have hb := q.bw
  cases d with
  | bl c => exact ⟨c, hb, k (.bl (!c)) O' H' O0 _ (Rs.bind_ok e) g (f'.ctx fun a z => .inl (z.elim id fun q => q.elim)) (fun _ z => z.elim) vok_bl⟩
  | _ => exact (n (Rs.bind_ok e)).elim
theorem se_ife (h : ST P ms ms1 x tx) (h1 : SE P ms1 ms2 md a ta) (h2 : SE P ms1 ms2 md b tb') : SE P ms ms2 md (ife x a b) (tIf tx ta tb') := fun τ O H σ C Q F n k w => by
  refine h τ O H σ C _ F (Rs.bind_ne n) (fun c O' H' e g f' => ?_) fun x e => w x (Rs.bind_ex e)
  have eb : ife x a b τ = if c = true then a τ else b τ := Rs.bind_ok e
  rw [eb] at n k w
  cases c with
  | true => exact h1 τ O' H' σ C Q f' n (fun d O2 H2 A v e2 g2 f2 => k d O2 H2 A v e2 (g.trans g2) f2) fun x e => (w x e).up g fun _ z => z
  | false => exact h2 τ O' H' σ C Q f' n (fun d O2 H2 A v e2 g2 f2 => k d O2 H2 A v e2 (g.trans g2) f2) fun x e => (w x e).up g fun _ z => z
/-! ### arguments -/
def okMd : Md → Bool
  | .fz => true | .bw => true | .deep => true
  | _ => false
theorem sa_nil (h : okMd md = true := by rfl) : SA P ms ms md an tNil := fun τ O H σ C Q F n k w => k [] O H O0 [] rfl Gr.refl (F.ctx or_none) (fun _ z => z.elim) (by
  cases md with
  | fz => rfl
  | bw => rfl
  | deep => rfl
  | own => cases h
  | bo => cases h)
theorem voks_cons {K : PySem.W.Frag} {O : Own} {H : Hp} {A B : Own} {d : D} {v : V} {ds : List D} {vs : List V} (h : okMd md = true) (q : VOK K md O H A d v) (r : VOKs K md O H B ds vs) (x : ∀ a, B a → ¬ A a) : VOKs K md O H (Own.or A B) (d :: ds) (v :: vs) := by
  cases md with
  | fz => exact ⟨v, vs, rfl, q, r⟩
  | bw => exact ⟨v, vs, rfl, q, r⟩
  | deep => exact ⟨v, vs, A, B, rfl, fun a z z' => x a z' z, fun a z => .inl z, fun a z => .inr z, q, r⟩
  | own => cases h
  | bo => cases h
theorem sa_cons (h1 : SE P ms ms1 md a ta) (h2 : SA P ms1 ms2 md l tl) (h : okMd md = true := by rfl) : SA P ms ms2 md (ac a l) (tCons ta tl) := fun τ O H σ C Q F n k w => by
  refine h1 τ O H σ C _ F (Rs.bind_ne n) (fun d O1 H1 A v e g f1 x q => ?_) fun x e => w x (Rs.bind_ex e)
  have eb : ac a l τ = (l τ).bind fun xs => .ok (d :: xs) := Rs.bind_ok e
  rw [eb] at n k w
  refine h2 τ O1 H1 σ (Own.or C A) _ f1 (Rs.bind_ne n) (fun ds O2 H2 B vs e' g' f2 x' q' => ?_) fun x e => (w x (Rs.bind_ex e)).up g fun a z => .inl z
  have eb' : ((l τ).bind fun xs => Rs.ok (d :: xs)) = .ok (d :: ds) := Rs.bind_ok e'
  exact k (d :: ds) O2 H2 (Own.or A B) (v :: vs) eb' (g.trans g') (f2.ctx fun a z => z.elim (fun q => .inl (.inl q)) fun q => q.elim (fun q => .inl (.inr q)) .inr)
    (fun a z c => z.elim (fun q => x a q c) fun q => x' a q (.inl c)) (voks_cons h (q.mono g') q' fun a z z' => x' a z (.inr z'))
/-- what was one's own in the arguments is given up -/
theorem sa_give (h : SA P ms ms1 .deep l tl) : SA P ms ms1 .fz l tl := fun τ O H σ C Q f n k w =>
  h τ O H σ C Q f n (fun ds O' H' A vs e g f' x q => k ds (Own.minus O' A) H' O0 vs e ⟨g.1, fun a z => g.2 a z.1⟩ ((f'.less x).ctx or_none) (fun _ z => z.elim) (dps_dens ds vs A q)) w
def mdL : Md → Md
  | .fz => .own
  | m => m
/-! ### displays -/
theorem dens_len {K : PySem.W.Frag} {O : Own} {H : Hp} : ∀ {ds : List D} {vs : List V}, Dens K O H ds vs → vs.length = ds.length
  | [], vs, h => by
    have e : vs = [] := h
    rw [e] <;> rfl
  | d :: ds, vs, h => by
    obtain ⟨v, r, e, _, h2⟩ := h
    rw [e, List.length_cons, List.length_cons, dens_len h2]
theorem dps_len {K : PySem.W.Frag} {H : Hp} : ∀ {ds : List D} {vs : List V} {A : Own}, Dps K H ds vs A → vs.length = ds.length
  | [], vs, _, h => by
    have e : vs = [] := h
    rw [e] <;> rfl
  | d :: ds, vs, _, h => by
    obtain ⟨v, r, A1, A2, e, _, _, _, _, h2⟩ := h
    rw [e, List.length_cons, List.length_cons, dps_len h2]
theorem voks_len {K : PySem.W.Frag} {O : Own} {H : Hp} {A : Own} {ds : List D} {vs : List V} (h : VOKs K md O H A ds vs) : vs.length = ds.length := by
  cases md with
  | fz => exact dens_len h
  | bw => exact dens_len h
  | deep => exact dps_len h
  | own => exact h.elim
  | bo => exact h.elim
theorem le_line {n : Nat} (h : n ≤ 1000) : n ≤ sizeLine := Nat.le_trans h (by decide)
theorem upd_gr {O : Own} {H : Hp} {p : Addr} {o : HO} (h : H p = .none) : Gr O H O (L2.upd H p o) := ⟨(Nw.upd h).ex, fun _ z => .inl z⟩
theorem Fr.grow0 {K : PySem.W.Frag} {τ : Ts} {O C : Own} {H : Hp} {σ : L2.St} (f : Fr K ms τ O H σ C) {p : Addr} {o : HO} (h : H p = .none) : Fr K ms τ O (L2.upd H p o) σ C := by
  have q := f.grow (Nw.upd0 (o := o) h)
  exact ⟨q.lm, q.ls, fun a z => q.dom a (.inl z), f.sub, by
    obtain ⟨A, a1, a2, a3⟩ := q.slots
    refine ⟨A, a1, fun i a z => ⟨(a2 i a z).1.elim id fun q => q.elim, fun w => (a2 i a z).2 (.inl w)⟩, fun i md e => ?_⟩
    obtain ⟨d, v, e1, e2, h⟩ := a3 i md e
    exact ⟨d, v, e1, e2, h.mono ⟨fun _ _ z => z, fun a z => .inl (.inl z)⟩⟩⟩
/-- a tuple: as its items stand -/
theorem se_tp (h : SA P ms ms1 md l tl) (hm : okMd md = true := by rfl) : SE P ms ms1 md (tp l) (tTup tl) := fun τ O H σ C Q F n k w => by
  refine h τ O H σ C _ F (Rs.bind_ne n) (fun ds O' H' A vs e g f' x q => ?_) fun x e => w x (Rs.bind_ex e)
  have eb : tp l τ = if ds.length ≤ 1000 then .ok (.tup ds) else .no := Rs.bind_ok e
  by_cases hl : ds.length ≤ 1000
  · rw [if_pos hl] at eb
    refine ⟨by rw [voks_len q]; exact le_line hl, fun p hp => k (.tup ds) O' _ A (.ref p) eb (g.trans (upd_gr hp)) (f'.grow0 hp) x ?_⟩
    have q2 := q.mono (upd_gr (o := .tup vs) hp)
    cases md with
    | fz => exact ⟨p, vs, rfl, .of upd_same, q2⟩
    | bw => exact ⟨p, vs, rfl, .of upd_same, q2⟩
    | deep => exact ⟨p, vs, rfl, .of upd_same, q2⟩
    | own => cases hm
    | bo => cases hm
  · rw [if_neg hl] at eb
    exact (n eb).elim
/-- a list: one's own -/
theorem se_ls (h : SA P ms ms1 md l tl) (hm : md = .fz ∨ md = .deep) : SE P ms ms1 (mdL md) (ls l) (tLst tl) := fun τ O H σ C Q F n k w => by
  refine h τ O H σ C _ F (Rs.bind_ne n) (fun ds O' H' A vs e g f' x q => ?_) fun x e => w x (Rs.bind_ex e)
  have eb : ls l τ = if ds.length ≤ 1000 then .ok (.lst ds) else .no := Rs.bind_ok e
  by_cases hl : ds.length ≤ 1000
  · rw [if_pos hl] at eb
    refine ⟨by rw [voks_len q]; exact le_line hl, fun p hp => ?_⟩
    have nw : Nw H' (L2.upd H' p (.lst vs)) (fun a => a = p) := Nw.upd hp
    have q2 := q.mono (nw.gr (O := O'))
    have np : ∀ a, O' a → a ≠ p := fun a z e => f'.dom a z (by rw [e]; exact hp)
    have nA : ¬ A p := fun z => np p (f'.sub p (.inr z)) rfl
    refine k (.lst ds) (Own.or O' fun a => a = p) _ (Own.or A fun a => a = p) (.ref p) eb (g.trans nw.gr) ((f'.grow nw).ctx fun a z => z.elim (fun q => .inl (.inl q)) fun q => q.elim (fun q => .inl (.inr q)) .inr) (fun a z c => z.elim (fun q => x a q c) fun q => np a (f'.sub a (.inl c)) q) ?_
    rcases hm with rfl | rfl
    · exact ⟨p, vs, rfl, upd_same, .inr rfl, q2⟩
    · exact ⟨p, vs, A, rfl, upd_same, .inr rfl, nA, fun a z => .inl z, q2⟩
  · rw [if_neg hl] at eb
    exact (n eb).elim
/-! ### targets -/
theorem Fr.put {K : PySem.W.Frag} {τ : Ts} {O C A : Own} {H : Hp} {σ : L2.St} {d : D} {v : V} (f : Fr K ms τ O H σ (Own.or C A)) (x : ∀ a, A a → ¬ C a) (q : VOK K md O H A d v) (i : Nat) : Fr K (ms.set i (some md)) (τ.set i d) O H (σ.set i (some v)) C := by
  obtain ⟨B, a1, a2, a3⟩ := f.slots
  refine ⟨by rw [List.length_set, List.length_set]; exact f.lm, by rw [List.length_set, List.length_set]; exact f.ls, f.dom, fun a z => f.sub a (.inl z), fun j a => (j = i ∧ A a) ∨ (j ≠ i ∧ B j a), fun j j' a z z' => ?_, fun j a z => ?_, fun j md' ej => ?_⟩
  · rcases z with ⟨h1, z⟩ | ⟨h1, z⟩
    · rcases z' with ⟨h2, z'⟩ | ⟨h2, z'⟩
      · rw [h1, h2]
      · exact ((a2 j' a z').2 (.inr z)).elim
    · rcases z' with ⟨h2, z'⟩ | ⟨h2, z'⟩
      · exact ((a2 j a z).2 (.inr z')).elim
      · exact a1 j j' a z z'
  · rcases z with ⟨h1, z⟩ | ⟨h1, z⟩
    · exact ⟨f.sub a (.inr z), x a z⟩
    · exact ⟨(a2 j a z).1, fun c => (a2 j a z).2 (.inl c)⟩
  · by_cases h1 : j = i
    · subst h1
      have hl : j < ms.length := by
        have := (List.getElem?_eq_some_iff.mp ej).1
        rwa [List.length_set] at this
      rw [List.getElem?_set_self hl] at ej
      cases ej
      exact ⟨d, v, List.getElem?_set_self (by rw [← f.lm]; exact hl), List.getElem?_set_self (by rw [f.ls, ← f.lm]; exact hl), q.over fun a z => .inl ⟨rfl, z⟩⟩
    · rw [List.getElem?_set_ne (Ne.symm h1)] at ej
      obtain ⟨d', v', e1, e2, h⟩ := a3 j md' ej
      exact ⟨d', v', by rw [List.getElem?_set_ne (Ne.symm h1)]; exact e1, by rw [List.getElem?_set_ne (Ne.symm h1)]; exact e2, h.over fun a z => .inr ⟨h1, z⟩⟩
theorem sg_name {i : Nat} : SG P ms (ms.set i (some md)) md (gn i) (gName i) := fun d v τ O H σ C A Q F x q _ k => k _ _ rfl (F.put x q i)
def SGs (P : Px) (ms ms' : Ms) (md : Md) (m : List MG) (g : TGs) : Prop := ∀ ds vs τ O H σ C A (Q : L2.St → Hp → Prop), Fr P.K ms τ O H σ (Own.or C A) → (∀ a, A a → ¬ C a) → VOKs P.K md O H A ds vs → (∃ τ', gts m ds τ = .ok τ') →
  (∀ τ' σ', gts m ds τ = .ok τ' → Fr P.K ms' τ' O H σ' C → Q σ' H) → g vs σ H Q
theorem sgs_nil : SGs P ms ms md [] gNil := fun ds vs τ O H σ C A Q F x q e k => by
  cases ds with
  | nil =>
    have ev : vs = [] := by
      have := voks_len q
      exact List.eq_nil_of_length_eq_zero this
    exact ⟨ev, k τ σ rfl (F.ctx fun a z => .inl z)⟩
  | cons d ds =>
    obtain ⟨t, e⟩ := e
    cases e
theorem voks_cons_inv {K : PySem.W.Frag} {O : Own} {H : Hp} {A : Own} {d : D} {ds : List D} {vs : List V} (q : VOKs K md O H A (d :: ds) vs) : ∃ v r A1 A2, vs = v :: r ∧ (∀ a, A1 a → A2 a → False) ∧ (∀ a, A1 a → A a) ∧ (∀ a, A2 a → A a) ∧ VOK K md O H A1 d v ∧ VOKs K md O H A2 ds r := by
  cases md with
  | fz =>
    obtain ⟨v, r, e, h1, h2⟩ := q
    exact ⟨v, r, O0, O0, e, fun _ z => z.elim, fun _ z => z.elim, fun _ z => z.elim, h1, h2⟩
  | bw =>
    obtain ⟨v, r, e, h1, h2⟩ := q
    exact ⟨v, r, O0, O0, e, fun _ z => z.elim, fun _ z => z.elim, fun _ z => z.elim, h1, h2⟩
  | deep =>
    obtain ⟨v, r, A1, A2, e, x, l1, l2, h1, h2⟩ := q
    exact ⟨v, r, A1, A2, e, x, l1, l2, h1, h2⟩
  | own => exact q.elim
  | bo => exact q.elim
theorem sgs_cons {g : MG} {gs : List MG} {t : TG} {u : TGs} (h1 : SG P ms ms1 md g t) (h2 : SGs P ms1 ms2 md gs u) : SGs P ms ms2 md (g :: gs) (gCons t u) := fun ds vs τ O H σ C A Q F x q e k => by
  cases ds with
  | nil =>
    obtain ⟨t, e⟩ := e
    cases e
  | cons d ds =>
    obtain ⟨v, r, A1, A2, rfl, xx, l1, l2, q1, q2⟩ := voks_cons_inv q
    refine ⟨v, r, rfl, ?_⟩
    obtain ⟨τ', e⟩ := e
    have eg : ∃ τ1, g d τ = .ok τ1 := by
      cases hg : g d τ with
      | ok τ1 => exact ⟨τ1, rfl⟩
      | ex z => rw [gts, hg] at e; cases e
      | no => rw [gts, hg] at e; cases e
    obtain ⟨τ1, e1⟩ := eg
    have eb : gts (g :: gs) (d :: ds) τ = gts gs ds τ1 := by rw [gts, e1] <;> rfl
    rw [eb] at e k
    refine h1 d v τ O H σ (Own.or C A2) A1 _ (F.ctx fun a z => z.elim (fun z => z.elim .inl fun q => .inr (l2 a q)) fun z => .inr (l1 a z)) (fun a z c => c.elim (fun c => x a (l1 a z) c) fun c => xx a z c) q1 ⟨τ1, e1⟩ fun τ2 σ2 e2 F2 => ?_
    rw [e1] at e2
    cases e2
    exact h2 ds r τ1 O H σ2 C A2 Q F2 (fun a z c => x a (l2 a z) c) q2 ⟨τ', e⟩ k
theorem sg_tup {gs : List MG} {t : TGs} {n : Nat} (hn : gs.length = n) (h : SGs P ms ms1 md gs t) (hm : okMd md = true := by rfl) : SG P ms ms1 md (gt gs) (gTup P.K n t) := fun d v τ O H σ C A Q F x q e k => by
  cases d with
  | tup ds =>
    have len : ds.length = n := by
      obtain ⟨τ', e⟩ := e
      have e2 : gts gs ds τ = .ok τ' := e
      have aux : ∀ (gs : List MG) (ds : List D) (τ τ' : Ts), gts gs ds τ = .ok τ' → ds.length = gs.length := by
        intro gs
        induction gs with
        | nil =>
          intro ds τ τ' e
          cases ds with
          | nil => rfl
          | cons d ds => cases e
        | cons g gs ih =>
          intro ds τ τ' e
          cases ds with
          | nil => cases e
          | cons d ds =>
            cases hg : g d τ with
            | ok τ1 =>
              rw [gts, hg] at e
              rw [List.length_cons, List.length_cons, ih ds τ1 τ' e]
            | ex z => rw [gts, hg] at e; cases e
            | no => rw [gts, hg] at e; cases e
      rw [aux gs ds τ τ' e2, hn]
    have get : ∃ p vs, v = .ref p ∧ SqT P.K H p vs ∧ VOKs P.K md O H A ds vs := by
      cases md with
      | fz => exact q
      | bw => exact q
      | deep => exact q
      | own => cases hm
      | bo => cases hm
    obtain ⟨p, vs, rfl, s, q2⟩ := get
    exact ⟨p, vs, rfl, s, (voks_len q2).trans len, h ds vs τ O H σ C A Q F x q2 e k⟩
  | _ =>
    obtain ⟨τ', e⟩ := e
    cases e
end

section
variable {P : Px} {ms ms1 ms2 ms3 : Ms} {md ma mb mr : Md} {a b : ME} {ta tb' te : TE} {x y : MT} {tx ty : TT} {l : MA} {tl : TA} {s u : MS} {ts tu : TS}
theorem WOS.of {τ : Ts} {O : Own} {H : Hp} {C : Own} {σ : L2.St} {e : Exn} (h : WOS P τ O H C e) : WOK P τ O H C σ e := fun O' H' cls dd g f x => h O' H' σ cls dd g.s f x
theorem WOS.up {τ : Ts} {O O1 : Own} {H H1 : Hp} {C : Own} {x : Exn} (w : WOS P τ O H C x) (g : GrS C O H O1 H1) : WOS P τ O1 H1 C x :=
  fun O' H' σ cls dd g' f x' => w O' H' σ cls dd (g.trans g') f x'
/-! ### statements -/
theorem ss_weak {t : TS} (h : SS P ms ms1 mr s t) (l : leMs ms1 ms2 = true) : SS P ms ms2 mr s t := fun τ O H σ C D F n kn kr kx => h τ O H σ C D F n (fun τ' O' H' σ' e g f => kn τ' O' H' σ' e g (f.weak l)) kr kx
theorem ss_pre {t : TS} (h : SS P ms1 ms2 mr s t) (l : leMs ms ms1 = true) : SS P ms ms2 mr s t := fun τ O H σ C D F n kn kr kx => h τ O H σ C D (F.weak l) n kn kr kx
theorem ss_skip : SS P ms ms mr skip tNext := fun τ O H σ C D F n kn kr kx => kn τ O H σ rfl .refl F
theorem ss_seq (h1 : SS P ms ms1 mr s ts) (h2 : SS P ms1 ms2 mr u tu) : SS P ms ms2 mr (seq s u) (tSeq ts tu) := fun τ O H σ C D F n kn kr kx => by
  refine h1 τ O H σ C _ F (fun e => n (by unfold seq; rw [e])) (fun τ' O' H' σ' e g f => ?_) (fun d O' H' A v e g z1 z2 z3 q => ?_) fun x τ' e => kx x τ' (by unfold seq; rw [e])
  · have eb : seq s u τ = u τ' := by unfold seq; rw [e]
    rw [eb] at n kn kr kx
    exact h2 τ' O' H' σ' C D f n (fun τ2 O2 H2 σ2 e2 g2 f2 => kn τ2 O2 H2 σ2 e2 (g.trans g2) f2) (fun d O2 H2 A v e2 g2 z1 z2 z3 q => kr d O2 H2 A v e2 (g.trans g2) z1 z2 z3 q) fun x τ2 e2 => (kx x τ2 e2).up g
  · exact kr d O' H' A v (by unfold seq; rw [e]) g z1 z2 z3 q
theorem ss_asg {g : MG} {tg : TG} (h : SE P ms ms1 md a ta) (hg : SG P ms1 ms2 md g tg) : SS P ms ms2 mr (asg a g) (tAsg ta tg) := fun τ O H σ C D F n kn kr kx => by
  refine h τ O H σ C _ F (fun e => n (by unfold asg; rw [e])) (fun d O' H' A v e gr f x q => ?_) fun x e => (kx x τ (by unfold asg; rw [e])).of
  have eb : asg a g τ = match g d τ with
    | .ok τ' => .nx τ'
    | _ => .no := by unfold asg; rw [e]
  refine hg d v τ O' H' σ C A _ f x q ?_ fun τ' σ' e2 f2 => kn τ' O' H' σ' (by rw [eb, e2]) gr.s f2
  cases e2 : g d τ with
  | ok τ' => exact ⟨τ', rfl⟩
  | no => exact (n (by rw [eb, e2])).elim
  | ex z => exact (n (by rw [eb, e2])).elim
theorem ss_par {i j : Nat} (h1 : SE P ms ms1 .fz a ta) (h2 : SE P ms1 ms2 .fz b tb') : SS P ms ((ms2.set i (some .fz)).set j (some .fz)) mr (par i j a b) (tPar i j (tCons ta (tCons tb' tNil))) := fun τ O H σ C D F n kn kr kx => by
  have n1 : ((a τ).bind fun x => (b τ).bind fun y => Rs.ok (x, y)) ≠ .no := fun e => n (by unfold par; rw [e])
  refine h1 τ O H σ C _ F (Rs.bind_ne n1) (fun d O1 H1 A v e g f x q => ?_) fun x e => (kx x τ (by unfold par; rw [Rs.bind_ex e])).of
  have eb : ((a τ).bind fun x => (b τ).bind fun y => Rs.ok (x, y)) = (b τ).bind fun y => Rs.ok (d, y) := Rs.bind_ok e
  rw [eb] at n1
  have f1 : Fr P.K ms1 τ O1 H1 σ C := f.ctx fun a z => .inl z
  refine h2 τ O1 H1 σ C _ f1 (Rs.bind_ne n1) (fun d2 O2 H2 A2 v2 e2 g2 f2 x2 q2 => ?_) fun x e2 => ((kx x τ (by unfold par; rw [eb, Rs.bind_ex e2])).up g.s).of
  have eb2 : par i j a b τ = .nx ((τ.set i d).set j d2) := by
    unfold par
    rw [eb, Rs.bind_ok e2]
  refine ⟨v, v2, rfl, kn _ O2 H2 _ eb2 (g.trans g2).s ?_⟩
  have f2' : Fr P.K ms2 τ O2 H2 σ (Own.or C O0) := f2.ctx fun a z => .inl (or_none a z)
  have p1 := Fr.put (md := .fz) f2' (fun _ z => z.elim) (q.mono g2) i
  have p1' : Fr P.K (ms2.set i (some .fz)) (τ.set i d) O2 H2 (σ.set i (some v)) (Own.or C O0) := p1.ctx or_none
  exact Fr.put (md := .fz) p1' (fun _ z => z.elim) q2 j
theorem ss_if (h : ST P ms ms1 x tx) (h1 : SS P ms1 ms2 mr s ts) (h2 : SS P ms1 ms2 mr u tu) : SS P ms ms2 mr (sif x s u) (tIfS tx ts tu) := fun τ O H σ C D F n kn kr kx => by
  refine h τ O H σ C _ F (fun e => n (by unfold sif; rw [e])) (fun c O' H' e g f => ?_) fun x e => (kx x τ (by unfold sif; rw [e])).of
  have eb : sif x s u τ = if c = true then s τ else u τ := by unfold sif; rw [e]
  rw [eb] at n kn kr kx
  cases c with
  | true => exact h1 τ O' H' σ C D f n (fun τ2 O2 H2 σ2 e2 g2 f2 => kn τ2 O2 H2 σ2 e2 (g.s.trans g2) f2) (fun d O2 H2 A v e2 g2 z1 z2 z3 q => kr d O2 H2 A v e2 (g.s.trans g2) z1 z2 z3 q) fun x τ2 e2 => (kx x τ2 e2).up g.s
  | false => exact h2 τ O' H' σ C D f n (fun τ2 O2 H2 σ2 e2 g2 f2 => kn τ2 O2 H2 σ2 e2 (g.s.trans g2) f2) (fun d O2 H2 A v e2 g2 z1 z2 z3 q => kr d O2 H2 A v e2 (g.s.trans g2) z1 z2 z3 q) fun x τ2 e2 => (kx x τ2 e2).up g.s
theorem ss_ret (h : SE P ms ms1 mr a ta) : SS P ms ms2 mr (ret a) (tRet ta) := fun τ O H σ C D F n kn kr kx => by
  refine h τ O H σ C _ F (fun e => n (by unfold ret; rw [e])) (fun d O' H' A v e g f x q => ?_) fun x e => (kx x τ (by unfold ret; rw [e])).of
  exact kr d O' H' A v (by unfold ret; rw [e]) g.s f.dom (fun a z => f.sub a (.inl z)) (fun a z => ⟨f.sub a (.inr z), x a z⟩) q
theorem ss_drp (h : SE P ms ms1 md a ta) : SS P ms ms1 mr (drp a) (tDrop ta) := fun τ O H σ C D F n kn kr kx => by
  refine h τ O H σ C _ F (fun e => n (by unfold drp; rw [e])) (fun d O' H' A v e g f x q => ?_) fun x e => (kx x τ (by unfold drp; rw [e])).of
  exact kn τ O' H' σ (by unfold drp; rw [e]) g.s (f.ctx fun a z => .inl z)
theorem ss_while (h : ST P ms ms1 x tx) (hb : SS P ms1 ms mr s ts) (l : leMs ms1 ms2 = true := by rfl) : SS P ms ms2 mr (whl x s) (tWhile tx ts) := fun τ O H σ C D F n kn kr kx => by
  obtain ⟨m, em⟩ := whl_ex n
  rw [← em] at n kn kr kx
  refine ⟨fun m σ' H' => ∃ τ' O', Fr P.K ms τ' O' H' σ' C ∧ GrS C O H O' H' ∧ wh x s m τ' ≠ .no ∧ (∀ o, wh x s m τ' = o → (∀ τ2, o = .nx τ2 → ∀ O2 H2 σ2, GrS C O H O2 H2 → Fr P.K ms2 τ2 O2 H2 σ2 C → D.nx σ2 H2) ∧
    (∀ d, o = .rt d → ∀ O2 H2 A v, GrS C O H O2 H2 → (∀ a, O2 a → H2 a ≠ none) → (∀ a, C a → O2 a) → (∀ a, A a → O2 a ∧ ¬ C a) → VOK P.K mr O2 H2 A d v → D.rt v H2) ∧ (∀ e τ2, o = .ex e τ2 → WOS P τ2 O H C e)), ⟨m, τ, O, F, .refl, n, fun o eo => ⟨fun τ2 e O2 H2 σ2 g f => kn τ2 O2 H2 σ2 (eo.trans e) g f, fun d e O2 H2 A v g z1 z2 z3 q => kr d O2 H2 A v (eo.trans e) g z1 z2 z3 q, fun e τ2 e' => kx e τ2 (eo.trans e')⟩⟩, ?_⟩
  rintro m σ' H' ⟨τ', O', F', G', n', K'⟩
  cases m with
  | zero => exact (n' rfl).elim
  | succ m =>
    refine h τ' O' H' σ' C _ F' (fun e => n' (by unfold wh; rw [e])) (fun c O2 H2 e g f => ?_) fun e' e => (((K' (.ex e' τ') (by unfold wh; rw [e])).2.2 e' τ' rfl).up G').of
    have G2 := G'.trans (g.s (C := C))
    cases c with
    | false =>
      show D.nx σ' H2
      exact (K' (.nx τ') (by unfold wh; rw [e])).1 τ' rfl O2 H2 σ' G2 (f.weak l)
    | true =>
      have eb : wh x s (m + 1) τ' = match s τ' with
        | .nx τ'' => wh x s m τ''
        | o => o := by
        show (match x τ' with
          | .no => Out.no
          | .ex e => .ex e τ'
          | .ok false => .nx τ'
          | .ok true => (match s τ' with
            | .nx τ'' => wh x s m τ''
            | o => o)) = _
        rw [e]
      refine ⟨_, fun _ _ z => z, ?_⟩
      refine hb τ' O2 H2 σ' C _ f (fun e2 => n' (by rw [eb, e2])) (fun τ3 O3 H3 σ3 e3 g3 f3 => ?_) (fun d O3 H3 A v e3 g3 z1 z2 z3 q => ?_) fun e' τ3 e3 => ?_
      · have eb3 : wh x s (m + 1) τ' = wh x s m τ3 := by rw [eb, e3]
        exact ⟨m, Nat.lt_succ_self _, τ3, O3, f3, G2.trans g3, fun z => n' (eb3.trans z), fun o eo => K' o (eb3.trans eo)⟩
      · exact (K' (.rt d) (by rw [eb, e3])).2.1 d rfl O3 H3 A v (G2.trans g3) z1 z2 z3 q
      · exact ((K' (.ex e' τ3) (by rw [eb, e3])).2.2 e' τ3 rfl).up G2
/-! ### what is walked -/
def SI (P : Px) (ms ms' : Ms) (i : MA) (wi : TI) : Prop := ∀ τ O H σ C (R : It → Hp → Prop), Fr P.K ms τ O H σ C → i τ ≠ .no →
  (∀ ds O' H' J G Y, i τ = .ok ds → Gr O H O' H' → Fr P.K ms' τ O' H' σ C → Walk J ds.length G Y → (∀ O2 H2, GrS C O' H' O2 H2 → G H2) →
    (∀ k O2 H2 v H3, k < ds.length → GrS C O' H' O2 H2 → Y k H2 v H3 → ∃ d, ds[k]? = some d ∧ Nw H2 H3 O0 ∧ Den P.K O2 H3 d v) → R J H') →
  (∀ x, i τ = .ex x → WOK P τ O H C σ x) → wi σ H R
theorem Fr.nw0 {K : PySem.W.Frag} {τ : Ts} {O C : Own} {H H' : Hp} {σ : L2.St} (f : Fr K ms τ O H σ C) (n : Nw H H' O0) : Fr K ms τ O H' σ C := by
  have q := f.grow n
  exact ⟨q.lm, q.ls, fun a z => q.dom a (.inl z), f.sub, by
    obtain ⟨A, a1, a2, a3⟩ := q.slots
    refine ⟨A, a1, fun i a z => ⟨(a2 i a z).1.elim id fun q => q.elim, fun w => (a2 i a z).2 (.inl w)⟩, fun i md e => ?_⟩
    obtain ⟨d, v, e1, e2, h⟩ := a3 i md e
    exact ⟨d, v, e1, e2, h.mono ⟨fun _ _ z => z, fun a z => .inl (.inl z)⟩⟩⟩
theorem Nw.gr0 {O : Own} {H H' : Hp} (n : Nw H H' O0) : Gr O H O H' := ⟨n.ex, fun _ z => .inl z⟩
theorem fl_step {g : MG} {b : MS} {ds : List D} {k : Nat} {d : D} {τ : Ts} (h : ds[k]? = some d) : fl g b (ds.drop k) τ = match g d τ with
    | .ok τ1 => (match b τ1 with
      | .nx τ2 => fl g b (ds.drop (k + 1)) τ2
      | o => o)
    | _ => .no := by
  obtain ⟨hk, e⟩ := List.getElem?_eq_some_iff.mp h
  rw [List.drop_eq_getElem_cons hk, e] <;> rfl
theorem ss_for {i : MA} {g : MG} {wi : TI} {tg : TG} (hi : SI P ms ms1 i wi) (hg : SG P ms1 ms2 .fz g tg) (hb : SS P ms2 ms3 mr s ts) (l : leMs ms3 ms1 = true := by rfl) : SS P ms ms1 mr (fr i g s) (tFor wi tg ts) := fun τ O H σ C D F n kn kr kx => by
  refine hi τ O H σ C _ F (fun e => n (by unfold fr; rw [e])) (fun ds O' H' J G Y e gr f w hG hY => ?_) fun x e => (kx x τ (by unfold fr; rw [e])).of
  have eb : fr i g s τ = fl g s ds τ := by unfold fr; rw [e]
  rw [eb] at n kn kr kx
  refine for_it w (fun k σ2 H2 => ∃ τ2 O2, Fr P.K ms1 τ2 O2 H2 σ2 C ∧ GrS C O' H' O2 H2 ∧ fl g s (ds.drop k) τ2 = fl g s ds τ) ⟨τ, O', f, .refl, rfl⟩ (fun k σ2 H2 _ ⟨τ2, O2, _, g2, _⟩ => hG O2 H2 g2) ?_ ?_
  · rintro k v σ2 H2 H3 hk ⟨τ2, O2, f2, g2, e2⟩ y
    obtain ⟨d, ed, nw, hd⟩ := hY k O2 H2 v H3 hk g2 y
    rw [fl_step ed] at e2
    have eg : ∃ τ3, g d τ2 = .ok τ3 := by
      cases hg : g d τ2 with
      | ok τ3 => exact ⟨τ3, rfl⟩
      | ex z => exact (n (by rw [← e2, hg])).elim
      | no => exact (n (by rw [← e2, hg])).elim
    have f3 : Fr P.K ms1 τ2 O2 H3 σ2 (Own.or C O0) := (f2.nw0 nw).ctx or_none
    refine hg d v τ2 O2 H3 σ2 C O0 _ f3 (fun _ z => z.elim) hd eg fun τ3 σ3 e3 f4 => ?_
    rw [e3] at e2
    dsimp only at e2
    have g3 : GrS C O' H' O2 H3 := g2.trans nw.gr0.s
    refine hb τ3 O2 H3 σ3 C _ f4 (fun z => n (by rw [← e2, z])) (fun τ5 O5 H5 σ5 e5 g5 f5 => ?_) (fun d5 O5 H5 A v e5 g5 z1 z2 z3 q => ?_) fun x τ5 e5 => ?_
    · rw [e5] at e2
      exact ⟨τ5, O5, f5.weak l, g3.trans g5, e2⟩
    · rw [e5] at e2
      exact kr d5 O5 H5 A v e2.symm ((gr.s.trans g3).trans g5) z1 z2 z3 q
    · rw [e5] at e2
      exact (kx x τ5 e2.symm).up (gr.s.trans g3)
  · rintro σ2 H2 ⟨τ2, O2, f2, g2, e2⟩
    rw [List.drop_length] at e2
    exact kn τ2 O2 H2 σ2 e2.symm (gr.s.trans g2) f2
theorem dens_get {K : PySem.W.Frag} {O : Own} {H : Hp} : ∀ {ds : List D} {vs : List V} {k : Nat} {v : V}, Dens K O H ds vs → vs[k]? = some v → ∃ d, ds[k]? = some d ∧ Den K O H d v
  | [], vs, k, v, h, e => by
    have e0 : vs = [] := h
    rw [e0] at e
    simp at e
  | d :: ds, vs, 0, v, h, e => by
    obtain ⟨w, r, rfl, h1, _⟩ := h
    simp at e
    subst e
    exact ⟨d, by simp, h1⟩
  | d :: ds, vs, k + 1, v, h, e => by
    obtain ⟨w, r, rfl, _, h2⟩ := h
    obtain ⟨d', e', h'⟩ := dens_get (k := k) h2 (by simpa using e)
    exact ⟨d', by simpa using e', h'⟩
theorem dens_get' {K : PySem.W.Frag} {O : Own} {H : Hp} : ∀ {ds : List D} {vs : List V} {k : Nat} {d : D}, Dens K O H ds vs → ds[k]? = some d → ∃ v, vs[k]? = some v ∧ Den K O H d v
  | [], vs, k, v, h, e => by simp at e
  | d :: ds, vs, 0, v, h, e => by
    obtain ⟨w, r, rfl, h1, _⟩ := h
    simp at e
    subst e
    exact ⟨w, by simp, h1⟩
  | d :: ds, vs, k + 1, v, h, e => by
    obtain ⟨w, r, rfl, _, h2⟩ := h
    obtain ⟨d', e', h'⟩ := dens_get' (k := k) h2 (by simpa using e)
    exact ⟨d', by simpa using e', h'⟩
/-- a list's items; a tuple's -/
def itl (a : ME) : MA := fun τ => (a τ).bind fun d => match d with
  | .lst l => .ok l
  | _ => .no
def itt (a : ME) : MA := fun τ => (a τ).bind fun d => match d with
  | .tup l => .ok l
  | _ => .no
theorem si_list (h : SE P ms ms1 .fz a ta) : SI P ms ms1 (itl a) (iList P.K ta) := fun τ O H σ C R F n k w => by
  refine h τ O H σ C _ F (Rs.bind_ne n) (fun d O' H' A v e g f x q => ?_) fun x e => w x (Rs.bind_ex e)
  cases d with
  | lst ds =>
    obtain ⟨p, vs, rfl, s, q⟩ := q
    have hl : vs.length = ds.length := dens_len q
    refine ⟨p, rfl, ⟨vs, s.sq⟩, k ds O' H' _ _ _ (Rs.bind_ok e) g (f.ctx fun a z => .inl z) (hl ▸ walk_list (xs := vs)) (fun O2 H2 g2 => (fzl_monoS g2 s).sq) ?_⟩
    rintro k O2 H2 v H3 hk g2 ⟨rfl, ev⟩
    obtain ⟨d, ed, hd⟩ := dens_get q ev
    exact ⟨d, ed, .none, den_monoS g2 d v hd⟩
  | _ => exact (n (Rs.bind_ok e)).elim
theorem si_tup (h : SE P ms ms1 .fz a ta) : SI P ms ms1 (itt a) (iTup P.K ta) := fun τ O H σ C R F n k w => by
  refine h τ O H σ C _ F (Rs.bind_ne n) (fun d O' H' A v e g f x q => ?_) fun x e => w x (Rs.bind_ex e)
  cases d with
  | tup ds =>
    obtain ⟨p, vs, rfl, s, q⟩ := q
    have hl : vs.length = ds.length := dens_len q
    refine ⟨p, rfl, ⟨vs, s⟩, k ds O' H' _ _ _ (Rs.bind_ok e) g (f.ctx fun a z => .inl z) (hl ▸ walk_tup (xs := vs)) (fun O2 H2 g2 => sqt_monoS g2 s) ?_⟩
    rintro k O2 H2 v H3 hk g2 ⟨rfl, ev⟩
    obtain ⟨d, ed, hd⟩ := dens_get q ev
    exact ⟨d, ed, .none, den_monoS g2 d v hd⟩
  | _ => exact (n (Rs.bind_ok e)).elim
/-- the items of a list, of a tuple, the signs of a text -/
def signs (z : Str) : List D := z.cps.toList.map fun c => .str ⟨#[c]⟩
def asS : D → Rs (List D)
  | .lst l => .ok l
  | .tup l => .ok l
  | .str z => .ok (signs z)
  | .scr l => .ok l
  | _ => .no
def its (a : ME) : MA := fun τ => (a τ).bind asS
theorem si_seq (h : SE P ms ms1 .fz a ta) : SI P ms ms1 (its a) (fun σ H R => iList P.K ta σ H R ∨ iTup P.K ta σ H R ∨ iStr ta σ H R) := fun τ O H σ C R F n k w => by
  have ne := Rs.bind_ne n
  have cs : (∃ d, a τ = .ok d) ∨ ∃ x, a τ = .ex x := by
    cases e : a τ with
    | no => exact (ne e).elim
    | ex x => exact .inr ⟨x, rfl⟩
    | ok d => exact .inl ⟨d, rfl⟩
  rcases cs with ⟨d0, e0⟩ | ⟨x0, e0⟩
  · have eb0 : its a τ = asS d0 := Rs.bind_ok e0
    cases d0 with
    | lst ds0 =>
      refine .inl (h τ O H σ C _ F ne (fun d O' H' A v e g f x q => ?_) fun x e => w x (Rs.bind_ex e))
      rw [e0] at e
      cases e
      obtain ⟨p, vs, rfl, s, q⟩ := q
      have hl : vs.length = ds0.length := dens_len q
      refine ⟨p, rfl, ⟨vs, s.sq⟩, k ds0 O' H' _ _ _ eb0 g (f.ctx fun a z => .inl z) (hl ▸ walk_list (xs := vs)) (fun O2 H2 g2 => (fzl_monoS g2 s).sq) ?_⟩
      rintro k O2 H2 v H3 hk g2 ⟨rfl, ev⟩
      obtain ⟨d, ed, hd⟩ := dens_get q ev
      exact ⟨d, ed, .none, den_monoS g2 d v hd⟩
    | scr ds0 =>
      refine .inl (h τ O H σ C _ F ne (fun d O' H' A v e g f x q => ?_) fun x e => w x (Rs.bind_ex e))
      rw [e0] at e
      cases e
      obtain ⟨p, vs, rfl, s, q⟩ := q
      have hl : vs.length = ds0.length := dens_len q
      refine ⟨p, rfl, ⟨vs, s.sq⟩, k ds0 O' H' _ _ _ eb0 g (f.ctx fun a z => .inl z) (hl ▸ walk_list (xs := vs)) (fun O2 H2 g2 => (scl_monoS g2 s).sq) ?_⟩
      rintro k O2 H2 v H3 hk g2 ⟨rfl, ev⟩
      obtain ⟨d, ed, hd⟩ := dens_get q ev
      exact ⟨d, ed, .none, den_monoS g2 d v hd⟩
    | tup ds0 =>
      refine .inr (.inl (h τ O H σ C _ F ne (fun d O' H' A v e g f x q => ?_) fun x e => w x (Rs.bind_ex e)))
      rw [e0] at e
      cases e
      obtain ⟨p, vs, rfl, s, q⟩ := q
      have hl : vs.length = ds0.length := dens_len q
      refine ⟨p, rfl, ⟨vs, s⟩, k ds0 O' H' _ _ _ eb0 g (f.ctx fun a z => .inl z) (hl ▸ walk_tup (xs := vs)) (fun O2 H2 g2 => sqt_monoS g2 s) ?_⟩
      rintro k O2 H2 v H3 hk g2 ⟨rfl, ev⟩
      obtain ⟨d, ed, hd⟩ := dens_get q ev
      exact ⟨d, ed, .none, den_monoS g2 d v hd⟩
    | str z =>
      refine .inr (.inr (h τ O H σ C _ F ne (fun d O' H' A v e g f x q => ?_) fun x e => w x (Rs.bind_ex e)))
      rw [e0] at e
      cases e
      have ev0 : v = .str z := q
      have hl : (signs z).length = z.cps.size := by unfold signs; simp
      refine ⟨z, ev0, k (signs z) O' H' (Its z) (fun _ => True) _ eb0 g (f.ctx fun a z => .inl z) (hl ▸ walk_str) (fun _ _ _ => trivial) ?_⟩
      rintro k O2 H2 v H3 hk g2 ⟨rfl, c, ec, ev⟩
      refine ⟨.str ⟨#[c]⟩, ?_, .none, ev⟩
      unfold signs
      rw [List.getElem?_map]
      have ec' : z.cps.toList[k]? = some c := by rw [Array.getElem?_toList]; exact ec
      rw [ec']
      rfl
    | _ => exact (n eb0).elim
  · exact .inl (h τ O H σ C _ F ne (fun d O' H' A v e g f x q => by rw [e0] at e; cases e) fun x e => w x (Rs.bind_ex e))
def rngD (lo : Int) (n : Nat) : List D := (List.range n).map fun (k : Nat) => .int (lo + (k : Int))
/-- range(n) -/
def rng1 : List D → Rs (List D) := fun l => match l with
  | [.int n] => if -1000000 ≤ n ∧ n ≤ 1000000 then .ok (rngD 0 n.toNat) else .no
  | _ => .no
def rng2 : List D → Rs (List D) := fun l => match l with
  | [.int i, .int j] => if -1000000 ≤ i ∧ i ≤ 1000000 ∧ -1000000 ≤ j ∧ j ≤ 1000000 then .ok (rngD i (j - i).toNat) else .no
  | _ => .no
def ir1 (a : MA) : MA := fun τ => (a τ).bind rng1
def ir2 (a : MA) : MA := fun τ => (a τ).bind rng2
theorem rng1_inv {l : List D} (h : rng1 l ≠ .no) : ∃ n, l = [.int n] ∧ (-1000000 ≤ n ∧ n ≤ 1000000) ∧ rng1 l = .ok (rngD 0 n.toNat) := by
  unfold rng1 at h ⊢
  split at h
  · split at h
    · rename_i c
      exact ⟨_, rfl, c, by rw [if_pos c]⟩
    · exact (h rfl).elim
  · exact (h rfl).elim
theorem rng2_inv {l : List D} (h : rng2 l ≠ .no) : ∃ i j, l = [.int i, .int j] ∧ (-1000000 ≤ i ∧ i ≤ 1000000 ∧ -1000000 ≤ j ∧ j ≤ 1000000) ∧ rng2 l = .ok (rngD i (j - i).toNat) := by
  unfold rng2 at h ⊢
  split at h
  · split at h
    · rename_i c
      exact ⟨_, _, rfl, c, by rw [if_pos c]⟩
    · exact (h rfl).elim
  · exact (h rfl).elim
theorem rngD_len {lo : Int} {n : Nat} : (rngD lo n).length = n := by unfold rngD; simp
theorem rngD_get {lo : Int} {n k : Nat} (h : k < n) : (rngD lo n)[k]? = some (.int (lo + k)) := by unfold rngD; simp [h]
theorem ints1 {K : PySem.W.Frag} {O : Own} {H : Hp} {i : Int} {vs : List V} (h : Dens K O H [.int i] vs) : vs = [.int i] := by
  obtain ⟨v, r, rfl, h1, h2⟩ := h
  have e1 : v = .int i := h1
  have e2 : r = [] := h2
  rw [e1, e2]
theorem ints2 {K : PySem.W.Frag} {O : Own} {H : Hp} {i j : Int} {vs : List V} (h : Dens K O H [.int i, .int j] vs) : vs = [.int i, .int j] := by
  obtain ⟨v, r, rfl, h1, h2⟩ := h
  have e1 : v = .int i := h1
  rw [e1, ints1 h2]
theorem si_r1 (h : SA P ms ms1 .bw l tl) : SI P ms ms1 (ir1 l) (iRng1 tl) := fun τ O H σ C R F n k w => by
  refine h τ O H σ C _ F (Rs.bind_ne n) (fun ds O' H' A vs e g f x q => ?_) fun x e => w x (Rs.bind_ex e)
  have eb : ir1 l τ = rng1 ds := Rs.bind_ok e
  obtain ⟨m, rfl, c, e2⟩ := rng1_inv (eb ▸ n)
  refine ⟨m, ints1 q, by omega, by omega, k _ O' H' _ (fun _ => True) (YFn fun i => .int (0 + i)) (eb.trans e2) g (f.ctx fun a z => .inl z) ?_ (fun _ _ _ => trivial) ?_⟩
  · rw [rngD_len]
    exact walk_range
  · rintro k O2 H2 v H3 hk g2 ⟨rfl, rfl⟩
    rw [rngD_len] at hk
    exact ⟨_, rngD_get hk, .none, rfl⟩
theorem si_r2 (h : SA P ms ms1 .bw l tl) : SI P ms ms1 (ir2 l) (iRng2 tl) := fun τ O H σ C R F n k w => by
  refine h τ O H σ C _ F (Rs.bind_ne n) (fun ds O' H' A vs e g f x q => ?_) fun x e => w x (Rs.bind_ex e)
  have eb : ir2 l τ = rng2 ds := Rs.bind_ok e
  obtain ⟨i, j, rfl, c, e2⟩ := rng2_inv (eb ▸ n)
  refine ⟨i, j, ints2 q, by omega, k _ O' H' _ (fun _ => True) (YFn fun k => .int (i + k)) (eb.trans e2) g (f.ctx fun a z => .inl z) ?_ (fun _ _ _ => trivial) ?_⟩
  · rw [rngD_len]
    exact walk_range
  · rintro k O2 H2 v H3 hk g2 ⟨rfl, rfl⟩
    rw [rngD_len] at hk
    exact ⟨_, rngD_get hk, .none, rfl⟩
end

/-! ### defs -/
def spM (K : PySem.W.Frag) (cl : String → Option Value) (n : Nat) (md : Md) (F : List D → Rs D) : Sp := fun vs H Q E => vs.length = n ∧ ∃ ds O, Dens K O H ds vs ∧ (∀ a, O a → H a ≠ none) ∧ F ds ≠ .no ∧
  (∀ d H' A v, F ds = .ok d → Nw H H' A → VOK K md (Own.or O A) H' A d v → Q v H') ∧
  (∀ x H' cls dd, F ds = .ex x → Nw H H' O0 → XOK K cl H' x cls dd → E cls dd H')
def ms0 (n N : Nat) : Ms := List.replicate n (some .fz) ++ List.replicate (N - n) none
theorem VOK.less {K : PySem.W.Frag} {md : Md} {O O' A : Own} {H : Hp} {d : D} {v : V} (h : VOK K md O H A d v) (s : ∀ a, O' a → O a) : VOK K md O' H A d v := h.mono ⟨fun _ _ z => z, fun a z => .inl (s a z)⟩
theorem fr_start {K : PySem.W.Frag} {O : Own} {H : Hp} {ds : List D} {vs : List V} {n N : Nat} {Ns : List Str} (hN : Ns.length = N) (hn : n ≤ N) (hv : vs.length = n) (q : Dens K O H ds vs) (dom : ∀ a, O a → H a ≠ none) :
    Fr K (ms0 n N) (ds ++ List.replicate (N - n) .non) O H (L2.start Ns vs) O := by
  have hd : ds.length = n := (dens_len q).symm.trans hv
  refine ⟨by unfold ms0; simp [hd], by unfold L2.start; simp [hv, hd, hN], dom, fun _ z => z, fun _ => O0, fun _ _ _ z => z.elim, fun _ _ z => z.elim, fun i md e => ?_⟩
  unfold ms0 at e
  by_cases hi : i < n
  · rw [List.getElem?_append_left (by simpa using hi)] at e
    rw [List.getElem?_replicate, if_pos hi] at e
    cases e
    obtain ⟨d, ed⟩ : ∃ d, ds[i]? = some d := ⟨ds[i]'(by omega), List.getElem?_eq_getElem (by omega)⟩
    obtain ⟨v, ev, h⟩ := dens_get' q ed
    refine ⟨d, v, by rw [List.getElem?_append_left (by omega)]; exact ed, ?_, h⟩
    unfold L2.start
    rw [List.getElem?_append_left (by rw [List.length_map, hv]; exact hi), List.getElem?_map, ev]
    rfl
  · rw [List.getElem?_append_right (by simpa using hi)] at e
    rw [List.getElem?_replicate] at e
    split at e <;> cases e
def noW (E : XK) : WX := fun cls dd _ H => E cls dd H
theorem def_run {K : PySem.W.Frag} {cl : String → Option Value} {ms' : Ms} {md : Md} {m : MS} {t : TS} {n N : Nat} {Ns : List Str} {vs : List V} {H : Hp} {Q : VK} {E : XK} (hN : Ns.length = N) (hn : n ≤ N)
    (h : SS ⟨K, cl, noW E, List.replicate N none⟩ (ms0 n N) ms' md m t) (sp : spM K cl n md (df n N m) vs H Q E) : t { nx := fun _ H' => Q .non H', rt := Q } (L2.start Ns vs) H := by
  obtain ⟨hv, ds, O, q, dom, nn, ko, kx⟩ := sp
  have hd : ds.length = n := (dens_len q).symm.trans hv
  have ef : df n N m ds = (match m (ds ++ List.replicate (N - n) .non) with
    | .rt d => .ok d
    | .nx _ => .ok .non
    | .ex x _ => .ex x
    | .no => .no) := by unfold df; rw [if_pos hd]
  refine h _ O H _ O _ (fr_start hN hn hv q dom) (fun e => nn (by rw [ef, e])) (fun τ' O' H' σ' e g f => ?_) (fun d O' H' A v e g z1 z2 z3 r => ?_) fun x τ' e O' H' σ' cls dd g f x' => ?_
  · exact ko .non H' O0 .non (by rw [ef, e]) ⟨fun a o z => g.keep a o z (Classical.em (O a) |>.elim .inr .inl), fun _ z => z.elim⟩ (by cases md <;> rfl)
  · refine ko d H' A v (by rw [ef, e]) ⟨fun a o z => g.keep a o z (Classical.em (O a) |>.elim .inr .inl), fun a z => ⟨((g.sub a (z3 a z).1).elim (fun w => ((z3 a z).2 w).elim) id), z1 a (z3 a z).1⟩⟩ (r.less fun a z => z.elim (z2 a) fun w => (z3 a w).1)
  · exact kx x H' cls dd (by rw [ef, e]) ⟨fun a o z => g.keep a o z (Classical.em (O a) |>.elim .inr .inl), fun _ z => z.elim⟩ x'
section
variable {P : Px} {ms ms1 ms2 ms3 : Ms} {md ma mb mr : Md} {l : MA} {tl : TA} {n : Nat} {F : List D → Rs D}
/-- a call whose arguments are frozen -/
theorem se_call (h : SA P ms ms1 .fz l tl) (hn : leMs ms1 P.mx = true) (ln : ∀ τ ds, l τ = .ok ds → ds.length = n) : SE P ms ms1 md (cll F l) (tCallS (spM P.K P.cl n md F) (WE P.W) tl) := fun τ O H σ C Q f nn k w => by
  refine h τ O H σ C _ f (Rs.bind_ne nn) (fun ds O1 H1 A vs e g f1 x q => ?_) fun x e => w x (Rs.bind_ex e)
  have eb : cll F l τ = F ds := Rs.bind_ok e
  rw [eb] at nn k w
  have f1' : Fr P.K ms1 τ O1 H1 σ C := f1.ctx fun a z => .inl z
  refine ⟨(dens_len q).trans (ln τ ds e), ds, O1, q, f1.dom, nn, fun d H' B v e2 nw r => ?_, fun x H' cls dd e2 nw x' => ?_⟩
  · exact k d (Own.or O1 B) H' B v e2 (g.trans nw.gr) (f1'.grow nw) (fun a z c => f1'.dom a (f1'.sub a c) (nw.new a z).1) r
  · exact w x e2 O1 H' cls dd (g.trans nw.gr0) ((f1'.nw0 nw).weak hn) x'
/-- a call whose arguments may be lent: what it hands back is all new -/
theorem se_callD (h : SA P ms ms1 .bw l tl) (hn : leMs ms1 P.mx = true) (ln : ∀ τ ds, l τ = .ok ds → ds.length = n) : SE P ms ms1 .deep (cll F l) (tCallS (spM P.K P.cl n .deep F) (WE P.W) tl) := fun τ O H σ C Q f nn k w => by
  refine h τ O H σ C _ f (Rs.bind_ne nn) (fun ds O1 H1 A vs e g f1 x q => ?_) fun x e => w x (Rs.bind_ex e)
  have eb : cll F l τ = F ds := Rs.bind_ok e
  rw [eb] at nn k w
  have f1' : Fr P.K ms1 τ O1 H1 σ C := f1.ctx fun a z => .inl z
  refine ⟨(dens_len q).trans (ln τ ds e), ds, O0, q, fun _ z => z.elim, nn, fun d H' B v e2 nw r => ?_, fun x H' cls dd e2 nw x' => ?_⟩
  · exact k d (Own.or O1 B) H' B v e2 (g.trans nw.gr) (f1'.grow nw) (fun a z c => f1'.dom a (f1'.sub a c) (nw.new a z).1) r
  · exact w x e2 O1 H' cls dd (g.trans nw.gr0) ((f1'.nw0 nw).weak hn) x'
end

/-! ### over the text: what a piece of syntax means -/
structure Wx where
  cl : String → Option Value
  W : WX
  mx : Ms
abbrev px (X : Cx) (w : Wx) : Px := ⟨X.K, w.cl, w.W, w.mx⟩
def CE (X : Cx) (w : Wx) (ms ms' : Ms) (md : Md) (e : Expr) (m : ME) : Prop := ∃ t, PE X e t ∧ SE (px X w) ms ms' md m t
def CT (X : Cx) (w : Wx) (ms ms' : Ms) (e : Expr) (m : MT) : Prop := ∃ t, PT X e t ∧ ST (px X w) ms ms' m t
def CW (X : Cx) (w : Wx) (ms ms' : Ms) (e : Expr) (m : MT) : Prop := ∃ t, PW X e t ∧ ST (px X w) ms ms' m t
def CA (X : Cx) (w : Wx) (ms ms' : Ms) (md : Md) (n : Nat) (es : List Expr) (m : MA) : Prop := es.length = n ∧ (∀ τ ds, m τ = .ok ds → ds.length = n) ∧ ∃ t, PA X es t ∧ SA (px X w) ms ms' md m t
def CG (X : Cx) (w : Wx) (ms ms' : Ms) (md : Md) (e : Expr) (m : MG) : Prop := ∃ t, PG X e t ∧ SG (px X w) ms ms' md m t
def CGs (X : Cx) (w : Wx) (ms ms' : Ms) (md : Md) (es : List Expr) (m : List MG) : Prop := m.length = es.length ∧ ∃ t, PGs X es t ∧ SGs (px X w) ms ms' md m t
def CI (X : Cx) (w : Wx) (ms ms' : Ms) (tg e : Expr) (m : MA) : Prop := ∃ t, PI X tg e t ∧ SI (px X w) ms ms' m t
def CS (X : Cx) (w : Wx) (ms ms' : Ms) (mr : Md) (s : Stmt) (m : MS) : Prop := ∃ t, PS X s t ∧ SS (px X w) ms ms' mr m t
def CSs (X : Cx) (w : Wx) (ms ms' : Ms) (mr : Md) (s : List Stmt) (m : MS) : Prop := ∃ t, PSs X s t ∧ SS (px X w) ms ms' mr m t
section
variable {X : Cx} {w : Wx} {ms ms1 ms2 ms3 : Ms} {md ma mb mr : Md} {e ea eb : Expr} {es : List Expr} {a b : ME} {x y : MT} {l : MA} {pos p2 : Pos} {n : Nat}
/-! names and constants -/
theorem ce_var (i : Nat) {x : Str} (em : ms[i]? = some (some .fz) := by rfl) (hN : X.N[i]? = some x := by rfl) (hv : Vis X.env.scope x := by first | exact Or.inl rfl | exact Or.inr (Or.inl rfl) | exact Or.inr (Or.inr rfl)) (hd : (x == ("__debug__" : Str)) = false := by decide) (hcd : (x == ("__classdict__" : Str)) = false := by decide) :
    CE X w ms ms .fz (.Name x pos) (vr i) := ⟨_, pe_var hN hv hd hcd, se_var em (.inl rfl)⟩
theorem ce_bw (i : Nat) {x : Str} (em : ms[i]? = some (some md) := by rfl) (hN : X.N[i]? = some x := by rfl) (hv : Vis X.env.scope x := by first | exact Or.inl rfl | exact Or.inr (Or.inl rfl) | exact Or.inr (Or.inr rfl)) (hd : (x == ("__debug__" : Str)) = false := by decide) (hcd : (x == ("__classdict__" : Str)) = false := by decide) :
    CE X w ms ms .bw (.Name x pos) (vr i) := ⟨_, pe_var hN hv hd hcd, se_bw em⟩
theorem ce_bo (i : Nat) {x : Str} (em : ms[i]? = some (some .own) := by rfl) (hN : X.N[i]? = some x := by rfl) (hv : Vis X.env.scope x := by first | exact Or.inl rfl | exact Or.inr (Or.inl rfl) | exact Or.inr (Or.inr rfl)) (hd : (x == ("__debug__" : Str)) = false := by decide) (hcd : (x == ("__classdict__" : Str)) = false := by decide) :
    CE X w ms ms .bo (.Name x pos) (vr i) := ⟨_, pe_var hN hv hd hcd, se_bo em⟩
theorem ce_mv (i : Nat) {x : Str} (em : ms[i]? = some (some md) := by rfl) (hN : X.N[i]? = some x := by rfl) (hv : Vis X.env.scope x := by first | exact Or.inl rfl | exact Or.inr (Or.inl rfl) | exact Or.inr (Or.inr rfl)) (hd : (x == ("__debug__" : Str)) = false := by decide) (hcd : (x == ("__classdict__" : Str)) = false := by decide) :
    CE X w ms (ms.set i none) md (.Name x pos) (vr i) := ⟨_, pe_var hN hv hd hcd, se_mv em⟩
theorem ce_int {i : Int} {j} : CE X w ms ms md (.Constant (.int i) j pos) (kc (.int i)) := ⟨_, pe_int, se_const fun _ _ _ _ => vok_int⟩
theorem ce_bl {i : Bool} {j} : CE X w ms ms md (.Constant (.bool i) j pos) (kc (.bl i)) := ⟨_, pe_bl, se_const fun _ _ _ _ => vok_bl⟩
theorem ce_non {j} : CE X w ms ms md (.Constant .none j pos) (kc .non) := ⟨_, pe_non, se_const fun _ _ _ _ => vok_non⟩
theorem ce_str {i : Str} {j} : CE X w ms ms md (.Constant (.str i) j pos) (kc (.str i)) := ⟨_, pe_str, se_const fun _ _ _ _ => vok_str⟩
/-- a name of the module that holds a number, a text -/
theorem ce_gint {x : Str} {i : Int} {u : Value} (hm : X.mg x = some u) (r : ∃ t, u = .int i t) (hg : Gl X x := by rfl) (hd : (x == ("__debug__" : Str)) = false := by decide) : CE X w ms ms md (.Name x pos) (kc (.int i)) := ⟨_, pe_glob hg hm (v := .int i) r hd, se_const fun _ _ _ _ => vok_int⟩
theorem ce_gstr {x : Str} {i : Str} {u : Value} (hm : X.mg x = some u) (r : ∃ t, u = .str i t) (hg : Gl X x := by rfl) (hd : (x == ("__debug__" : Str)) = false := by decide) : CE X w ms ms md (.Name x pos) (kc (.str i)) := ⟨_, pe_glob hg hm (v := .str i) r hd, se_const fun _ _ _ _ => vok_str⟩
/-! giving up, lending -/
theorem ce_own (h : CE X w ms ms1 .own e a) : CE X w ms ms1 .fz e a := ⟨_, h.choose_spec.1, se_give h.choose_spec.2 (.inl rfl)⟩
theorem ce_deep (h : CE X w ms ms1 .deep e a) : CE X w ms ms1 .fz e a := ⟨_, h.choose_spec.1, se_give h.choose_spec.2 (.inr rfl)⟩
theorem ce_tobw (h : CE X w ms ms1 md e a) : CE X w ms ms1 .bw e a := ⟨_, h.choose_spec.1, se_tobw h.choose_spec.2⟩
theorem ce_fzbo (h : CE X w ms ms1 .fz e a) : CE X w ms ms1 .bo e a := ⟨_, h.choose_spec.1, se_fz_bo h.choose_spec.2⟩
theorem ce_ownbo (h : CE X w ms ms1 .own e a) : CE X w ms ms1 .bo e a := ⟨_, h.choose_spec.1, se_own_bo h.choose_spec.2⟩
/-! operators -/
theorem ce_op {op : Operator} {r : R2} {f : D → D → Rs D} (ho : OpR X (binaryOp op) r) (hf : F2 X.K ma mb md f r) (hp : Pure2 f) (ha : CE X w ms ms1 ma ea a) (hb : CE X w ms1 ms2 mb eb b) : CE X w ms ms2 md (.BinOp ea op eb pos) (o2 f a b) :=
  ⟨_, pe_op ho ha.choose_spec.1 hb.choose_spec.1, se_o2 ha.choose_spec.2 hb.choose_spec.2 hf hp⟩
theorem ce_un {op : UnaryOp} {r : V → Hp → VK → Prop} {f : D → Rs D} (ho : UnR X (unaryOp op) r) (hf : F1 X.K ma md f r) (hp : Pure1 f) (ha : CE X w ms ms1 ma ea a) : CE X w ms ms1 md (.UnaryOp op ea pos) (o1 f a) :=
  ⟨_, pe_un ho ha.choose_spec.1, se_o1 ha.choose_spec.2 hf hp⟩
theorem ce_cmp {op : CmpOp} {r : R2} {f : D → D → Rs D} (ho : OpR X (compareOp op) r) (hf : F2 X.K ma mb md f r) (hp : Pure2 f) (ha : CE X w ms ms1 ma ea a) (hb : CE X w ms1 ms2 mb eb b) (hm : behindInMarks op eb = false := by first | exact nomark _ | rfl) : CE X w ms ms2 md (.Compare ea [op] [eb] pos) (o2 f a b) :=
  ⟨_, pe_cmpR ho ha.choose_spec.1 hb.choose_spec.1 hm, se_o2 ha.choose_spec.2 hb.choose_spec.2 hf hp⟩
theorem ct_cmp {op : CmpOp} {r : R2} {f : D → D → Rs D} (ho : OpR X (compareOp op) r) (hf : F2 X.K ma mb .fz f r) (hp : Pure2 f) (ha : CE X w ms ms1 ma ea a) (hb : CE X w ms1 ms2 mb eb b) (hm : behindInMarks op eb = false := by first | exact nomark _ | rfl) : CT X w ms ms2 (.Compare ea [op] [eb] pos) (tb (o2 f a b)) :=
  ⟨_, pt_cmpR ho ha.choose_spec.1 hb.choose_spec.1 hm, st_test (se_o2 ha.choose_spec.2 hb.choose_spec.2 hf hp)⟩
/-! tests -/
theorem ct_val (h : CE X w ms ms1 md e a) (he : ∀ whole, isTrue e X.env whole = (do let v ← whole; standAt e.pos; holding [v] (truthy v)) := by intro _; rfl) : CT X w ms ms1 e (tb a) := ⟨_, pt_val h.choose_spec.1 he, st_tb h.choose_spec.2⟩
theorem ct_w (h : CW X w ms ms1 e x) : CT X w ms ms1 e x := ⟨_, h.choose_spec.1.pt, h.choose_spec.2⟩
theorem cw_and1 (h : CT X w ms ms1 e x) : CW X w ms ms1 (.BoolOp .And [e] pos) x := ⟨_, pw_and1 h.choose_spec.1, h.choose_spec.2⟩
theorem cw_or1 (h : CT X w ms ms1 e x) : CW X w ms ms1 (.BoolOp .Or [e] pos) x := ⟨_, pw_or1 h.choose_spec.1, h.choose_spec.2⟩
theorem cw_and (h : CT X w ms ms1 ea x) (h2 : CW X w ms1 ms2 (.BoolOp .And (eb :: es) pos) y) (l : leMs ms1 ms2 = true := by rfl) : CW X w ms ms2 (.BoolOp .And (ea :: eb :: es) pos) (tand x y) := ⟨_, pw_and h.choose_spec.1 h2.choose_spec.1, st_and h.choose_spec.2 h2.choose_spec.2 l⟩
theorem cw_or (h : CT X w ms ms1 ea x) (h2 : CW X w ms1 ms2 (.BoolOp .Or (eb :: es) pos) y) (l : leMs ms1 ms2 = true := by rfl) : CW X w ms ms2 (.BoolOp .Or (ea :: eb :: es) pos) (tor x y) := ⟨_, pw_or h.choose_spec.1 h2.choose_spec.1, st_or h.choose_spec.2 h2.choose_spec.2 l⟩
theorem ct_not (h : CT X w ms ms1 e x) : CT X w ms ms1 (.UnaryOp .Not e pos) (tnot x) := ⟨_, pt_not h.choose_spec.1, st_not h.choose_spec.2⟩
theorem ce_and1 (h : CE X w ms ms1 md e a) : CE X w ms ms1 md (.BoolOp .And [e] pos) a := ⟨_, pe_one h.choose_spec.1, h.choose_spec.2⟩
theorem ce_or1 (h : CE X w ms ms1 md e a) : CE X w ms ms1 md (.BoolOp .Or [e] pos) a := ⟨_, pe_one h.choose_spec.1, h.choose_spec.2⟩
theorem ce_and (h : CE X w ms ms1 ma ea a) (h2 : CE X w ms1 ms2 md (.BoolOp .And (eb :: es) pos) b) (l : leMs ms1 ms2 = true := by rfl) : CE X w ms ms2 md (.BoolOp .And (ea :: eb :: es) pos) (vand a b) := ⟨_, pe_and h.choose_spec.1 h2.choose_spec.1, se_vand h.choose_spec.2 h2.choose_spec.2 l⟩
theorem ce_or (h : CE X w ms ms1 ma ea a) (h2 : CE X w ms1 ms2 md (.BoolOp .Or (eb :: es) pos) b) (l : leMs ms1 ms2 = true := by rfl) : CE X w ms ms2 md (.BoolOp .Or (ea :: eb :: es) pos) (vor a b) := ⟨_, pe_or h.choose_spec.1 h2.choose_spec.1, se_vor h.choose_spec.2 h2.choose_spec.2 l⟩
theorem ce_not (h : CE X w ms ms1 ma e a) : CE X w ms ms1 md (.UnaryOp .Not e pos) (vnot a) := ⟨_, pe_not h.choose_spec.1, se_vnot h.choose_spec.2⟩
theorem ce_ife {c : Expr} (h : CT X w ms ms1 c x) (h1 : CE X w ms1 ms2 md ea a) (h2 : CE X w ms1 ms2 md eb b) : CE X w ms ms2 md (.IfExp c ea eb pos) (ife x a b) := ⟨_, pe_ifExp h.choose_spec.1 h1.choose_spec.1 h2.choose_spec.1, se_ife h.choose_spec.2 h1.choose_spec.2 h2.choose_spec.2⟩
/-! arguments, displays -/
theorem ca_nil (h : okMd md = true := by rfl) : CA X w ms ms md 0 [] an := ⟨rfl, fun τ ds e => by cases e; rfl, _, pa_nil, sa_nil h⟩
theorem ca_cons (h1 : CE X w ms ms1 md e a) (h2 : CA X w ms1 ms2 md n es l) (h : okMd md = true := by rfl) (hs : starEach (e :: es) X.env = (false, eval e X.env) :: starEach es X.env := by rfl) : CA X w ms ms2 md (n + 1) (e :: es) (ac a l) := by
  obtain ⟨k, z, t, p, s⟩ := h2
  refine ⟨by rw [List.length_cons, k], fun τ ds e => ?_, _, pa_cons h1.choose_spec.1 p hs, sa_cons h1.choose_spec.2 s h⟩
  unfold ac at e
  cases ea : a τ with
  | no => rw [ea] at e; cases e
  | ex x => rw [ea] at e; cases e
  | ok d =>
    cases el : l τ with
    | no => rw [ea, Rs.bind_ok rfl, el] at e; cases e
    | ex x => rw [ea, Rs.bind_ok rfl, el] at e; cases e
    | ok r =>
      rw [ea, Rs.bind_ok rfl, el] at e
      cases e
      rw [List.length_cons, z τ r el]
theorem ca_give (h : CA X w ms ms1 .deep n es l) : CA X w ms ms1 .fz n es l := ⟨h.1, h.2.1, _, h.2.2.choose_spec.1, sa_give h.2.2.choose_spec.2⟩
theorem ce_tp {x1} (h : CA X w ms ms1 md n es l) (hm : okMd md = true := by rfl) : CE X w ms ms1 md (.Tuple es x1 pos) (tp l) := ⟨_, pe_tup h.2.2.choose_spec.1, se_tp h.2.2.choose_spec.2 hm⟩
theorem ce_ls (h : CA X w ms ms1 .fz n es l) : CE X w ms ms1 .own (.List es pos) (ls l) := ⟨_, pe_lst h.2.2.choose_spec.1, se_ls h.2.2.choose_spec.2 (.inl rfl)⟩
theorem ce_lsD (h : CA X w ms ms1 .deep n es l) : CE X w ms ms1 .deep (.List es pos) (ls l) := ⟨_, pe_lst h.2.2.choose_spec.1, se_ls h.2.2.choose_spec.2 (.inr rfl)⟩
/-! targets -/
theorem cg_name (i : Nat) {x : Str} (hN : X.N.Nodup) (hi : X.N[i]? = some x := by rfl) (hx : Loc X.env.scope x := by first | exact Or.inl rfl | exact Or.inr rfl) (hf : X.fn x = true ∨ X.env.scope.names.lookup x = some .local := by first | exact .inl rfl | exact .inr rfl | assumption) :
    CG X w ms (ms.set i (some md)) md (.Name x pos) (gn i) := ⟨_, pg_name hN hi hx hf, sg_name⟩
theorem cgs_nil : CGs X w ms ms md [] [] := ⟨rfl, _, pgs_nil, sgs_nil⟩
theorem cgs_cons {g : MG} {gs : List MG} (h1 : CG X w ms ms1 md e g) (h2 : CGs X w ms1 ms2 md es gs) (hs : (assignEach (e :: es) X.env).map (·.2) = assign e X.env :: (assignEach es X.env).map (·.2) := by rfl) : CGs X w ms ms2 md (e :: es) (g :: gs) := by
  obtain ⟨k, t, p, s⟩ := h2
  exact ⟨by rw [List.length_cons, List.length_cons, k], _, pgs_cons h1.choose_spec.1 p hs, sgs_cons h1.choose_spec.2 s⟩
theorem cg_tup {k : Nat} {gs : List MG} (hc : X.calm = true) (h : CGs X w ms ms1 md es gs) (hm : okMd md = true := by rfl) (hn : (assignEach es X.env).length = es.length := by rfl) (hst : (assignEach es X.env).findIdx? (·.1) = none := by rfl) : CG X w ms ms1 md (.Tuple es k pos) (gt gs) := by
  obtain ⟨z, t, p, s⟩ := h
  exact ⟨_, pg_tup hc p hn hst, sg_tup z s hm⟩
/-! statements -/
theorem css_nil : CSs X w ms ms mr [] skip := ⟨_, pss_nil, ss_skip⟩
theorem css_cons {st : Stmt} {r : List Stmt} {s u : MS} (h1 : CS X w ms ms1 mr st s) (h2 : CSs X w ms1 ms2 mr r u) : CSs X w ms ms2 mr (st :: r) (seq s u) := ⟨_, pss_cons h1.choose_spec.1 h2.choose_spec.1, ss_seq h1.choose_spec.2 h2.choose_spec.2⟩
theorem css_one {st : Stmt} {s : MS} (h1 : CS X w ms ms1 mr st s) : CSs X w ms ms1 mr [st] s := ⟨_, pss_one h1.choose_spec.1, h1.choose_spec.2⟩
theorem css_weak {st : List Stmt} {s : MS} (h1 : CSs X w ms ms1 mr st s) (l : leMs ms1 ms2 = true := by rfl) : CSs X w ms ms2 mr st s := ⟨_, h1.choose_spec.1, ss_weak h1.choose_spec.2 l⟩
theorem cs_asg {tg : Expr} {g : MG} (h : CE X w ms ms1 md e a) (hg : CG X w ms1 ms2 md tg g) (hs : swapsWithSole [tg] e pos.line X.env = pure false := by rfl) (hw : swappedStores [tg] e X.env = pure none := by rfl)
    (h1 : (assignEach [tg] X.env).map (·.2) = [assign tg X.env] := by rfl) : CS X w ms ms2 mr (.Assign [tg] e pos) (asg a g) := ⟨_, ps_asg h.choose_spec.1 hg.choose_spec.1 hs hw h1, ss_asg h.choose_spec.2 hg.choose_spec.2⟩
theorem cs_set (i : Nat) {x : Str} (hN : X.N.Nodup) (h : CE X w ms ms1 md e a) (hi : X.N[i]? = some x := by rfl) (hx : Loc X.env.scope x := by first | exact Or.inl rfl | exact Or.inr rfl) (hs : swapsWith e (some (.Name x p2)) pos.line X.env = pure false := by rfl) (hf : X.fn x = true ∨ X.env.scope.names.lookup x = some .local := by first | exact .inl rfl | exact .inr rfl | assumption) :
    CS X w ms (ms1.set i (some md)) mr (.Assign [.Name x p2] e pos) (asg a (gn i)) := ⟨_, ps_set hN hi hx h.choose_spec.1 hs hf, ss_asg h.choose_spec.2 sg_name⟩
theorem cs_if {st su : List Stmt} {s u : MS} (h : CT X w ms ms1 e x) (h1 : CSs X w ms1 ms2 mr st s) (h2 : CSs X w ms1 ms2 mr su u) : CS X w ms ms2 mr (.If e st su pos) (sif x s u) := ⟨_, ps_if h.choose_spec.1 h1.choose_spec.1 h2.choose_spec.1, ss_if h.choose_spec.2 h1.choose_spec.2 h2.choose_spec.2⟩
theorem cs_ret (h : CE X w ms ms1 mr e a) : CS X w ms ms2 mr (.Return (some e) pos) (ret a) := ⟨_, ps_ret h.choose_spec.1, ss_ret h.choose_spec.2⟩
theorem cs_retN : CS X w ms ms2 mr (.Return none pos) (ret (kc .non)) := ⟨_, ps_retN, fun τ O H σ C D F n kn kr kx => kr .non O H O0 .non rfl .refl F.dom F.sub (fun _ z => z.elim) vok_non⟩
theorem cs_expr (h : CE X w ms ms1 md e a) (hs : swapsWith e none pos.line X.env = pure false := by rfl) : CS X w ms ms1 mr (.Expr e pos) (drp a) := ⟨_, ps_expr h.choose_spec.1 hs, ss_drp h.choose_spec.2⟩
theorem cs_pass : CS X w ms ms mr (.Pass pos) skip := ⟨_, ps_pass, ss_skip⟩
/-- nothing lets an error out unseen -/
theorem cs_while {st : List Stmt} {s : MS} (hp : PassesOwn (model X.prog X.w) X.A X.env X.xe) (h : CT X w ms ms1 e x) (hb : CSs X w ms1 ms mr st s) (l : leMs ms1 ms2 = true := by rfl) : CS X w ms ms2 mr (.While e st [] pos) (whl x s) := ⟨_, ps_while hp h.choose_spec.1 hb.choose_spec.1, ss_while h.choose_spec.2 hb.choose_spec.2 l⟩
theorem cs_for {tg : Expr} {st : List Stmt} {s : MS} {g : MG} (hp : PassesOwn (model X.prog X.w) X.A X.env X.xe) (hc : X.calm = true) (hi : CI X w ms ms1 tg e l) (hg : CG X w ms1 ms2 .fz tg g) (hb : CSs X w ms2 ms3 mr st s) (le : leMs ms3 ms1 = true := by rfl) (hs : ∀ x, foldedSetIterable e X.env x = pure x := by intro _; rfl) :
    CS X w ms ms1 mr (.For tg e st [] pos) (fr l g s) := ⟨_, ps_for hp hc hi.choose_spec.1 hg.choose_spec.1 hb.choose_spec.1 hs, ss_for hi.choose_spec.2 hg.choose_spec.2 hb.choose_spec.2 le⟩
theorem ci_list {tg : Expr} (h : CE X w ms ms1 .fz e a) : CI X w ms ms1 tg e (itl a) := ⟨_, pi_list h.choose_spec.1, si_list h.choose_spec.2⟩
theorem ci_tup {tg : Expr} (h : CE X w ms ms1 .fz e a) : CI X w ms ms1 tg e (itt a) := ⟨_, pi_tup h.choose_spec.1, si_tup h.choose_spec.2⟩
theorem PI.or {tg e : Expr} {w1 w2 : TI} (h1 : PI X tg e w1) (h2 : PI X tg e w2) : PI X tg e (fun σ H R => w1 σ H R ∨ w2 σ H R) := ⟨fun pins s σ H R I h => h.elim (h1.run pins s σ H R I) (h2.run pins s σ H R I)⟩
theorem ci_seq {tg : Expr} (h : CE X w ms ms1 .fz e a) : CI X w ms ms1 tg e (its a) := ⟨_, PI.or (pi_list h.choose_spec.1) (PI.or (pi_tup h.choose_spec.1) (pi_str h.choose_spec.1)), si_seq h.choose_spec.2⟩
theorem ci_r1 {tg : Expr} (hm : X.mg "range" = none) (h : CA X w ms ms1 .bw 1 [e] l) (hg : Gl X "range" := by rfl) (hs : starEach [e] X.env = [(false, eval e X.env)] := by rfl) : CI X w ms ms1 tg (.Call (.Name "range" p2) [e] [] pos) (ir1 l) := ⟨_, pi_range1 hg hm h.2.2.choose_spec.1 hs, si_r1 h.2.2.choose_spec.2⟩
theorem ci_r2 {tg : Expr} (hm : X.mg "range" = none) (h : CA X w ms ms1 .bw 2 [ea, eb] l) (hg : Gl X "range" := by rfl) (hs : starEach [ea, eb] X.env = [(false, eval ea X.env), (false, eval eb X.env)] := by rfl) (hs2 : starEach [eb] X.env = [(false, eval eb X.env)] := by rfl) : CI X w ms ms1 tg (.Call (.Name "range" p2) [ea, eb] [] pos) (ir2 l) := ⟨_, pi_range2 hg hm h.2.2.choose_spec.1 hs hs2, si_r2 h.2.2.choose_spec.2⟩
theorem cs_par (i j : Nat) {x y : Str} {px py pt pt2 : Pos} {kt k2} (hc : X.calm = true) (hN : X.N.Nodup) (h1 : CE X w ms ms1 .fz ea a) (h2 : CE X w ms1 ms2 .fz eb b) (hi : X.N[i]? = some x := by rfl) (hj : X.N[j]? = some y := by rfl) (hij : i ≠ j := by decide)
    (hx : X.env.scope.names.lookup x = some .local := by rfl) (hy : X.env.scope.names.lookup y = some .local := by rfl)
    (h3 : starEach [ea, eb] X.env = (false, eval ea X.env) :: starEach [eb] X.env := by rfl) (h4 : starEach [eb] X.env = (false, eval eb X.env) :: starEach [] X.env := by rfl)
    (hw : swappedStores [.Tuple [.Name x px, .Name y py] kt pt] (.Tuple [ea, eb] k2 pt2) X.env = pure (some [x, y]) := by rfl)
    (hs : swapsWithSole [.Tuple [.Name x px, .Name y py] kt pt] (.Tuple [ea, eb] k2 pt2) pos.line X.env = pure false := by rfl) :
    CS X w ms ((ms2.set i (some .fz)).set j (some .fz)) mr (.Assign [.Tuple [.Name x px, .Name y py] kt pt] (.Tuple [ea, eb] k2 pt2) pos) (par i j a b) :=
  ⟨_, ps_par hc hN hi hj hij hx hy (pa_cons h1.choose_spec.1 (pa_cons h2.choose_spec.1 pa_nil h4) h3) hw hs, ss_par h1.choose_spec.2 h2.choose_spec.2⟩
/-! ### calls -/
/-- f at the module's name x keeps its promise -/
structure Kept (X : Cx) (x : Str) (k n : Nat) (f : Addr) (fd : FuncData) (ps : List Str) (sp : Sp) : Prop where
  ok : FnOk X.prog X.w X.K X.mg X.base (L2.CX X.prog X.w) k f fd ps sp
  at' : X.mg x = some (.ref f)
  kp : PySem.W.keepIn X.K (.ref f) = true
  b : Binds X.K fd ps []
theorem ce_call {x : Str} {k : Nat} {f : Addr} {fd : FuncData} {ps : List Str} {F : List D → Rs D} (c : Kept X x k (n + 1) f fd ps (spM X.K w.cl (n + 1) md F)) (hr : Room k X.A) (tk : Takes X w.W) (h : CA X w ms ms1 .fz (n + 1) (e :: es) l) (hn : leMs ms1 w.mx = true := by rfl)
    (hg : Gl X x := by rfl) (hdb : (x == ("__debug__" : Str)) = false := by decide) (he : starEach (e :: es) X.env = (false, eval e X.env) :: starEach es X.env := by rfl) (hpl : (backTo pos (starEach es X.env)).any (·.1) = false := by rfl) :
    CE X w ms ms1 md (.Call (.Name x p2) (e :: es) [] pos) (cll F l) := ⟨_, pe_callS (E := WE w.W) c.ok hr hg c.at' c.kp c.b (fun σ => passAt tk σ) h.2.2.choose_spec.1 hdb he hpl, se_call (P := px X w) h.2.2.choose_spec.2 hn h.2.1⟩
theorem ce_callD {x : Str} {k : Nat} {f : Addr} {fd : FuncData} {ps : List Str} {F : List D → Rs D} (c : Kept X x k (n + 1) f fd ps (spM X.K w.cl (n + 1) .deep F)) (hr : Room k X.A) (tk : Takes X w.W) (h : CA X w ms ms1 .bw (n + 1) (e :: es) l) (hn : leMs ms1 w.mx = true := by rfl)
    (hg : Gl X x := by rfl) (hdb : (x == ("__debug__" : Str)) = false := by decide) (he : starEach (e :: es) X.env = (false, eval e X.env) :: starEach es X.env := by rfl) (hpl : (backTo pos (starEach es X.env)).any (·.1) = false := by rfl) :
    CE X w ms ms1 .deep (.Call (.Name x p2) (e :: es) [] pos) (cll F l) := ⟨_, pe_callS (E := WE w.W) c.ok hr hg c.at' c.kp c.b (fun σ => passAt tk σ) h.2.2.choose_spec.1 hdb he hpl, se_callD (P := px X w) h.2.2.choose_spec.2 hn h.2.1⟩
end
/-- a def: its body's meaning is what it is worth -/
theorem def_ok {P : Program} {w : World} {K : PySem.W.Frag} {mg : Str → Option Value} {base : Heap} {x qual : Str} {st : Stmt} {f : Addr} {fd : FuncData} {N ps : List Str} {k : Nat} {cl : String → Option Value} {md : Md} {m : MS} (F : Fun K x qual st f fd) (S : FnScope N ps (defScope st)) (hl : ps.length ≤ N.length)
    (hbody : ∀ (cdv : Value) (A : Around) (outer : List Env) (s : Shared) (H : Hp) (E : XK), Room k (A.deeper (envOfC qual (defScope st) s.heap.objs.size f cdv)) →
      ∃ ms', CSs (cxOf (L2.CX P w) P w K mg base N qual (defScope st) f cdv A outer s H E) ⟨cl, noW E, List.replicate N.length none⟩ (ms0 ps.length N.length) ms' md (defBody st) m) :
    FnOk P w K mg base (L2.CX P w) (k + 1) f fd ps (spM K cl ps.length md (df ps.length N.length m)) := by
  refine F.okX S (fun vs H Q E h => h.1) (fun cdv A outer s H vs Q E hr h => ?_)
  obtain ⟨ms', t, p, ss⟩ := hbody cdv A outer s H E hr
  exact ⟨t, p, def_run rfl hl ss h⟩

/-- * of two factors of together less than a hundred million bits -/
def CMulX (i j : Int) : Prop := i.natAbs.log2 + j.natAbs.log2 < 100000000
theorem CMulX.ok {i j : Int} (h : CMulX i j) : IntMulOk i j := by
  have b : ∀ x : Int, Builtin.Int.intBits x ≤ x.natAbs.log2 + 1 := fun x => by
    unfold Builtin.Int.intBits
    split <;> omega
  have h1 := b i
  have h2 := b j
  have h3 : i.natAbs.log2 + j.natAbs.log2 < 100000000 := h
  have e : bitsLine = 134217728 := by decide
  unfold IntMulOk
  intro z
  rw [Bool.and_eq_true] at z
  have z2 := z.2
  unfold Builtin.Int.intTooBig at z2
  have z3 := of_decide_eq_true z2
  rw [e] at z3
  omega
theorem op_mulX {X : Cx} : OpR X (binaryOp .Mult) (rI CMulX fun i j => .int (i * j)) := opI fun _ _ _ _ _ _ _ hc q => mul_int q hc.ok
/-! ### operations on data -/
def iI (C : Int → Int → Bool) (g : Int → Int → D) : D → D → Rs D
  | .int i, .int j => if C i j then .ok (g i j) else .no
  | _, _ => .no
def aD : D → D → Rs D := iI (fun _ _ => true) fun i j => .int (i + j)
def sD : D → D → Rs D := iI (fun _ _ => true) fun i j => .int (i - j)
def mD : D → D → Rs D := iI (fun i j => decide (i.natAbs.log2 + j.natAbs.log2 < 100000000)) fun i j => .int (i * j)
def qD : D → D → Rs D := iI (fun i j => decide (0 < j ∧ j.natAbs.log2 < 9000)) fun i j => .int (i / j)
def rD : D → D → Rs D := iI (fun _ j => decide (0 < j)) fun i j => .int (i % j)
def pD : D → D → Rs D := iI (fun i j => decide (0 ≤ j ∧ j ≤ 1000000 ∧ i.natAbs < 2 ^ 64)) fun i j => .int (i ^ j.toNat)
def ltD : D → D → Rs D := iI (fun _ _ => true) fun i j => .bl (decide (i < j))
def leD : D → D → Rs D := iI (fun _ _ => true) fun i j => .bl (decide (i ≤ j))
def gtD : D → D → Rs D := iI (fun _ _ => true) fun i j => .bl (decide (j < i))
def geD : D → D → Rs D := iI (fun _ _ => true) fun i j => .bl (decide (j ≤ i))
def negD : D → Rs D
  | .int i => .ok (.int (-i))
  | _ => .no
/-- == of what is no list, no tuple -/
def eqS : D → D → Rs Bool
  | .int i, .int j => .ok (decide (i = j))
  | .str i, .str j => .ok (decide (i = j))
  | .bl i, .bl j => .ok (decide (i = j))
  | .non, .non => .ok true
  | .non, .int _ => .ok false | .int _, .non => .ok false | .non, .bl _ => .ok false | .bl _, .non => .ok false | .non, .str _ => .ok false | .str _, .non => .ok false
  | .int _, .str _ => .ok false | .str _, .int _ => .ok false | .bl _, .str _ => .ok false | .str _, .bl _ => .ok false
  | _, _ => .no
mutual
/-- == of data -/
def eqX : D → D → Bool
  | .non, .non => true
  | .bl a, .bl b => a == b
  | .bl a, .int j => (if a then 1 else 0) == j
  | .int i, .bl b => i == (if b then 1 else 0)
  | .int i, .int j => i == j
  | .str x, .str y => x == y
  | .lst l, .lst k => eqXs l k
  | .tup l, .tup k => eqXs l k
  | .non, .bl _ => false | .non, .int _ => false | .non, .str _ => false | .non, .lst _ => false | .non, .tup _ => false
  | .bl _, .non => false | .bl _, .str _ => false | .bl _, .lst _ => false | .bl _, .tup _ => false
  | .int _, .non => false | .int _, .str _ => false | .int _, .lst _ => false | .int _, .tup _ => false
  | .str _, .non => false | .str _, .bl _ => false | .str _, .int _ => false | .str _, .lst _ => false | .str _, .tup _ => false
  | .lst _, .non => false | .lst _, .bl _ => false | .lst _, .int _ => false | .lst _, .str _ => false | .lst _, .tup _ => false
  | .tup _, .non => false | .tup _, .bl _ => false | .tup _, .int _ => false | .tup _, .str _ => false | .tup _, .lst _ => false
  | .dct _ _, _ => false | .exc _ _, _ => false | .scr _, _ => false
  | _, .dct _ _ => false | _, .exc _ _ => false | _, .scr _ => false
def eqXs : List D → List D → Bool
  | [], [] => true
  | x :: l, y :: k => eqX x y && eqXs l k
  | [], _ :: _ => false
  | _ :: _, [] => false
end
mutual
def toP : D → PyData
  | .non => .none
  | .bl b => .bool b
  | .int i => .int i
  | .str x => .str x
  | .lst l => .list (toPs l)
  | .tup l => .tuple (toPs l)
  | .dct _ _ => .none
  | .exc _ _ => .none
  | .scr _ => .none
def toPs : List D → List PyData
  | [] => []
  | d :: l => toP d :: toPs l
end
mutual
/-- data of numbers, texts, lists and tuples, its depth below n -/
def pu : Nat → D → Bool
  | _, .non => true
  | _, .bl _ => true
  | _, .int _ => true
  | _, .str x => PyData.strOk x
  | 0, .lst _ => false
  | 0, .tup _ => false
  | n + 1, .lst l => pus n l
  | n + 1, .tup l => pus n l
  | _, .dct _ _ => false
  | _, .exc _ _ => false
  | _, .scr _ => false
def pus : Nat → List D → Bool
  | _, [] => true
  | n, d :: l => pu n d && pus n l
end
def eqG (x y : D) : Rs Bool := match eqS x y with
  | .ok b => .ok b
  | _ => if pu 60 x && pu 60 y then .ok (eqX x y) else .no
def eqD : D → D → Rs D := fun x y => (eqG x y).bind fun b => .ok (.bl b)
def neD : D → D → Rs D := fun x y => (eqG x y).bind fun b => .ok (.bl (!b))
def isnB : D → Bool
  | .non => true
  | _ => false
def isND : D → D → Rs D
  | x, .non => .ok (.bl (isnB x))
  | _, _ => .no
def noND : D → D → Rs D
  | x, .non => .ok (.bl (!isnB x))
  | _, _ => .no
/-- x[i] -/
def ixD : D → D → Rs D
  | .lst l, .int i => (match atI l i with | some d => .ok d | none => .no)
  | .tup l, .int i => (match atI l i with | some d => .ok d | none => .no)
  | .scr l, .int i => (match atI l i with | some d => .ok d | none => .no)
  | .str z, .int i => if z.length ≤ 1000000 then (match atI z.cps.toList i with | some c => .ok (.str ⟨#[c]⟩) | none => .no) else .no
  | _, _ => .no
section
variable {K : PySem.W.Frag} {md ma mb : Md} {O A : Own} {H : Hp} {x : V}
theorem vok_int' {i : Int} : VOK K md O H A (.int i) x ↔ x = .int i := by cases md <;> exact Iff.rfl
theorem vok_bl' {i : Bool} : VOK K md O H A (.bl i) x ↔ x = .bl i := by cases md <;> exact Iff.rfl
theorem vok_str' {i : Str} : VOK K md O H A (.str i) x ↔ x = .str i := by cases md <;> exact Iff.rfl
theorem vok_non' : VOK K md O H A .non x ↔ x = .non := by cases md <;> exact Iff.rfl
theorem iI_inv {C : Int → Int → Bool} {g : Int → Int → D} {x y : D} (h : ∃ d, iI C g x y = .ok d) : ∃ i j, x = .int i ∧ y = .int j ∧ C i j = true ∧ iI C g x y = .ok (g i j) := by
  obtain ⟨d, h⟩ := h
  unfold iI at h
  split at h
  · split at h
    · rename_i i j c
      exact ⟨i, j, rfl, rfl, c, by
        show (if C i j = true then Rs.ok (g i j) else Rs.no) = _
        rw [if_pos c]⟩
    · cases h
  · cases h
theorem iI_pure {C : Int → Int → Bool} {g : Int → Int → D} : Pure2 (iI C g) := fun x y e h => by
  unfold iI at h
  split at h
  · split at h <;> cases h
  · cases h
theorem f2_I {C : Int → Int → Bool} {C' : Int → Int → Prop} {g : Int → Int → Int} (hC : ∀ i j, C i j = true → C' i j) : F2 K ma mb md (iI C fun i j => .int (g i j)) (rI C' fun i j => .int (g i j)) := fun O H A B x y dx dy Q _ h1 h2 k e => by
  obtain ⟨i, j, rfl, rfl, c, e⟩ := iI_inv e
  exact ⟨i, j, vok_int'.mp h1, vok_int'.mp h2, hC i j c, k _ H O0 _ e .none vok_int⟩
theorem f2_I0 {C : Int → Int → Bool} {g : Int → Int → Int} : F2 K ma mb md (iI C fun i j => .int (g i j)) (rI0 fun i j => .int (g i j)) := fun O H A B x y dx dy Q _ h1 h2 k e => by
  obtain ⟨i, j, rfl, rfl, c, e⟩ := iI_inv e
  exact ⟨i, j, vok_int'.mp h1, vok_int'.mp h2, k _ H O0 _ e .none vok_int⟩
theorem f2_B0 {C : Int → Int → Bool} {g : Int → Int → Bool} : F2 K ma mb md (iI C fun i j => .bl (g i j)) (rI0 fun i j => .bl (g i j)) := fun O H A B x y dx dy Q _ h1 h2 k e => by
  obtain ⟨i, j, rfl, rfl, c, e⟩ := iI_inv e
  exact ⟨i, j, vok_int'.mp h1, vok_int'.mp h2, k _ H O0 _ e .none vok_bl⟩
theorem f1_neg : F1 K ma md negD (rU fun i => .int (-i)) := fun O H A x dx Q _ h k e => by
  cases dx with
  | int i => exact ⟨i, vok_int'.mp h, k _ H O0 _ rfl .none vok_int⟩
  | _ =>
    obtain ⟨d, e⟩ := e
    cases e
theorem neg_pure : Pure1 negD := fun x e h => by
  cases x <;> cases h
/-- the value of what is no list, no tuple -/
def toV : D → Option V
  | .non => some .non
  | .bl b => some (.bl b)
  | .int i => some (.int i)
  | .str s => some (.str s)
  | _ => none
theorem toV_of {d : D} {v : V} (e : toV d = some v) (h : VOK K md O H A d x) : x = v := by
  cases d with
  | non => cases e; exact vok_non'.mp h
  | bl b => cases e; exact vok_bl'.mp h
  | int i => cases e; exact vok_int'.mp h
  | str s => cases e; exact vok_str'.mp h
  | _ => cases e
theorem eqS_inv {x y : D} {b : Bool} (h : eqS x y = .ok b) : ∃ u v, toV x = some u ∧ toV y = some v ∧ scal u v = true ∧ decide (u = v) = b := by
  unfold eqS at h
  split at h <;> first | (injection h with h; subst h; exact ⟨_, _, rfl, rfl, rfl, by simp⟩) | (exfalso; revert h; exact fun h => nomatch h)
mutual
theorem den_P {O : Own} : ∀ (n : Nat) (d : D) (v : V), pu n d = true → Den K O H d v → L2.Dp K H v (toP d)
  | _, .non, v, _, h => by
    have e : v = .non := h
    subst e
    exact .non
  | _, .bl _, v, _, h => by
    have e : v = .bl _ := h
    subst e
    exact .bl _
  | _, .int _, v, _, h => by
    have e : v = .int _ := h
    subst e
    exact .int _
  | _, .str _, v, _, h => by
    have e : v = .str _ := h
    subst e
    exact .str _
  | 0, .lst l, v, p, h => nomatch p
  | 0, .tup l, v, p, h => nomatch p
  | n + 1, .lst l, v, p, h => by
    obtain ⟨q, vs, rfl, s, r⟩ := h
    exact .lst s.sq (dens_P n l vs p r)
  | n + 1, .tup l, v, p, h => by
    obtain ⟨q, vs, rfl, s, r⟩ := h
    exact .tup s (dens_P n l vs p r)
  | _, .dct _ _, v, p, h => h.elim
  | _, .exc _ _, v, p, h => h.elim
  | 0, .scr _, v, p, h => nomatch p
  | n + 1, .scr _, v, p, h => nomatch p
theorem dens_P {O : Own} : ∀ (n : Nat) (l : List D) (vs : List V), pus n l = true → Dens K O H l vs → L2.DpAll K H vs (toPs l)
  | _, [], vs, _, h => by
    have e : vs = [] := h
    subst e
    exact .nil
  | n, d :: l, vs, p, h => by
    obtain ⟨v, r, rfl, h1, h2⟩ := h
    have p' : (pu n d && pus n l) = true := p
    rw [Bool.and_eq_true] at p'
    exact .cons (den_P n d v p'.1 h1) (dens_P n l r p'.2 h2)
end
mutual
theorem pu_lay : ∀ (n : Nat) (d : D), pu n d = true → (toP d).canLay0 = true ∧ (toP d).depth ≤ n
  | n, .non, p => ⟨rfl, Nat.zero_le n⟩
  | n, .bl _, p => ⟨rfl, Nat.zero_le n⟩
  | n, .int _, p => ⟨rfl, Nat.zero_le n⟩
  | n, .str x, p => ⟨p, Nat.zero_le n⟩
  | 0, .lst l, p => nomatch p
  | 0, .tup l, p => nomatch p
  | n + 1, .lst l, p => by
    have h := pus_lay n l p
    exact ⟨h.1, Nat.succ_le_succ h.2⟩
  | n + 1, .tup l, p => by
    have h := pus_lay n l p
    exact ⟨h.1, Nat.succ_le_succ h.2⟩
  | n, .dct _ _, p => nomatch n, p
  | n, .exc _ _, p => nomatch n, p
  | n, .scr _, p => nomatch n, p
theorem pus_lay : ∀ (n : Nat) (l : List D), pus n l = true → PyData.canLayAll0 (toPs l) = true ∧ PyData.depthAll (toPs l) ≤ n
  | n, [], _ => ⟨rfl, Nat.zero_le n⟩
  | n, d :: l, p => by
    have p' : (pu n d && pus n l) = true := p
    rw [Bool.and_eq_true] at p'
    have h1 := pu_lay n d p'.1
    have h2 := pus_lay n l p'.2
    refine ⟨?_, Nat.max_le.mpr ⟨h1.2, h2.2⟩⟩
    show ((toP d).canLay0 && PyData.canLayAll0 (toPs l)) = true
    rw [h1.1, h2.1] <;> rfl
end
theorem pu_shaped {d : D} (p : pu 60 d = true) : SeqAt.shaped (toP d) = true := by
  have h := pu_lay 60 d p
  unfold SeqAt.shaped
  rw [h.1, decide_eq_true (Nat.le_trans h.2 (by decide))] <;> rfl
mutual
theorem eqX_P : ∀ (n : Nat) (x y : D), pu n x = true → pu n y = true → PyData.eqv (toP x) (toP y) = eqX x y
  | n, .non, y, _, q => by cases y <;> first | rfl | (cases n <;> exact nomatch q)
  | n, .bl _, y, _, q => by cases y <;> first | rfl | (cases n <;> exact nomatch q)
  | n, .int _, y, _, q => by cases y <;> first | rfl | (cases n <;> exact nomatch q)
  | n, .str _, y, _, q => by cases y <;> first | rfl | (cases n <;> exact nomatch q)
  | 0, .lst l, y, p, q => nomatch p
  | 0, .tup l, y, p, q => nomatch p
  | n + 1, .lst l, y, p, q => by
    cases y with
    | lst k => exact eqXs_P n l k p q
    | dct _ _ => exact nomatch q
    | exc _ _ => exact nomatch q
    | scr _ => exact nomatch q
    | _ => rfl
  | n + 1, .tup l, y, p, q => by
    cases y with
    | tup k => exact eqXs_P n l k p q
    | dct _ _ => exact nomatch q
    | exc _ _ => exact nomatch q
    | scr _ => exact nomatch q
    | _ => rfl
  | n, .dct _ _, y, p, q => by cases n <;> exact nomatch p
  | n, .exc _ _, y, p, q => by cases n <;> exact nomatch p
  | n, .scr _, y, p, q => by cases n <;> exact nomatch p
theorem eqXs_P : ∀ (n : Nat) (l k : List D), pus n l = true → pus n k = true → PyData.eqvAll (toPs l) (toPs k) = eqXs l k
  | n, [], k, _, _ => by cases k <;> rfl
  | n, d :: l, [], _, _ => rfl
  | n, d :: l, e :: k, p, q => by
    have p' : (pu n d && pus n l) = true := p
    have q' : (pu n e && pus n k) = true := q
    rw [Bool.and_eq_true] at p' q'
    show (PyData.eqv (toP d) (toP e) && PyData.eqvAll (toPs l) (toPs k)) = (eqX d e && eqXs l k)
    rw [eqX_P n d e p'.1 q'.1, eqXs_P n l k p'.2 q'.2]
end
theorem eqG_inv {x y : D} {b : Bool} (h : eqG x y = .ok b) : eqS x y = .ok b ∨ (pu 60 x = true ∧ pu 60 y = true ∧ b = eqX x y) := by
  unfold eqG at h
  split at h
  · rename_i b' e
    cases h
    exact .inl e
  · split at h
    · rename_i c
      cases h
      rw [Bool.and_eq_true] at c
      exact .inr ⟨c.1, c.2, rfl⟩
    · cases h
theorem eqD_inv {x y : D} {f : Bool → D} (h : ∃ d, ((eqG x y).bind fun b => Rs.ok (f b)) = .ok d) : ∃ b, eqG x y = .ok b := by
  obtain ⟨d, h⟩ := h
  cases q : eqG x y with
  | no => rw [q] at h; cases h
  | ex z => rw [q] at h; cases h
  | ok b => exact ⟨b, rfl⟩
def rEqG (K : PySem.W.Frag) : R2 := fun x y H Q => rEq x y H Q ∨ rEqD K x y H Q
def rNeG (K : PySem.W.Frag) : R2 := fun x y H Q => rNe x y H Q ∨ rNeD K x y H Q
theorem f2_eq : F2 K ma mb md eqD (rEqG K) := fun O H A B x y dx dy Q _ h1 h2 k e => by
  obtain ⟨b, e⟩ := eqD_inv (f := .bl) e
  have kk := k (.bl b) H O0 _ (Rs.bind_ok e) .none vok_bl
  rcases eqG_inv e with e | ⟨p, q, rfl⟩
  · obtain ⟨u, v, e1, e2, s, r⟩ := eqS_inv e
    have a1 := toV_of e1 h1
    have a2 := toV_of e2 h2
    subst a1
    subst a2
    refine .inl ⟨s, ?_⟩
    rw [r]
    exact kk
  · refine .inr ⟨_, _, den_P 60 dx x p h1.bw, den_P 60 dy y q h2.bw, pu_shaped p, pu_shaped q, ?_⟩
    rw [eqX_P 60 dx dy p q]
    exact kk
theorem f2_ne : F2 K ma mb md neD (rNeG K) := fun O H A B x y dx dy Q _ h1 h2 k e => by
  obtain ⟨b, e⟩ := eqD_inv (f := fun b => .bl (!b)) e
  have kk := k (.bl (!b)) H O0 _ (Rs.bind_ok e) .none vok_bl
  rcases eqG_inv e with e | ⟨p, q, rfl⟩
  · obtain ⟨u, v, e1, e2, s, r⟩ := eqS_inv e
    have a1 := toV_of e1 h1
    have a2 := toV_of e2 h2
    subst a1
    subst a2
    refine .inl ⟨s, ?_⟩
    rw [r]
    exact kk
  · refine .inr ⟨_, _, den_P 60 dx x p h1.bw, den_P 60 dy y q h2.bw, pu_shaped p, pu_shaped q, ?_⟩
    rw [eqX_P 60 dx dy p q]
    exact kk
theorem eq_pure {f : Bool → D} : Pure2 fun x y => (eqG x y).bind fun b => .ok (f b) := fun x y e h => by
  replace h : ((eqG x y).bind fun b => Rs.ok (f b)) = .ex e := h
  cases q : eqG x y with
  | no => rw [q] at h; cases h
  | ex z =>
    unfold eqG at q
    split at q
    · cases q
    · split at q <;> cases q
  | ok b => rw [q] at h; cases h
theorem den_non {d : D} (h : Den K O H d .non) : d = .non := by
  cases d with
  | non => rfl
  | bl b => cases (show V.non = .bl b from h)
  | int b => cases (show V.non = .int b from h)
  | str b => cases (show V.non = .str b from h)
  | tup l => obtain ⟨p, vs, e, _⟩ := h; cases e
  | lst l => obtain ⟨p, vs, e, _⟩ := h; cases e
  | scr l => obtain ⟨p, vs, e, _⟩ := h; cases e
  | dct ks vs => exact h.elim
  | exc n a => exact h.elim
theorem isn_dec {d : D} (h : VOK K md O H A d x) : decide (x = .non) = isnB d := by
  by_cases e : x = .non
  · have h2 : Den K O0 H d .non := e ▸ h.bw
    have h3 := den_non h2
    subst h3
    exact decide_eq_true e
  · rw [decide_eq_false e]
    cases d with
    | non => exact (e (vok_non'.mp h)).elim
    | _ => rfl
def rIsN : R2 := fun x y H Q => y = .non ∧ Q (.bl (decide (x = .non))) H
def rNoN : R2 := fun x y H Q => y = .non ∧ Q (.bl (!decide (x = .non))) H
theorem f2_isN : F2 K ma mb md isND rIsN := fun O H A B x y dx dy Q _ h1 h2 k e => by
  cases dy with
  | non =>
    refine ⟨vok_non'.mp h2, ?_⟩
    rw [isn_dec h1]
    exact k (.bl _) H O0 _ rfl .none vok_bl
  | _ => obtain ⟨d, e⟩ := e; cases e
theorem f2_noN : F2 K ma mb md noND rNoN := fun O H A B x y dx dy Q _ h1 h2 k e => by
  cases dy with
  | non =>
    refine ⟨vok_non'.mp h2, ?_⟩
    rw [isn_dec h1]
    exact k (.bl _) H O0 _ rfl .none vok_bl
  | _ => obtain ⟨d, e⟩ := e; cases e
theorem isN_pure : Pure2 isND := fun x y e h => by cases y <;> cases h
theorem noN_pure : Pure2 noND := fun x y e h => by cases y <;> cases h
theorem at_len {α β : Type} {xs : List α} {ys : List β} {i : Int} {a : α} (hl : ys.length = xs.length) (h : atI xs i = some a) : ∃ k : Nat, xs[k]? = some a ∧ ∀ b, ys[k]? = some b → atI ys i = some b := by
  unfold atI at h
  cases q : ixN xs.length i with
  | none => rw [q] at h; cases h
  | some k =>
    rw [q] at h
    exact ⟨k, h, fun b hb => by unfold atI; rw [hl, q]; exact hb⟩
theorem ix_pure : Pure2 ixD := fun x y e h => by
  unfold ixD at h
  split at h
  · split at h <;> cases h
  · split at h <;> cases h
  · split at h <;> cases h
  · split at h
    · split at h <;> cases h
    · cases h
  · cases h
/-- what an item of a readable thing is -/
def mdIx : Md → Md
  | .fz => .fz
  | .bo => .fz
  | .own => .fz
  | _ => .bw
theorem f2_ix (hm : ma ≠ .deep) : F2 K ma mb (mdIx ma) ixD (rIx K) := fun O H A B x y dx dy Q _ h1 h2 k e => by
  have mkQ : ∀ d, ixD dx dy = .ok d → ∀ v, VOK K (mdIx ma) O H O0 d v → Q v H := fun d e v h => k d H O0 v e .none (h.mono ⟨fun _ _ z => z, fun a z => z.elim .inl fun q => q.elim⟩)
  cases dx with
  | str z =>
    cases dy with
    | int i =>
      obtain ⟨d, e⟩ := e
      have e0 := e
      unfold ixD at e
      dsimp only at e
      split at e
      · rename_i hz
        split at e
        · rename_i c hc
          cases e
          exact .inr (.inr ⟨z, i, c, vok_str'.mp h1, vok_int'.mp h2, Nat.le_trans hz (by decide), hc, mkQ _ e0 _ vok_str⟩)
        · cases e
      · cases e
    | _ => obtain ⟨d, e⟩ := e; cases e
  | lst l =>
    cases dy with
    | int i =>
      obtain ⟨d, e⟩ := e
      have e0 := e
      unfold ixD at e
      dsimp only at e
      split at e
      · rename_i d' hd
        cases e
        have get : ∃ p vs, x = .ref p ∧ SqL K H p vs ∧ ∃ O1, Dens K O1 H l vs ∧ ∀ d v, Den K O1 H d v → VOK K (mdIx ma) O H O0 d v := by
          cases ma with
          | fz => obtain ⟨p, vs, e, s, q⟩ := h1; exact ⟨p, vs, e, s.sq, O, q, fun d v h => h⟩
          | bw => obtain ⟨p, vs, e, s, q⟩ := h1; exact ⟨p, vs, e, s.sq, O0, q, fun d v h => h⟩
          | own => obtain ⟨p, vs, e, s, _, q⟩ := h1; exact ⟨p, vs, e, .of s, O, q, fun d v h => h⟩
          | bo => obtain ⟨p, vs, e, s, q⟩ := h1; exact ⟨p, vs, e, .of s, O, q, fun d v h => h⟩
          | deep => exact (hm rfl).elim
        obtain ⟨p, vs, rfl, s, O1, q, conv⟩ := get
        obtain ⟨k', e1, e2⟩ := at_len (dens_len q) hd
        obtain ⟨v, ev, hv⟩ := dens_get' q e1
        exact .inl ⟨p, vs, i, v, rfl, vok_int'.mp h2, s, e2 v ev, mkQ _ e0 v (conv _ _ hv)⟩
      · cases e
    | _ => obtain ⟨d, e⟩ := e; cases e
  | tup l =>
    cases dy with
    | int i =>
      obtain ⟨d, e⟩ := e
      have e0 := e
      unfold ixD at e
      dsimp only at e
      split at e
      · rename_i d' hd
        cases e
        have get : ∃ p vs, x = .ref p ∧ SqT K H p vs ∧ ∃ O1, Dens K O1 H l vs ∧ ∀ d v, Den K O1 H d v → VOK K (mdIx ma) O H O0 d v := by
          cases ma with
          | fz => obtain ⟨p, vs, e, s, q⟩ := h1; exact ⟨p, vs, e, s, O, q, fun d v h => h⟩
          | bw => obtain ⟨p, vs, e, s, q⟩ := h1; exact ⟨p, vs, e, s, O0, q, fun d v h => h⟩
          | own => obtain ⟨p, vs, e, s, q⟩ := h1; exact ⟨p, vs, e, s, O, q, fun d v h => h⟩
          | bo => obtain ⟨p, vs, e, s, q⟩ := h1; exact ⟨p, vs, e, s, O, q, fun d v h => h⟩
          | deep => exact (hm rfl).elim
        obtain ⟨p, vs, rfl, s, O1, q, conv⟩ := get
        obtain ⟨k', e1, e2⟩ := at_len (dens_len q) hd
        obtain ⟨v, ev, hv⟩ := dens_get' q e1
        exact .inr (.inl ⟨p, vs, i, v, rfl, vok_int'.mp h2, s, e2 v ev, mkQ _ e0 v (conv _ _ hv)⟩)
      · cases e
    | _ => obtain ⟨d, e⟩ := e; cases e
  | scr l =>
    cases dy with
    | int i =>
      obtain ⟨d, e⟩ := e
      have e0 := e
      unfold ixD at e
      dsimp only at e
      split at e
      · rename_i d' hd
        cases e
        have get : ∃ p vs, x = .ref p ∧ SqL K H p vs ∧ ∃ O1, Dens K O1 H l vs ∧ ∀ d v, Den K O1 H d v → VOK K (mdIx ma) O H O0 d v := by
          cases ma with
          | fz => obtain ⟨p, vs, e, s, q⟩ := h1; exact ⟨p, vs, e, s.sq, O, q, fun d v h => h⟩
          | bw => obtain ⟨p, vs, e, s, q⟩ := h1; exact ⟨p, vs, e, s.sq, O0, q, fun d v h => h⟩
          | own => obtain ⟨p, vs, e, s, q⟩ := h1; exact ⟨p, vs, e, s.sq, O, q, fun d v h => h⟩
          | bo => obtain ⟨p, vs, e, s, q⟩ := h1; exact ⟨p, vs, e, s.sq, O, q, fun d v h => h⟩
          | deep => exact (hm rfl).elim
        obtain ⟨p, vs, rfl, s, O1, q, conv⟩ := get
        obtain ⟨k', e1, e2⟩ := at_len (dens_len q) hd
        obtain ⟨v, ev, hv⟩ := dens_get' q e1
        exact .inl ⟨p, vs, i, v, rfl, vok_int'.mp h2, s, e2 v ev, mkQ _ e0 v (conv _ _ hv)⟩
      · cases e
    | _ => obtain ⟨d, e⟩ := e; cases e
  | _ => obtain ⟨d, e⟩ := e; cases dy <;> cases e
end
section
variable {X : Cx} {w : Wx} {ms ms1 ms2 ms3 : Ms} {md ma mb mr : Md} {e ea eb : Expr} {es : List Expr} {a b : ME} {l : MA} {pos p2 p3 : Pos} {n : Nat}
theorem ce_add (ha : CE X w ms ms1 ma ea a) (hb : CE X w ms1 ms2 mb eb b) : CE X w ms ms2 md (.BinOp ea .Add eb pos) (o2 aD a b) := ce_op op_add f2_I0 iI_pure ha hb
theorem ce_sub (ha : CE X w ms ms1 ma ea a) (hb : CE X w ms1 ms2 mb eb b) : CE X w ms ms2 md (.BinOp ea .Sub eb pos) (o2 sD a b) := ce_op op_sub f2_I0 iI_pure ha hb
theorem ce_mul (ha : CE X w ms ms1 ma ea a) (hb : CE X w ms1 ms2 mb eb b) : CE X w ms ms2 md (.BinOp ea .Mult eb pos) (o2 mD a b) := ce_op op_mulX (f2_I (C' := CMulX) fun i j h => (of_decide_eq_true h : i.natAbs.log2 + j.natAbs.log2 < 100000000)) iI_pure ha hb
theorem ce_div (ha : CE X w ms ms1 ma ea a) (hb : CE X w ms1 ms2 mb eb b) : CE X w ms ms2 md (.BinOp ea .FloorDiv eb pos) (o2 qD a b) := ce_op op_fdivW (f2_I (C' := CDivW) fun i j h => (of_decide_eq_true h : 0 < j ∧ j.natAbs.log2 < 9000)) iI_pure ha hb
theorem ce_mod (ha : CE X w ms ms1 ma ea a) (hb : CE X w ms1 ms2 mb eb b) : CE X w ms ms2 md (.BinOp ea .Mod eb pos) (o2 rD a b) := ce_op op_mod (f2_I (C' := fun _ j => 0 < j) fun i j h => (of_decide_eq_true h : 0 < j)) iI_pure ha hb
theorem ce_pow (ha : CE X w ms ms1 ma ea a) (hb : CE X w ms1 ms2 mb eb b) : CE X w ms ms2 md (.BinOp ea .Pow eb pos) (o2 pD a b) := ce_op op_pow (f2_I (C' := CPow) fun i j h => (of_decide_eq_true h : 0 ≤ j ∧ j ≤ 1000000 ∧ i.natAbs < 2 ^ 64)) iI_pure ha hb
theorem ce_neg (ha : CE X w ms ms1 ma ea a) : CE X w ms ms1 md (.UnaryOp .USub ea pos) (o1 negD a) := ce_un un_neg f1_neg neg_pure ha
theorem ce_lt (ha : CE X w ms ms1 ma ea a) (hb : CE X w ms1 ms2 mb eb b) : CE X w ms ms2 md (.Compare ea [.Lt] [eb] pos) (o2 ltD a b) := ce_cmp op_lt f2_B0 iI_pure ha hb
theorem ce_le (ha : CE X w ms ms1 ma ea a) (hb : CE X w ms1 ms2 mb eb b) : CE X w ms ms2 md (.Compare ea [.LtE] [eb] pos) (o2 leD a b) := ce_cmp op_le f2_B0 iI_pure ha hb
theorem ce_gt (ha : CE X w ms ms1 ma ea a) (hb : CE X w ms1 ms2 mb eb b) : CE X w ms ms2 md (.Compare ea [.Gt] [eb] pos) (o2 gtD a b) := ce_cmp op_gt f2_B0 iI_pure ha hb
theorem ce_ge (ha : CE X w ms ms1 ma ea a) (hb : CE X w ms1 ms2 mb eb b) : CE X w ms ms2 md (.Compare ea [.GtE] [eb] pos) (o2 geD a b) := ce_cmp op_ge f2_B0 iI_pure ha hb
theorem ce_eq {j : Nat} (hr : Room j X.A) (ha : CE X w ms ms1 ma ea a) (hb : CE X w ms1 ms2 mb eb b) : CE X w ms ms2 md (.Compare ea [.Eq] [eb] pos) (o2 eqD a b) := ce_cmp (op_eq.or (op_eqD hr.units)) f2_eq eq_pure ha hb
theorem ce_ne {j : Nat} (hr : Room j X.A) (ha : CE X w ms ms1 ma ea a) (hb : CE X w ms1 ms2 mb eb b) : CE X w ms ms2 md (.Compare ea [.NotEq] [eb] pos) (o2 neD a b) := ce_cmp (op_ne.or (op_neD hr.units)) f2_ne eq_pure ha hb
theorem ce_isN (ha : CE X w ms ms1 ma ea a) (hb : CE X w ms1 ms2 mb eb b) : CE X w ms ms2 md (.Compare ea [.Is] [eb] pos) (o2 isND a b) := ce_cmp op_isN f2_isN isN_pure ha hb
theorem ce_noN (ha : CE X w ms ms1 ma ea a) (hb : CE X w ms1 ms2 mb eb b) : CE X w ms ms2 md (.Compare ea [.IsNot] [eb] pos) (o2 noND a b) := ce_cmp op_notN f2_noN noN_pure ha hb
/-! comparisons as tests -/
theorem ct_lt (ha : CE X w ms ms1 ma ea a) (hb : CE X w ms1 ms2 mb eb b) : CT X w ms ms2 (.Compare ea [.Lt] [eb] pos) (tb (o2 ltD a b)) := ct_cmp op_lt f2_B0 iI_pure ha hb
theorem ct_le (ha : CE X w ms ms1 ma ea a) (hb : CE X w ms1 ms2 mb eb b) : CT X w ms ms2 (.Compare ea [.LtE] [eb] pos) (tb (o2 leD a b)) := ct_cmp op_le f2_B0 iI_pure ha hb
theorem ct_gt (ha : CE X w ms ms1 ma ea a) (hb : CE X w ms1 ms2 mb eb b) : CT X w ms ms2 (.Compare ea [.Gt] [eb] pos) (tb (o2 gtD a b)) := ct_cmp op_gt f2_B0 iI_pure ha hb
theorem ct_ge (ha : CE X w ms ms1 ma ea a) (hb : CE X w ms1 ms2 mb eb b) : CT X w ms ms2 (.Compare ea [.GtE] [eb] pos) (tb (o2 geD a b)) := ct_cmp op_ge f2_B0 iI_pure ha hb
theorem ct_eq {j : Nat} (hr : Room j X.A) (ha : CE X w ms ms1 ma ea a) (hb : CE X w ms1 ms2 mb eb b) : CT X w ms ms2 (.Compare ea [.Eq] [eb] pos) (tb (o2 eqD a b)) := ct_cmp (op_eq.or (op_eqD hr.units)) f2_eq eq_pure ha hb
theorem ct_ne {j : Nat} (hr : Room j X.A) (ha : CE X w ms ms1 ma ea a) (hb : CE X w ms1 ms2 mb eb b) : CT X w ms ms2 (.Compare ea [.NotEq] [eb] pos) (tb (o2 neD a b)) := ct_cmp (op_ne.or (op_neD hr.units)) f2_ne eq_pure ha hb
theorem ct_isN (ha : CE X w ms ms1 ma ea a) (hb : CE X w ms1 ms2 mb eb b) : CT X w ms ms2 (.Compare ea [.Is] [eb] pos) (tb (o2 isND a b)) := ct_cmp op_isN f2_isN isN_pure ha hb
theorem ct_noN (ha : CE X w ms ms1 ma ea a) (hb : CE X w ms1 ms2 mb eb b) : CT X w ms ms2 (.Compare ea [.IsNot] [eb] pos) (tb (o2 noND a b)) := ct_cmp op_notN f2_noN noN_pure ha hb
theorem ce_ix (hm : ma ≠ .deep) (ha : CE X w ms ms1 ma ea a) (hb : CE X w ms1 ms2 mb eb b) (hs : PlainIx eb := by exact fun _ _ => rfl) : CE X w ms ms2 (mdIx ma) (.Subscript ea eb pos) (o2 ixD a b) := ⟨_, pe_ix ix_seq ha.choose_spec.1 hb.choose_spec.1 hs, se_o2 ha.choose_spec.2 hb.choose_spec.2 (f2_ix hm) ix_pure⟩
end

/-! ### built-in functions -/
def FC (K : PySem.W.Frag) (ma md : Md) (f : List D → Rs D) (r : List V → Hp → VK → Prop) : Prop := ∀ O H A xs ds (Q : VK), (∀ a, O a → H a ≠ none) → VOKs K ma O H A ds xs →
  (∀ d H' B v, f ds = .ok d → Nw H H' B → VOK K md (Own.or O B) H' B d v → Q v H') → (∃ d, f ds = .ok d) → r xs H Q
def PureL (f : List D → Rs D) : Prop := ∀ x e, f x ≠ .ex e
theorem se_cb {P : Px} {ms ms1 : Ms} {ma md : Md} {l : MA} {tl : TA} {f : List D → Rs D} {r : List V → Hp → VK → Prop} (h : SA P ms ms1 ma l tl) (hr : FC P.K ma md f r) (hp : PureL f) : SE P ms ms1 md (cll f l) (tCB r tl) := fun τ O H σ C Q F n k w => by
  refine h τ O H σ C _ F (Rs.bind_ne n) (fun ds O' H' A vs e g f' x q => ?_) fun x e => w x (Rs.bind_ex e)
  have eb : cll f l τ = f ds := Rs.bind_ok e
  refine hr O' H' A vs ds Q f'.dom q (fun d2 H2 B v2 e2 n2 q2 => ?_) (ok_of (eb ▸ n) (hp ds))
  exact k d2 _ H2 B v2 (eb.trans e2) (g.trans n2.gr) ((f'.ctx fun a z => .inl z).grow n2) (fun a z q => f'.dom a (f'.sub a (.inl q)) (n2.new a z).1) q2
def lenD : List D → Rs D
  | [.lst l] => .ok (.int l.length)
  | [.tup l] => .ok (.int l.length)
  | [.scr l] => .ok (.int l.length)
  | [.str z] => if z.length ≤ 1000000 then .ok (.int z.length) else .no
  | _ => .no
def absD : List D → Rs D
  | [.int i] => .ok (.int (if i < 0 then -i else i))
  | _ => .no
def max2D : List D → Rs D
  | [.int i, .int j] => .ok (.int (if j > i then j else i))
  | _ => .no
def min2D : List D → Rs D
  | [.int i, .int j] => .ok (.int (if j < i then j else i))
  | _ => .no
def intD : List D → Rs D
  | [.int i] => .ok (.int i)
  | [.bl b] => .ok (.int (if b then 1 else 0))
  | _ => .no
/-- the name of a thing's type -/
def tyD : D → Option String
  | .non => some "NoneType"
  | .bl _ => some "bool"
  | .int _ => some "int"
  | .str _ => some "str"
  | .tup _ => some "tuple"
  | .lst _ => some "list"
  | .dct _ _ => some "dict"
  | .exc _ _ => none
  | .scr _ => some "list"
def isB (T : String) (a : String) : Bool := a == T || (a == "bool" && T == "int")
def isC (T : String) : Bool := ["NoneType", "bool", "int", "str", "tuple", "list", "dict"].all fun a => decide (L2.kitB a T = some (isB T a))
def isTD (T : String) : D → Rs D := fun d => match tyD d with
  | some a => .ok (.bl (isB T a))
  | none => .no
section
variable {K : PySem.W.Frag} {md ma mb : Md} {O A : Own} {H : Hp} {x : V}
theorem voks1 {d : D} {xs : List V} (h : VOKs K ma O H A [d] xs) : ∃ x, xs = [x] ∧ VOK K .bw O H A d x := by
  obtain ⟨v, r, A1, A2, e, _, l1, _, h1, h2⟩ := voks_cons_inv h
  have e2 : r = [] := List.eq_nil_of_length_eq_zero (voks_len h2)
  exact ⟨v, by rw [e, e2], (h1.bw)⟩
theorem voks2 {d d' : D} {xs : List V} (h : VOKs K ma O H A [d, d'] xs) : ∃ x y, xs = [x, y] ∧ VOK K .bw O H A d x ∧ VOK K .bw O H A d' y := by
  obtain ⟨v, r, A1, A2, e, _, l1, _, h1, h2⟩ := voks_cons_inv h
  obtain ⟨y, e2, h3⟩ := voks1 h2
  exact ⟨v, y, by rw [e, e2], h1.bw, h3⟩
theorem fc_ret {f : List D → Rs D} {ds : List D} {Q : VK} {d : D} {v : V} (k : ∀ d H' B v, f ds = .ok d → Nw H H' B → VOK K md (Own.or O B) H' B d v → Q v H') (e : f ds = .ok d) (h : ∀ O A, VOK K md O H A d v) : Q v H := k d H O0 v e .none (h _ _)
theorem fc_abs : FC K ma md absD (fun xs H Q => ∃ i, xs = [.int i] ∧ Q (.int (if i < 0 then -i else i)) H) := fun O H A xs ds Q _ h k e => by
  obtain ⟨d, e⟩ := e
  have e0 := e
  unfold absD at e
  split at e
  · obtain ⟨x, rfl, hx⟩ := voks1 h
    cases e
    exact ⟨_, by rw [vok_int'.mp hx], fc_ret k e0 fun _ _ => vok_int⟩
  · cases e
theorem fc_max2 : FC K ma md max2D (fun xs H Q => ∃ i j, xs = [.int i, .int j] ∧ Q (.int (if j > i then j else i)) H) := fun O H A xs ds Q _ h k e => by
  obtain ⟨d, e⟩ := e
  have e0 := e
  unfold max2D at e
  split at e
  · obtain ⟨x, y, rfl, hx, hy⟩ := voks2 h
    cases e
    exact ⟨_, _, by rw [vok_int'.mp hx, vok_int'.mp hy], fc_ret k e0 fun _ _ => vok_int⟩
  · cases e
theorem fc_min2 : FC K ma md min2D (fun xs H Q => ∃ i j, xs = [.int i, .int j] ∧ Q (.int (if j < i then j else i)) H) := fun O H A xs ds Q _ h k e => by
  obtain ⟨d, e⟩ := e
  have e0 := e
  unfold min2D at e
  split at e
  · obtain ⟨x, y, rfl, hx, hy⟩ := voks2 h
    cases e
    exact ⟨_, _, by rw [vok_int'.mp hx, vok_int'.mp hy], fc_ret k e0 fun _ _ => vok_int⟩
  · cases e
theorem fc_int : FC K ma md intD (fun xs H Q => (∃ i, xs = [.int i] ∧ Q (.int i) H) ∨ ∃ k, xs = [.bl k] ∧ Q (.int (if k then 1 else 0)) H) := fun O H A xs ds Q _ h k e => by
  obtain ⟨d, e⟩ := e
  have e0 := e
  unfold intD at e
  split at e
  · obtain ⟨x, rfl, hx⟩ := voks1 h
    cases e
    exact .inl ⟨_, by rw [vok_int'.mp hx], fc_ret k e0 fun _ _ => vok_int⟩
  · obtain ⟨x, rfl, hx⟩ := voks1 h
    cases e
    exact .inr ⟨_, by rw [vok_bl'.mp hx], fc_ret k e0 fun _ _ => vok_int⟩
  · cases e
def rLen (K : PySem.W.Frag) : List V → Hp → VK → Prop := fun xs H Q => (∃ p ys, xs = [.ref p] ∧ (SqL K H p ys ∨ SqT K H p ys) ∧ Q (.int ys.length) H) ∨ (∃ z : Str, xs = [.str z] ∧ z.length ≤ sizeLine ∧ Q (.int z.length) H)
theorem fc_len : FC K ma md lenD (rLen K) := fun O H A xs ds Q _ h k e => by
  obtain ⟨d, e⟩ := e
  have e0 := e
  unfold lenD at e
  split at e
  · obtain ⟨x, rfl, hx⟩ := voks1 h
    obtain ⟨p, vs, rfl, s, q⟩ := hx
    cases e
    refine .inl ⟨p, vs, rfl, .inl s.sq, ?_⟩
    rw [dens_len q]
    exact fc_ret k e0 fun _ _ => vok_int
  · obtain ⟨x, rfl, hx⟩ := voks1 h
    obtain ⟨p, vs, rfl, s, q⟩ := hx
    cases e
    refine .inl ⟨p, vs, rfl, .inr s, ?_⟩
    rw [dens_len q]
    exact fc_ret k e0 fun _ _ => vok_int
  · obtain ⟨x, rfl, hx⟩ := voks1 h
    obtain ⟨p, vs, rfl, s, q⟩ := hx
    cases e
    refine .inl ⟨p, vs, rfl, .inl s.sq, ?_⟩
    rw [dens_len q]
    exact fc_ret k e0 fun _ _ => vok_int
  · obtain ⟨x, rfl, hx⟩ := voks1 h
    split at e
    · rename_i hz
      cases e
      exact .inr ⟨_, by rw [vok_str'.mp hx], Nat.le_trans hz (by decide), fc_ret k e0 fun _ _ => vok_int⟩
    · cases e
  · cases e
theorem abs_pure : PureL absD := fun x e h => by unfold absD at h; split at h <;> cases h
theorem max2_pure : PureL max2D := fun x e h => by unfold max2D at h; split at h <;> cases h
theorem min2_pure : PureL min2D := fun x e h => by unfold min2D at h; split at h <;> cases h
theorem int_pure : PureL intD := fun x e h => by unfold intD at h; split at h <;> cases h
theorem len_pure : PureL lenD := fun x e h => by
  unfold lenD at h
  split at h
  · cases h
  · cases h
  · cases h
  · split at h <;> cases h
  · cases h
theorem ty_of {d : D} {a : String} (h : Den K O0 H d x) (e : tyD d = some a) : L2.TyX K H x (.type a) := by
  cases d with
  | non => cases e; cases (show x = .non from h); exact .base .non
  | bl b => cases e; cases (show x = .bl b from h); exact .base (.bl _)
  | int b => cases e; cases (show x = .int b from h); exact .base (.int _)
  | str b => cases e; cases (show x = .str b from h); exact .base (.str _)
  | tup l =>
    cases e
    obtain ⟨p, vs, rfl, s, _⟩ := h
    rcases s with (s | ⟨o, s⟩) | ⟨o, its, n, s, c, _⟩
    · exact .base (.tup s)
    · exact .fTuple s
    · exact .kTuple s c
  | lst l =>
    cases e
    obtain ⟨p, vs, rfl, s, _⟩ := h
    exact .base (.lst s.1)
  | scr l =>
    cases e
    obtain ⟨p, vs, rfl, s, _⟩ := h
    rcases s with ⟨o, s⟩ | ⟨o, its, n, s, c, _⟩
    · exact .base (.frz s)
    · exact .kList s c
  | dct ks vs => exact h.elim
  | exc n a => cases e
theorem isC_get {T a : String} {d : D} (h : isC T = true) (e : tyD d = some a) : L2.kitB a T = some (isB T a) := by
  have h2 := List.all_eq_true.mp h a (by cases d <;> cases e <;> simp)
  exact of_decide_eq_true h2
theorem se_isT {P : Px} {ms ms1 : Ms} {a : ME} {ta : TE} {T : String} (h : SE P ms ms1 ma a ta) (hT : isC T = true) : SE P ms ms1 md (o1 (isTD T) a) (tCB (L2.rIsi P.K) (tCons ta (tCons (tC (.ty T)) tNil))) := fun τ O H σ C Q F n k w => by
  refine h τ O H σ C _ F (Rs.bind_ne n) (fun d O' H' A v e g f x q => ?_) fun x e => w x (Rs.bind_ex e)
  have eb : o1 (isTD T) a τ = isTD T d := Rs.bind_ok e
  have hb : Den P.K O0 H' d v := q.bw
  cases ed : tyD d with
  | none => exact (n (eb.trans (by unfold isTD; rw [ed]))).elim
  | some t =>
    have e2 : isTD T d = .ok (.bl (isB T t)) := by unfold isTD; rw [ed]
    exact ⟨v, .ty T, .type t, .type T, isB T t, rfl, .ty T, ty_of hb ed, L2.kit_ty (isC_get hT ed), k (.bl (isB T t)) O' H' O0 _ (eb.trans e2) g (f.ctx fun a z => .inl (or_none a z)) (fun _ z => z.elim) vok_bl⟩
end
section
variable {X : Cx} {w : Wx} {ms ms1 ms2 ms3 : Ms} {md ma mb mr : Md} {e ea eb : Expr} {es : List Expr} {a b : ME} {l : MA} {pos p2 p3 : Pos} {n : Nat}
theorem ce_cb {x : Str} {id : String} {f : List D → Rs D} {r : List V → Hp → VK → Prop} (hc : CallR X (.builtin id) r) (hf : FC X.K ma md f r) (hp : PureL f) (hm : X.mg x = none) (hv : bootBuiltins x = some (.builtin id)) (h : CA X w ms ms1 ma n (e :: es) l) (hg : Gl X x := by rfl)
    (hn : x ≠ "__name__" := by decide) (hdb : (x == ("__debug__" : Str)) = false := by decide) (he : starEach (e :: es) X.env = (false, eval e X.env) :: starEach es X.env := by rfl) (hpl : (backTo pos (starEach es X.env)).any (·.1) = false := by rfl) : CE X w ms ms1 md (.Call (.Name x p2) (e :: es) [] pos) (cll f l) :=
  ⟨_, pe_callB hc hg hm hv h.2.2.choose_spec.1 hn hdb he hpl, se_cb h.2.2.choose_spec.2 hf hp⟩
theorem ce_ct {x : Str} {T : String} {f : List D → Rs D} {r : List V → Hp → VK → Prop} (hc : CallR X (.type T) r) (hf : FC X.K ma md f r) (hp : PureL f) (hm : X.mg x = none) (hv : bootBuiltins x = some (.type T)) (h : CA X w ms ms1 ma n (e :: es) l) (hg : Gl X x := by rfl)
    (hn : x ≠ "__name__" := by decide) (hdb : (x == ("__debug__" : Str)) = false := by decide) (he : starEach (e :: es) X.env = (false, eval e X.env) :: starEach es X.env := by rfl) (hpl : (backTo pos (starEach es X.env)).any (·.1) = false := by rfl) : CE X w ms ms1 md (.Call (.Name x p2) (e :: es) [] pos) (cll f l) :=
  ⟨_, pe_callTy hc hg hm hv h.2.2.choose_spec.1 hn hdb he hpl, se_cb h.2.2.choose_spec.2 hf hp⟩
theorem ce_len (hm : X.mg "len" = none) (h : CA X w ms ms1 .bw 1 [e] l) (hg : Gl X "len" := by rfl) (he : starEach [e] X.env = (false, eval e X.env) :: starEach [] X.env := by rfl) (hpl : (backTo pos (starEach [] X.env)).any (·.1) = false := by rfl) : CE X w ms ms1 md (.Call (.Name "len" p2) [e] [] pos) (cll lenD l) :=
  ce_cb (call_len_seq.or call_len_str) (fc_len (ma := .bw)) len_pure hm (by decide +kernel) h hg (by decide) (by decide) he hpl
theorem ce_abs (hm : X.mg "abs" = none) (h : CA X w ms ms1 .bw 1 [e] l) (hg : Gl X "abs" := by rfl) (he : starEach [e] X.env = (false, eval e X.env) :: starEach [] X.env := by rfl) (hpl : (backTo pos (starEach [] X.env)).any (·.1) = false := by rfl) : CE X w ms ms1 md (.Call (.Name "abs" p2) [e] [] pos) (cll absD l) :=
  ce_cb call_abs (fc_abs (ma := .bw)) abs_pure hm (by decide +kernel) h hg (by decide) (by decide) he hpl
theorem ce_int1 (hm : X.mg "int" = none) (h : CA X w ms ms1 .bw 1 [e] l) (hg : Gl X "int" := by rfl) (he : starEach [e] X.env = (false, eval e X.env) :: starEach [] X.env := by rfl) (hpl : (backTo pos (starEach [] X.env)).any (·.1) = false := by rfl) : CE X w ms ms1 md (.Call (.Name "int" p2) [e] [] pos) (cll intD l) :=
  ce_ct call_int1 (fc_int (ma := .bw)) int_pure hm (by decide +kernel) h hg (by decide) (by decide) he hpl
theorem ce_max2 (hc : X.calm = true) (hm : X.mg "max" = none) (h : CA X w ms ms1 .bw 2 [ea, eb] l) (hg : Gl X "max" := by rfl) (he : starEach [ea, eb] X.env = (false, eval ea X.env) :: starEach [eb] X.env := by rfl) (hpl : (backTo pos (starEach [eb] X.env)).any (·.1) = false := by rfl) : CE X w ms ms1 md (.Call (.Name "max" p2) [ea, eb] [] pos) (cll max2D l) :=
  ce_cb (call_max2 hc) (fc_max2 (ma := .bw)) max2_pure hm (by decide +kernel) h hg (by decide) (by decide) he hpl
theorem ce_min2 (hc : X.calm = true) (hm : X.mg "min" = none) (h : CA X w ms ms1 .bw 2 [ea, eb] l) (hg : Gl X "min" := by rfl) (he : starEach [ea, eb] X.env = (false, eval ea X.env) :: starEach [eb] X.env := by rfl) (hpl : (backTo pos (starEach [eb] X.env)).any (·.1) = false := by rfl) : CE X w ms ms1 md (.Call (.Name "min" p2) [ea, eb] [] pos) (cll min2D l) :=
  ce_cb (call_min2 hc) (fc_min2 (ma := .bw)) min2_pure hm (by decide +kernel) h hg (by decide) (by decide) he hpl
/-- isinstance(x, T) -/
theorem ce_isT {T : Str} {t : String} (hm : X.mg "isinstance" = none) (hm2 : X.mg T = none) (h : CE X w ms ms1 ma e a) (hT : isC t = true := by decide +kernel) (hv : bootBuiltins T = some (.type t) := by decide +kernel) (hg : Gl X "isinstance" := by rfl) (hg2 : Gl X T := by rfl)
    (hn2 : T ≠ "__name__" := by decide) (hd2 : (T == ("__debug__" : Str)) = false := by decide) (h1 : starEach [e, .Name T p3] X.env = (false, eval e X.env) :: starEach [.Name T p3] X.env := by rfl) (h2 : starEach [.Name T p3] X.env = (false, eval (.Name T p3) X.env) :: starEach [] X.env := by rfl) (hpl : (backTo pos (starEach [.Name T p3] X.env)).any (·.1) = false := by rfl) :
    CE X w ms ms1 md (.Call (.Name "isinstance" p2) [e, .Name T p3] [] pos) (o1 (isTD t) a) :=
  ⟨_, pe_callB L2.call_isi hg hm (by decide +kernel) (pa_cons h.choose_spec.1 (pa_cons (pe_bltn (v := .ty t) hg2 hm2 hv rfl hn2 hd2) pa_nil h2) h1) (by decide) (by decide) h1 hpl, se_isT h.choose_spec.2 hT⟩
end

/-! ### giving up without a word of the text -/
section
variable {P : Px} {ms ms1 ms2 : Ms} {md mr : Md} {a : ME} {t : TE}
theorem Fr.frz {K : PySem.W.Frag} {τ : Ts} {O C : Own} {H : Hp} {σ : L2.St} (f : Fr K ms τ O H σ C) {i : Nat} (e : ms[i]? = some (some md)) (z : md = .own ∨ md = .deep) : ∃ O', (∀ a, O' a → O a) ∧ Fr K (ms.set i (some .fz)) τ O' H σ C := by
  obtain ⟨A, a1, a2, a3⟩ := f.slots
  refine ⟨Own.minus O (A i), fun a z => z.1, by rw [List.length_set]; exact f.lm, f.ls, fun a z => f.dom a z.1, fun a z => ⟨f.sub a z, fun q => (a2 i a q).2 z⟩, fun j a => j ≠ i ∧ A j a, fun j j' a z z' => a1 j j' a z.2 z'.2, fun j a z => ⟨⟨(a2 j a z.2).1, fun q => z.1 (a1 j i a z.2 q)⟩, (a2 j a z.2).2⟩, fun j md' ej => ?_⟩
  by_cases h1 : j = i
  · subst h1
    rw [List.getElem?_set_self (List.getElem?_eq_some_iff.mp e).1] at ej
    cases ej
    obtain ⟨d, v, e1, e2, h⟩ := a3 j md e
    refine ⟨d, v, e1, e2, ?_⟩
    rcases z with rfl | rfl
    · exact h.fz_own
    · exact h.fz_deep
  · rw [List.getElem?_set_ne (Ne.symm h1)] at ej
    obtain ⟨d, v, e1, e2, h⟩ := a3 j md' ej
    exact ⟨d, v, e1, e2, (h.less fun a z => z.1).over fun a z => ⟨h1, z⟩⟩
/-- one's own read and given up in its place -/
theorem se_frz {i : Nat} (e : ms[i]? = some (some md)) (z : md = .own ∨ md = .deep) : SE P ms (ms.set i (some .fz)) .fz (vr i) (tVar i) := fun τ O H σ C Q f _ k _ => by
  obtain ⟨O', s, f'⟩ := f.frz e z
  obtain ⟨d, v, A, e1, e2, h⟩ := f'.get (i := i) (md := .fz) (by rw [List.getElem?_set_self (List.getElem?_eq_some_iff.mp e).1])
  exact ⟨v, e2, k d O' H O0 v (by unfold vr; rw [e1]) ⟨fun _ _ z => z, fun a z => .inl (s a z)⟩ (f'.ctx or_none) (fun _ z => z.elim) h⟩
theorem GrS.give {C O O1 O2 : Own} {H H1 : Hp} (g : GrS C O H O1 H1) (s : ∀ a, O2 a → O1 a) : GrS C O H O2 H1 := ⟨g.keep, g.tups, g.frzs, fun a z => g.sub a (s a z)⟩
theorem ss_frz {s : MS} {u : TS} {i : Nat} (h : SS P ms ms1 mr s u) (e : ms1[i]? = some (some md)) (z : md = .own ∨ md = .deep) : SS P ms (ms1.set i (some .fz)) mr s u := fun τ O H σ C D F n kn kr kx =>
  h τ O H σ C D F n (fun τ' O' H' σ' e' g f => by
    obtain ⟨O2, s2, f2⟩ := f.frz e z
    exact kn τ' O2 H' σ' e' (g.give s2) f2) kr kx
theorem ss_frz0 {s : MS} {u : TS} {i : Nat} (h : SS P (ms.set i (some .fz)) ms1 mr s u) (e : ms[i]? = some (some md)) (z : md = .own ∨ md = .deep) : SS P ms ms1 mr s u := fun τ O H σ C D F n kn kr kx => by
  obtain ⟨O2, s2, f2⟩ := F.frz e z
  have gr : GrS C O H O2 H := GrS.refl.give s2
  exact h τ O2 H σ C D f2 n (fun τ' O' H' σ' e' g f => kn τ' O' H' σ' e' (gr.trans g) f) (fun d O' H' A v e' g z1 z2 z3 q => kr d O' H' A v e' (gr.trans g) z1 z2 z3 q) fun x τ' e' => (kx x τ' e').up gr
/-! what holds no list is all modes -/
mutual
def imm : D → Bool
  | .non => true
  | .bl _ => true
  | .int _ => true
  | .str _ => true
  | .tup l => imms l
  | _ => false
def imms : List D → Bool
  | [] => true
  | d :: l => imm d && imms l
end
mutual
theorem imm_dp {K : PySem.W.Frag} {O : Own} {H : Hp} : ∀ (d : D) (v : V) (A : Own), imm d = true → Den K O H d v → Dp K H d v A
  | .non, v, A, _, h => h
  | .bl _, v, A, _, h => h
  | .int _, v, A, _, h => h
  | .str _, v, A, _, h => h
  | .tup l, v, A, i, h => by
    obtain ⟨p, vs, e, s, q⟩ := h
    exact ⟨p, vs, e, s, imms_dps l vs A i q⟩
  | .lst _, v, A, i, h => nomatch i
  | .dct _ _, v, A, i, h => nomatch i
  | .exc _ _, v, A, i, h => nomatch i
  | .scr _, v, A, i, h => nomatch i
theorem imms_dps {K : PySem.W.Frag} {O : Own} {H : Hp} : ∀ (l : List D) (vs : List V) (A : Own), imms l = true → Dens K O H l vs → Dps K H l vs A
  | [], vs, A, _, h => h
  | d :: l, vs, A, i, h => by
    obtain ⟨v, r, e, h1, h2⟩ := h
    have i1 := ((Bool.and_eq_true _ _).mp i).1
    have i2 := ((Bool.and_eq_true _ _).mp i).2
    exact ⟨v, r, O0, O0, e, fun _ z => z.elim, fun _ z => z.elim, fun _ z => z.elim, imm_dp d v O0 i1 h1, imms_dps l r O0 i2 h2⟩
end
mutual
theorem imm_den {K : PySem.W.Frag} {O O' : Own} {H : Hp} : ∀ (d : D) (v : V), imm d = true → Den K O H d v → Den K O' H d v
  | .non, v, _, h => h
  | .bl _, v, _, h => h
  | .int _, v, _, h => h
  | .str _, v, _, h => h
  | .tup l, v, i, h => by
    obtain ⟨p, vs, e, s, q⟩ := h
    exact ⟨p, vs, e, s, imms_dens l vs i q⟩
  | .lst _, v, i, h => nomatch i
  | .dct _ _, v, i, h => nomatch i
  | .exc _ _, v, i, h => nomatch i
  | .scr _, v, i, h => nomatch i
theorem imms_dens {K : PySem.W.Frag} {O O' : Own} {H : Hp} : ∀ (l : List D) (vs : List V), imms l = true → Dens K O H l vs → Dens K O' H l vs
  | [], vs, _, h => h
  | d :: l, vs, i, h => by
    obtain ⟨v, r, e, h1, h2⟩ := h
    have i1 := ((Bool.and_eq_true _ _).mp i).1
    have i2 := ((Bool.and_eq_true _ _).mp i).2
    exact ⟨v, r, e, imm_den d v i1 h1, imms_dens l r i2 h2⟩
end
theorem vok_imm {K : PySem.W.Frag} {m1 m2 : Md} {O O' A A' : Own} {H : Hp} {d : D} {v : V} (i : imm d = true) (h : VOK K m1 O H A d v) : VOK K m2 O' H A' d v := by
  have h0 : Den K O0 H d v := h.bw
  cases m2 with
  | fz => exact imm_den d v i h0
  | bw => exact h0
  | deep => exact imm_dp d v A' i h0
  | own =>
    cases d with
    | lst l => cases i
    | _ => exact imm_den (O := O0) (O' := O') _ v i h0
  | bo =>
    cases d with
    | lst l => cases i
    | _ => exact imm_den (O := O0) (O' := O') _ v i h0
/-- a value that must hold no list -/
def ck (a : ME) : ME := fun τ => (a τ).bind fun d => if imm d = true then .ok d else .no
theorem se_ck {m2 : Md} (h : SE P ms ms1 md a t) : SE P ms ms1 m2 (ck a) t := fun τ O H σ C Q F n k w => by
  refine h τ O H σ C _ F (Rs.bind_ne n) (fun d O' H' A v e g f x q => ?_) fun x e => w x (Rs.bind_ex e)
  have eb : ck a τ = if imm d = true then .ok d else .no := Rs.bind_ok e
  by_cases i : imm d = true
  · rw [if_pos i] at eb
    exact k d O' H' O0 v eb g (f.ctx fun a z => .inl (or_none a z)) (fun _ z => z.elim) (vok_imm i q)
  · rw [if_neg i] at eb
    exact (n eb).elim
end
section
variable {X : Cx} {w : Wx} {ms ms1 ms2 : Ms} {md m2 mr : Md} {e : Expr} {a : ME} {pos : Pos}
theorem ce_ck (h : CE X w ms ms1 md e a) : CE X w ms ms1 m2 e (ck a) := ⟨_, h.choose_spec.1, se_ck h.choose_spec.2⟩
theorem ce_frz (i : Nat) {x : Str} (em : ms[i]? = some (some md) := by rfl) (hm : md = .own ∨ md = .deep := by first | exact Or.inl rfl | exact Or.inr rfl) (hN : X.N[i]? = some x := by rfl) (hv : Vis X.env.scope x := by first | exact Or.inl rfl | exact Or.inr (Or.inl rfl) | exact Or.inr (Or.inr rfl)) (hd : (x == ("__debug__" : Str)) = false := by decide) (hcd : (x == ("__classdict__" : Str)) = false := by decide) :
    CE X w ms (ms.set i (some .fz)) .fz (.Name x pos) (vr i) := ⟨_, pe_var hN hv hd hcd, se_frz em hm⟩
theorem css_frz (i : Nat) {st : List Stmt} {s : MS} (h : CSs X w ms ms1 mr st s) (em : ms1[i]? = some (some md) := by rfl) (hm : md = .own ∨ md = .deep := by first | exact Or.inl rfl | exact Or.inr rfl) : CSs X w ms (ms1.set i (some .fz)) mr st s := ⟨_, h.choose_spec.1, ss_frz h.choose_spec.2 em hm⟩
theorem css_frz0 (i : Nat) {st : List Stmt} {s : MS} (em : ms[i]? = some (some md)) (hm : md = .own ∨ md = .deep) (h : CSs X w (ms.set i (some .fz)) ms1 mr st s) : CSs X w ms ms1 mr st s := ⟨_, h.choose_spec.1, ss_frz0 h.choose_spec.2 em hm⟩
theorem cs_frz0 (i : Nat) {st : Stmt} {s : MS} (em : ms[i]? = some (some md)) (hm : md = .own ∨ md = .deep) (h : CS X w (ms.set i (some .fz)) ms1 mr st s) : CS X w ms ms1 mr st s := ⟨_, h.choose_spec.1, ss_frz0 h.choose_spec.2 em hm⟩
end
/-! ### the module -/
/-- a def of the module as it stands -/
def DefAt (K : PySem.W.Frag) (mg : Str → Option Value) (x : Str) (ps : List Str) (st : Stmt) (f : Addr) (fd : FuncData) : Prop := Fun K x x st f fd ∧ mg x = some (.ref f) ∧ Binds K fd ps []
/-- what a def's name at the module is worth -/
def Worth (P : Program) (w : World) (K : PySem.W.Frag) (mg : Str → Option Value) (base : Heap) (cl : String → Option Value) (x : Str) (k n : Nat) (md : Md) (F : List D → Rs D) : Prop :=
  ∃ f fd ps, FnOk P w K mg base (L2.CX P w) k f fd ps (spM K cl n md F) ∧ mg x = some (.ref f) ∧ PySem.W.keepIn K (.ref f) = true ∧ Binds K fd ps []
theorem worth_of {P : Program} {w : World} {K : PySem.W.Frag} {mg : Str → Option Value} {base : Heap} {cl : String → Option Value} {x : Str} {N ps : List Str} {st : Stmt} {f : Addr} {fd : FuncData} {k : Nat} {md : Md} {m : MS} (F : DefAt K mg x ps st f fd) (S : FnScope N ps (defScope st)) (hl : ps.length ≤ N.length)
    (hbody : ∀ (cdv : Value) (A : Around) (outer : List Env) (s : Shared) (H : Hp) (E : XK), Room k (A.deeper (envOfC x (defScope st) s.heap.objs.size f cdv)) →
      ∃ ms', CSs (cxOf (L2.CX P w) P w K mg base N x (defScope st) f cdv A outer s H E) ⟨cl, noW E, List.replicate N.length none⟩ (ms0 ps.length N.length) ms' md (defBody st) m) :
    Worth P w K mg base cl x (k + 1) ps.length md (df ps.length N.length m) := ⟨f, fd, ps, def_ok F.1 S hl hbody, F.2.1, F.1.kp, F.2.2⟩
theorem defAt_of {K : PySem.W.Frag} {h : Heap} {mg : Str → Option Value} {x : Str} {ps : List Str} {st : Stmt} {f : Addr} {oc : Value} {od an : Option Addr} {osl : Array (Option Value)} {kV doc pm cdv ct : Value} (X : K.In h) (G : h.Ns mainGlobals mg)
    (a : PySem.W.nsIn K mainGlobals x = some (some (.ref f))) (l : K.lookup f = some ⟨oc, od, .func (PySem.W.fnOf x x (defArgs st) (defBody st) (defScope st) .none kV doc pm an cdv ct), osl⟩)
    (c : PySem.W.codeIn K cdv x = true) (k : PySem.W.keepIn K (.ref f) = true)
    (hb : ∀ (kV doc pm : Value) (an : Option Addr) (cdv ct : Value) (us : List Value), us.length = ps.length → bindArgs (PySem.W.fnOf x x (defArgs st) (defBody st) (defScope st) .none kV doc pm an cdv ct) ⟨us, []⟩ = pure (ps.zip us)) :
    DefAt K mg x ps st f (PySem.W.fnOf x x (defArgs st) (defBody st) (defScope st) .none kV doc pm an cdv ct) := ⟨fun_mk l c k, PySem.W.mg_of X G a, (fun_mk l c k).binds hb⟩
section
variable {X : Cx} {w : Wx} {ms ms1 ms2 : Ms} {md ma mb mr : Md} {e ea eb : Expr} {es : List Expr} {a b : ME} {l : MA} {pos p2 p3 : Pos} {n : Nat}
theorem ce_cw {x : Str} {k j : Nat} {F : List D → Rs D} (c : Worth X.prog X.w X.K X.mg X.base w.cl x k (n + 1) md F) (hr : Room j X.A) (tk : Takes X w.W) (h : CA X w ms ms1 .fz (n + 1) (e :: es) l) (hk : k ≤ j := by decide) (hn : leMs ms1 w.mx = true := by rfl)
    (hg : Gl X x := by rfl) (hdb : (x == ("__debug__" : Str)) = false := by decide) (he : starEach (e :: es) X.env = (false, eval e X.env) :: starEach es X.env := by rfl) (hpl : (backTo pos (starEach es X.env)).any (·.1) = false := by rfl) :
    CE X w ms ms1 md (.Call (.Name x p2) (e :: es) [] pos) (cll F l) := by
  obtain ⟨f, fd, ps, ok, at', kp, b⟩ := c
  exact ce_call ⟨ok, at', kp, b⟩ (hr.mono hk) tk h hn hg hdb he hpl
theorem ce_cd {x : Str} {k j : Nat} {F : List D → Rs D} (c : Worth X.prog X.w X.K X.mg X.base w.cl x k (n + 1) .deep F) (hr : Room j X.A) (tk : Takes X w.W) (h : CA X w ms ms1 .bw (n + 1) (e :: es) l) (hk : k ≤ j := by decide) (hn : leMs ms1 w.mx = true := by rfl)
    (hg : Gl X x := by rfl) (hdb : (x == ("__debug__" : Str)) = false := by decide) (he : starEach (e :: es) X.env = (false, eval e X.env) :: starEach es X.env := by rfl) (hpl : (backTo pos (starEach es X.env)).any (·.1) = false := by rfl) :
    CE X w ms ms1 .deep (.Call (.Name x p2) (e :: es) [] pos) (cll F l) := by
  obtain ⟨f, fd, ps, ok, at', kp, b⟩ := c
  exact ce_callD ⟨ok, at', kp, b⟩ (hr.mono hk) tk h hn hg hdb he hpl
end
/-! ### the end: a law -/
theorem dens_ints {K : PySem.W.Frag} {O : Own} {H : Hp} : ∀ ns : List Int, Dens K O H (ns.map D.int) (ns.map V.int)
  | [] => rfl
  | n :: r => ⟨.int n, r.map V.int, rfl, rfl, dens_ints r⟩
theorem scl_of {K : PySem.W.Frag} {H : Hp} {a : Addr} {vs : List V} (o : Only H) (h : SqL K H a vs) : ScL K H a vs := by
  rcases h with (h | h) | h
  · rcases o a with z | ⟨_, _, z⟩
    · rw [h] at z; cases z
    · rw [h] at z; cases z
  · exact .inl h
  · exact .inr h
theorem law_sp {K : PySem.W.Frag} {cl : String → Option Value} {md : Md} {F : List D → Rs D} {H : Hp} {a : Addr} {ns : List Int} (hO : Only H) (hS : SqL K H a (ns.map V.int)) (e : F [.scr (ns.map D.int)] = .ok (.bl true)) :
    spM K cl 1 md F [.ref a] H (fun v _ => v = .bl true) fun _ _ _ => False := by
  refine ⟨rfl, [.scr (ns.map D.int)], O0, ⟨.ref a, [], rfl, ⟨a, ns.map V.int, rfl, scl_of hO hS, dens_ints ns⟩, rfl⟩, fun _ z => z.elim, (fun z => by rw [e] at z; cases z), fun d H' A v e2 nw q => ?_, fun x H' cls dd e2 => ?_⟩
  · rw [e] at e2
    cases e2
    exact vok_bl'.mp q
  · rw [e] at e2
    cases e2
theorem cx_no {P : Program} {w : World} {l : List Env} {H : Hp} {s s' : Shared} {e : Value} (h : L2.CX P w l H s (fun _ _ _ => False) e s') : False := by
  obtain ⟨_, _, _, _, _, _, _, _, _, _, _, _, z⟩ := h
  exact z.elim
/-! ### in, of what holds no list, no tuple -/
def flD : D → Bool
  | .int _ => true
  | .str _ => true
  | .non => true
  | _ => false
def eqF : D → D → Bool
  | .int i, .int j => decide (i = j)
  | .str i, .str j => decide (i = j)
  | .non, .non => true
  | _, _ => false
def inS (x : D) : D → Rs Bool
  | .lst l => if flD x && l.all flD then .ok (l.any fun y => eqF y x) else .no
  | .tup l => if flD x && l.all flD then .ok (l.any fun y => eqF y x) else .no
  | .str z => (match x with
    | .str c => (match c.cps.toList with
      | [k] => .ok (decide (k ∈ z.cps.toList))
      | _ => .no)
    | _ => .no)
  | _ => .no
def inD : D → D → Rs D := fun x y => (inS x y).bind fun b => .ok (.bl b)
def ninD : D → D → Rs D := fun x y => (inS x y).bind fun b => .ok (.bl (!b))
section
variable {K : PySem.W.Frag} {md ma mb : Md} {O A : Own} {H : Hp} {x : V}
theorem inS_ok {f : Bool → D} {x y : D} (h : ∃ d, ((inS x y).bind fun b => Rs.ok (f b)) = .ok d) : ∃ b, inS x y = .ok b := by
  obtain ⟨d, h⟩ := h
  cases q : inS x y with
  | no => rw [q] at h; cases h
  | ex z => rw [q] at h; cases h
  | ok b => exact ⟨b, rfl⟩
theorem inS_pure {f : Bool → D} : Pure2 fun x y => (inS x y).bind fun b => .ok (f b) := fun x y e h => by
  replace h : ((inS x y).bind fun b => Rs.ok (f b)) = .ex e := h
  cases q : inS x y with
  | no => rw [q] at h; cases h
  | ok b => rw [q] at h; cases h
  | ex z =>
    unfold inS at q
    split at q
    · split at q <;> cases q
    · split at q <;> cases q
    · split at q
      · split at q <;> cases q
      · cases q
    · cases q
theorem fl_flat {d : D} {v : V} {O : Own} (f : flD d = true) (h : Den K O H d v) : flatV v = true ∧ toV d = some v := by
  cases d with
  | int i => have e : v = .int i := h; subst e; exact ⟨rfl, rfl⟩
  | str i => have e : v = .str i := h; subst e; exact ⟨rfl, rfl⟩
  | non => have e : v = .non := h; subst e; exact ⟨rfl, rfl⟩
  | _ => cases f
theorem fl_eq {d e : D} {u v : V} (f : flD d = true) (g : flD e = true) (h : toV d = some u) (k : toV e = some v) : eqV u v = eqF d e := by
  cases d <;> first | (simp [flD] at f; done) | skip
  all_goals
    cases e <;> first | (simp [flD] at g; done) | skip
  all_goals
    injection h with h
    injection k with k
    subst h
    subst k
    first
      | (simp [eqV, eqF]; done)
      | (show (_ == _) = decide _; rw [Bool.beq_eq_decide_eq])
theorem fl_any {dx : D} {x : V} {O : Own} (f : flD dx = true) (hx : toV dx = some x) : ∀ {l : List D} {vs : List V}, l.all flD = true → Dens K O H l vs → vs.all flatV = true ∧ inV x vs = l.any fun y => eqF y dx
  | [], vs, _, h => by
    have e : vs = [] := h
    subst e
    exact ⟨rfl, rfl⟩
  | d :: l, vs, a, h => by
    obtain ⟨v, r, rfl, h1, h2⟩ := h
    rw [List.all_cons, Bool.and_eq_true] at a
    obtain ⟨b1, b2⟩ := fl_flat a.1 h1
    obtain ⟨c1, c2⟩ := fl_any (dx := dx) f hx a.2 h2
    refine ⟨by rw [List.all_cons, b1, c1] <;> rfl, ?_⟩
    show (eqV v x || r.any fun y => eqV y x) = (eqF d dx || l.any fun y => eqF y dx)
    rw [fl_eq a.1 f b2 hx]
    exact congrArg _ c2
def rInA (K : PySem.W.Frag) (neg : Bool) : R2 := fun x y H Q => rIn K neg x y H Q ∨ (∃ (c : Nat) (z : Str), x = .str ⟨#[c]⟩ ∧ y = .str z ∧ Q (.bl (if neg then !decide (c ∈ z.cps.toList) else decide (c ∈ z.cps.toList))) H)
theorem in_run {neg : Bool} {x y : V} {dx dy : D} {b : Bool} {O1 O2 : Own} {Q : VK} (e : inS dx dy = .ok b) (h1 : Den K O1 H dx x) (h2 : Den K O2 H dy y) (k : Q (.bl (if neg then !b else b)) H) : rInA K neg x y H Q := by
  unfold inS at e
  split at e
  · split at e
    · rename_i c
      cases e
      rw [Bool.and_eq_true] at c
      obtain ⟨p, vs, rfl, s, q⟩ := h2
      obtain ⟨b1, b2⟩ := fl_flat c.1 h1
      obtain ⟨c1, c2⟩ := fl_any c.1 b2 c.2 q
      exact .inl ⟨p, vs, rfl, .inl s.sq, b1, c1, by rw [c2]; exact k⟩
    · cases e
  · split at e
    · rename_i c
      cases e
      rw [Bool.and_eq_true] at c
      obtain ⟨p, vs, rfl, s, q⟩ := h2
      obtain ⟨b1, b2⟩ := fl_flat c.1 h1
      obtain ⟨c1, c2⟩ := fl_any c.1 b2 c.2 q
      exact .inl ⟨p, vs, rfl, .inr s, b1, c1, by rw [c2]; exact k⟩
    · cases e
  · split at e
    · rename_i z _ c
      split at e
      · rename_i k' hc
        cases e
        have e1 : x = .str c := h1
        have e2 : y = .str _ := h2
        refine .inr ⟨k', _, ?_, e2, k⟩
        rw [e1]
        congr 1
        cases c with
        | mk cs =>
          congr 1
          exact Array.toList_inj.mp hc
      · cases e
    · cases e
  · cases e
theorem f2_in : F2 K ma mb md inD (rInA K false) := fun O H A B x y dx dy Q _ h1 h2 k e => by
  obtain ⟨b, e⟩ := inS_ok (f := .bl) e
  exact in_run e h1.bw h2.bw (k (.bl b) H O0 _ (Rs.bind_ok e) .none vok_bl)
theorem f2_nin : F2 K ma mb md ninD (rInA K true) := fun O H A B x y dx dy Q _ h1 h2 k e => by
  obtain ⟨b, e⟩ := inS_ok (f := fun b => .bl (!b)) e
  exact in_run e h1.bw h2.bw (k (.bl (!b)) H O0 _ (Rs.bind_ok e) .none vok_bl)
end
section
variable {X : Cx}
theorem op_inA : OpR X (compareOp .In) (rInA X.K false) := op_in_seq.or op_in_sign
theorem op_ninA : OpR X (compareOp .NotIn) (rInA X.K true) := op_notIn_seq.or op_notIn_sign
variable {w : Wx} {ms ms1 ms2 ms3 : Ms} {md ma mb mr : Md} {e ea eb : Expr} {a b : ME} {pos : Pos}
theorem ce_in (ha : CE X w ms ms1 ma ea a) (hb : CE X w ms1 ms2 mb eb b) (hm : behindInMarks .In eb = false := by rfl) : CE X w ms ms2 md (.Compare ea [.In] [eb] pos) (o2 inD a b) := ce_cmp op_inA f2_in inS_pure ha hb hm
theorem ce_nin (ha : CE X w ms ms1 ma ea a) (hb : CE X w ms1 ms2 mb eb b) (hm : behindInMarks .NotIn eb = false := by rfl) : CE X w ms ms2 md (.Compare ea [.NotIn] [eb] pos) (o2 ninD a b) := ce_cmp op_ninA f2_nin inS_pure ha hb hm
theorem ct_in (ha : CE X w ms ms1 ma ea a) (hb : CE X w ms1 ms2 mb eb b) (hm : behindInMarks .In eb = false := by rfl) : CT X w ms ms2 (.Compare ea [.In] [eb] pos) (tb (o2 inD a b)) := ct_cmp op_inA f2_in inS_pure ha hb hm
theorem ct_nin (ha : CE X w ms ms1 ma ea a) (hb : CE X w ms1 ms2 mb eb b) (hm : behindInMarks .NotIn eb = false := by rfl) : CT X w ms ms2 (.Compare ea [.NotIn] [eb] pos) (tb (o2 ninD a b)) := ct_cmp op_ninA f2_nin inS_pure ha hb hm
end
section
variable {P : Program} {w : World} {K : PySem.W.Frag} {mg : Str → Option Value} {base : Heap} {N : List Str} {qual : Str} {sc : Scope} {f : Addr} {cd : Value} {A : Around} {outer : List Env} {s : Shared} {H : Hp} {E : XK}
theorem tk_of : Takes (cxOf (L2.CX P w) P w K mg base N qual sc f cd A outer s H E) (noW E) := takes_of rfl rfl rfl rfl
theorem po_of : PassesOwn (model (cxOf (L2.CX P w) P w K mg base N qual sc f cd A outer s H E).prog (cxOf (L2.CX P w) P w K mg base N qual sc f cd A outer s H E).w) (cxOf (L2.CX P w) P w K mg base N qual sc f cd A outer s H E).A (cxOf (L2.CX P w) P w K mg base N qual sc f cd A outer s H E).env (cxOf (L2.CX P w) P w K mg base N qual sc f cd A outer s H E).xe := passes_of rfl
end

/-! ### reckoning: what the parts come to -/
def Out.bnd (o : Out) (f : Ts → Out) : Out := match o with
  | .nx τ => f τ
  | o => o
def Rs.out {α : Type} (r : Rs α) (τ : Ts) (f : α → Out) : Out := match r with
  | .ok d => f d
  | .ex x => .ex x τ
  | .no => .no
def Rs.outN {α : Type} (r : Rs α) (f : α → Out) : Out := match r with
  | .ok d => f d
  | _ => .no
def Out.fin (o : Out) : Rs D := match o with
  | .rt d => .ok d
  | .nx _ => .ok .non
  | .ex x _ => .ex x
  | .no => .no
section
variable {α β : Type} {τ : Ts} {a b : ME} {t u : MT} {s r : MS} {g : MG} {c : Prop} [Decidable c]
@[simp] theorem rb_ok {x : α} {f : α → Rs β} : (Rs.ok x).bind f = f x := rfl
@[simp] theorem rb_ex {x : Exn} {f : α → Rs β} : (Rs.ex x : Rs α).bind f = .ex x := rfl
@[simp] theorem rb_no {f : α → Rs β} : (Rs.no : Rs α).bind f = .no := rfl
@[simp] theorem rb_ite {x y : Rs α} {f : α → Rs β} : (if c then x else y).bind f = if c then x.bind f else y.bind f := by split <;> rfl
@[simp] theorem ob_nx {f : Ts → Out} : (Out.nx τ).bnd f = f τ := rfl
@[simp] theorem ob_rt {d : D} {f : Ts → Out} : (Out.rt d).bnd f = .rt d := rfl
@[simp] theorem ob_ex {x : Exn} {f : Ts → Out} : (Out.ex x τ).bnd f = .ex x τ := rfl
@[simp] theorem ob_no {f : Ts → Out} : (Out.no).bnd f = .no := rfl
@[simp] theorem ob_ite {x y : Out} {f : Ts → Out} : (if c then x else y).bnd f = if c then x.bnd f else y.bnd f := by split <;> rfl
@[simp] theorem ro_ok {x : α} {f : α → Out} : (Rs.ok x).out τ f = f x := rfl
@[simp] theorem ro_ex {x : Exn} {f : α → Out} : (Rs.ex x : Rs α).out τ f = .ex x τ := rfl
@[simp] theorem ro_no {f : α → Out} : (Rs.no : Rs α).out τ f = .no := rfl
@[simp] theorem ro_ite {x y : Rs α} {f : α → Out} : (if c then x else y).out τ f = if c then x.out τ f else y.out τ f := by split <;> rfl
@[simp] theorem rn_ok {x : α} {f : α → Out} : (Rs.ok x).outN f = f x := rfl
@[simp] theorem rn_no {f : α → Out} : (Rs.no : Rs α).outN f = .no := rfl
@[simp] theorem of_rt {d : D} : (Out.rt d).fin = .ok d := rfl
@[simp] theorem of_nx : (Out.nx τ).fin = .ok .non := rfl
@[simp] theorem of_ex {x : Exn} : (Out.ex x τ).fin = .ex x := rfl
@[simp] theorem of_no : (Out.no).fin = .no := rfl
@[simp] theorem of_ite {x y : Out} : (if c then x else y).fin = if c then x.fin else y.fin := by split <;> rfl
@[simp] theorem e_kc {d : D} : kc d τ = .ok d := rfl
@[simp] theorem e_o1 {f : D → Rs D} : o1 f a τ = (a τ).bind f := rfl
@[simp] theorem e_o2 {f : D → D → Rs D} : o2 f a b τ = (a τ).bind fun x => (b τ).bind fun y => f x y := rfl
@[simp] theorem e_an : an τ = .ok [] := rfl
@[simp] theorem e_ac {l : MA} : ac a l τ = (a τ).bind fun x => (l τ).bind fun xs => .ok (x :: xs) := rfl
@[simp] theorem e_cll {F : List D → Rs D} {l : MA} : cll F l τ = (l τ).bind F := rfl
@[simp] theorem e_tp {l : MA} : tp l τ = (l τ).bind fun l => if l.length ≤ 1000 then .ok (.tup l) else .no := rfl
@[simp] theorem e_ls {l : MA} : ls l τ = (l τ).bind fun l => if l.length ≤ 1000 then .ok (.lst l) else .no := rfl
@[simp] theorem e_asB {k : Bool} : asB (.bl k) = .ok k := rfl
@[simp] theorem e_tb : tb a τ = (a τ).bind asB := rfl
@[simp] theorem e_tand : tand t u τ = (t τ).bind fun x => if x = true then u τ else .ok false := rfl
@[simp] theorem e_tor : tor t u τ = (t τ).bind fun x => if x = true then .ok true else u τ := rfl
@[simp] theorem e_tnot : tnot t τ = (t τ).bind fun x => .ok (!x) := rfl
def asV (y : Rs D) : D → Rs D
  | .bl true => y
  | .bl false => .ok (.bl false)
  | _ => .no
def asW (y : Rs D) : D → Rs D
  | .bl true => .ok (.bl true)
  | .bl false => y
  | _ => .no
def asN : D → Rs D
  | .bl c => .ok (.bl (!c))
  | _ => .no
@[simp] theorem e_asV {k : Bool} {y : Rs D} : asV y (.bl k) = if k = true then y else .ok (.bl false) := by cases k <;> rfl
@[simp] theorem e_asW {k : Bool} {y : Rs D} : asW y (.bl k) = if k = true then .ok (.bl true) else y := by cases k <;> rfl
@[simp] theorem e_asN {k : Bool} : asN (.bl k) = .ok (.bl (!k)) := rfl
@[simp] theorem e_vand : vand a b τ = (a τ).bind (asV (b τ)) := by
  unfold vand
  congr 1
@[simp] theorem e_vor : vor a b τ = (a τ).bind (asW (b τ)) := by
  unfold vor
  congr 1
@[simp] theorem e_vnot : vnot a τ = (a τ).bind asN := rfl
@[simp] theorem e_ife : ife t a b τ = (t τ).bind fun c => if c = true then a τ else b τ := rfl
@[simp] theorem e_gn {i : Nat} {d : D} : gn i d τ = .ok (τ.set i d) := rfl
@[simp] theorem e_gt {gs : List MG} {l : List D} : gt gs (.tup l) τ = gts gs l τ := rfl
@[simp] theorem e_gts0 : gts [] [] τ = .ok τ := rfl
@[simp] theorem e_gts {gs : List MG} {d : D} {l : List D} : gts (g :: gs) (d :: l) τ = (g d τ).bind fun τ' => gts gs l τ' := rfl
@[simp] theorem e_skip : skip τ = .nx τ := rfl
@[simp] theorem e_seq : seq s r τ = (s τ).bnd r := rfl
@[simp] theorem e_asg : asg a g τ = (a τ).out τ fun d => (g d τ).outN fun τ' => .nx τ' := by
  unfold asg
  cases a τ with
  | ok d => cases hg : g d τ <;> simp [Rs.out, Rs.outN, hg]
  | _ => rfl
@[simp] theorem e_par {i j : Nat} : par i j a b τ = (a τ).out τ fun x => (b τ).out τ fun y => .nx ((τ.set i x).set j y) := by
  unfold par
  cases a τ with
  | ok d => cases b τ <;> rfl
  | _ => rfl
@[simp] theorem e_sif : sif t s r τ = (t τ).out τ fun c => if c = true then s τ else r τ := by
  unfold sif
  cases t τ <;> rfl
@[simp] theorem e_ret : ret a τ = (a τ).out τ .rt := by
  unfold ret
  cases a τ <;> rfl
@[simp] theorem e_drp : drp a τ = (a τ).out τ fun _ => .nx τ := by
  unfold drp
  cases a τ <;> rfl
@[simp] theorem e_rse {x : Exn} : rse x τ = .ex x τ := rfl
@[simp] theorem e_fr {i : MA} : fr i g s τ = (i τ).out τ fun l => fl g s l τ := by
  unfold fr
  cases i τ <;> rfl
@[simp] theorem e_fl0 : fl g s [] τ = .nx τ := rfl
theorem e_fl {d : D} {l : List D} : fl g s (d :: l) τ = (g d τ).outN fun τ1 => (s τ1).bnd (fl g s l) := by
  unfold fl
  cases g d τ <;> rfl
theorem e_df {n N : Nat} {ds : List D} (h : ds.length = n) : df n N s ds = (s (ds ++ List.replicate (N - n) .non)).fin := by
  unfold df
  rw [if_pos h]
  rfl
@[simp] theorem e_df1 {N : Nat} {x : D} : df 1 N s [x] = (s (x :: List.replicate (N - 1) .non)).fin := e_df rfl
@[simp] theorem e_df2 {N : Nat} {x y : D} : df 2 N s [x, y] = (s (x :: y :: List.replicate (N - 2) .non)).fin := e_df rfl
@[simp] theorem e_df3 {N : Nat} {x y z : D} : df 3 N s [x, y, z] = (s (x :: y :: z :: List.replicate (N - 3) .non)).fin := e_df rfl
@[simp] theorem e_df4 {N : Nat} {x y z v : D} : df 4 N s [x, y, z, v] = (s (x :: y :: z :: v :: List.replicate (N - 4) .non)).fin := e_df rfl
@[simp] theorem e_df5 {N : Nat} {x y z v w : D} : df 5 N s [x, y, z, v, w] = (s (x :: y :: z :: v :: w :: List.replicate (N - 5) .non)).fin := e_df rfl
def asL : D → Rs (List D)
  | .lst l => .ok l
  | _ => .no
def asT : D → Rs (List D)
  | .tup l => .ok l
  | _ => .no
@[simp] theorem e_asL {l : List D} : asL (.lst l) = .ok l := rfl
@[simp] theorem e_asT {l : List D} : asT (.tup l) = .ok l := rfl
@[simp] theorem e_asSl {l : List D} : asS (.lst l) = .ok l := rfl
@[simp] theorem e_asSc {l : List D} : asS (.scr l) = .ok l := rfl
@[simp] theorem e_asSt {l : List D} : asS (.tup l) = .ok l := rfl
@[simp] theorem e_asSs {z : Str} : asS (.str z) = .ok (signs z) := rfl
@[simp] theorem e_its : its a τ = (a τ).bind asS := rfl
@[simp] theorem e_itl : itl a τ = (a τ).bind asL := rfl
@[simp] theorem e_itt : itt a τ = (a τ).bind asT := rfl
@[simp] theorem e_ck : ck a τ = (a τ).bind fun d => if imm d = true then .ok d else .no := rfl
@[simp] theorem e_ir1 {l : MA} : ir1 l τ = (l τ).bind rng1 := rfl
@[simp] theorem e_ir2 {l : MA} : ir2 l τ = (l τ).bind rng2 := rfl
@[simp] theorem e_imi {i : Int} : imm (.int i) = true := rfl
@[simp] theorem e_imb {i : Bool} : imm (.bl i) = true := rfl
@[simp] theorem e_ims {i : Str} : imm (.str i) = true := rfl
@[simp] theorem e_imn : imm .non = true := rfl
@[simp] theorem e_imt {l : List D} : imm (.tup l) = imms l := rfl
@[simp] theorem e_ims0 : imms [] = true := rfl
@[simp] theorem e_imsc {d : D} {l : List D} : imms (d :: l) = (imm d && imms l) := rfl
section
variable {i j : Int}
@[simp] theorem e_aD : aD (.int i) (.int j) = .ok (.int (i + j)) := rfl
@[simp] theorem e_sD : sD (.int i) (.int j) = .ok (.int (i - j)) := rfl
@[simp] theorem e_ltD : ltD (.int i) (.int j) = .ok (.bl (decide (i < j))) := rfl
@[simp] theorem e_leD : leD (.int i) (.int j) = .ok (.bl (decide (i ≤ j))) := rfl
@[simp] theorem e_gtD : gtD (.int i) (.int j) = .ok (.bl (decide (j < i))) := rfl
@[simp] theorem e_geD : geD (.int i) (.int j) = .ok (.bl (decide (j ≤ i))) := rfl
@[simp] theorem e_negD : negD (.int i) = .ok (.int (-i)) := rfl
@[simp] theorem e_eqD : eqD (.int i) (.int j) = .ok (.bl (decide (i = j))) := rfl
@[simp] theorem e_neD : neD (.int i) (.int j) = .ok (.bl (!decide (i = j))) := rfl
@[simp] theorem e_eqDb {x y : Bool} : eqD (.bl x) (.bl y) = .ok (.bl (decide (x = y))) := rfl
@[simp] theorem e_neDb {x y : Bool} : neD (.bl x) (.bl y) = .ok (.bl (!decide (x = y))) := rfl
@[simp] theorem e_eqDs {x y : Str} : eqD (.str x) (.str y) = .ok (.bl (decide (x = y))) := rfl
@[simp] theorem e_neDs {x y : Str} : neD (.str x) (.str y) = .ok (.bl (!decide (x = y))) := rfl
@[simp] theorem e_pui {n : Nat} : pu n (.int i) = true := by cases n <;> rfl
@[simp] theorem e_pub {n : Nat} {k : Bool} : pu n (.bl k) = true := by cases n <;> rfl
@[simp] theorem e_pun {n : Nat} : pu n .non = true := by cases n <;> rfl
@[simp] theorem e_pus {n : Nat} {x : Str} : pu n (.str x) = PyData.strOk x := by cases n <;> rfl
@[simp] theorem e_put {n : Nat} {l : List D} : pu (n + 1) (.tup l) = pus n l := rfl
@[simp] theorem e_pul {n : Nat} {l : List D} : pu (n + 1) (.lst l) = pus n l := rfl
@[simp] theorem e_put60 {l : List D} : pu 60 (.tup l) = pus 59 l := rfl
@[simp] theorem e_pul60 {l : List D} : pu 60 (.lst l) = pus 59 l := rfl
@[simp] theorem e_put59 {l : List D} : pu 59 (.tup l) = pus 58 l := rfl
@[simp] theorem e_pul59 {l : List D} : pu 59 (.lst l) = pus 58 l := rfl
@[simp] theorem e_put58 {l : List D} : pu 58 (.tup l) = pus 57 l := rfl
@[simp] theorem e_pul58 {l : List D} : pu 58 (.lst l) = pus 57 l := rfl
@[simp] theorem e_put57 {l : List D} : pu 57 (.tup l) = pus 56 l := rfl
@[simp] theorem e_pul57 {l : List D} : pu 57 (.lst l) = pus 56 l := rfl
@[simp] theorem e_put56 {l : List D} : pu 56 (.tup l) = pus 55 l := rfl
@[simp] theorem e_pul56 {l : List D} : pu 56 (.lst l) = pus 55 l := rfl
@[simp] theorem e_pus0 {n : Nat} : pus n [] = true := by cases n <;> rfl
@[simp] theorem e_pusc {n : Nat} {d : D} {l : List D} : pus n (d :: l) = (pu n d && pus n l) := by cases n <;> rfl
@[simp] theorem e_eqDt {l k : List D} : eqD (.tup l) (.tup k) = if pu 60 (.tup l) && pu 60 (.tup k) then .ok (.bl (eqXs l k)) else .no := by
  show ((if pu 60 (.tup l) && pu 60 (.tup k) then Rs.ok (eqX (.tup l) (.tup k)) else .no) : Rs Bool).bind _ = _
  split <;> rfl
@[simp] theorem e_neDt {l k : List D} : neD (.tup l) (.tup k) = if pu 60 (.tup l) && pu 60 (.tup k) then .ok (.bl (!eqXs l k)) else .no := by
  show ((if pu 60 (.tup l) && pu 60 (.tup k) then Rs.ok (eqX (.tup l) (.tup k)) else .no) : Rs Bool).bind _ = _
  split <;> rfl
@[simp] theorem e_eqDl {l k : List D} : eqD (.lst l) (.lst k) = if pu 60 (.lst l) && pu 60 (.lst k) then .ok (.bl (eqXs l k)) else .no := by
  show ((if pu 60 (.lst l) && pu 60 (.lst k) then Rs.ok (eqX (.lst l) (.lst k)) else .no) : Rs Bool).bind _ = _
  split <;> rfl
@[simp] theorem e_neDl {l k : List D} : neD (.lst l) (.lst k) = if pu 60 (.lst l) && pu 60 (.lst k) then .ok (.bl (!eqXs l k)) else .no := by
  show ((if pu 60 (.lst l) && pu 60 (.lst k) then Rs.ok (eqX (.lst l) (.lst k)) else .no) : Rs Bool).bind _ = _
  split <;> rfl
@[simp] theorem e_xs0 : eqXs [] [] = true := rfl
@[simp] theorem e_xs1 {d : D} {l : List D} : eqXs [] (d :: l) = false := rfl
@[simp] theorem e_xs2 {d : D} {l : List D} : eqXs (d :: l) [] = false := rfl
@[simp] theorem e_xsc {d e : D} {l k : List D} : eqXs (d :: l) (e :: k) = (eqX d e && eqXs l k) := rfl
@[simp] theorem e_xi : eqX (.int i) (.int j) = decide (i = j) := by
  show (i == j) = _
  rw [Bool.beq_eq_decide_eq]
@[simp] theorem e_xb {x y : Bool} : eqX (.bl x) (.bl y) = decide (x = y) := by
  show (x == y) = _
  rw [Bool.beq_eq_decide_eq]
@[simp] theorem e_xstr {x y : Str} : eqX (.str x) (.str y) = decide (x = y) := by
  show (x == y) = _
  rw [Bool.beq_eq_decide_eq]
@[simp] theorem e_xn : eqX .non .non = true := rfl
@[simp] theorem e_xt {l k : List D} : eqX (.tup l) (.tup k) = eqXs l k := rfl
@[simp] theorem e_xl {l k : List D} : eqX (.lst l) (.lst k) = eqXs l k := rfl
@[simp] theorem e_isN {x : D} : isND x .non = .ok (.bl (isnB x)) := rfl
@[simp] theorem e_noN {x : D} : noND x .non = .ok (.bl (!isnB x)) := rfl
@[simp] theorem e_isn : isnB .non = true := rfl
@[simp] theorem e_isni : isnB (.int i) = false := rfl
@[simp] theorem e_isnt {l : List D} : isnB (.tup l) = false := rfl
@[simp] theorem e_isnl {l : List D} : isnB (.lst l) = false := rfl
@[simp] theorem e_lenl {l : List D} : lenD [.lst l] = .ok (.int l.length) := rfl
@[simp] theorem e_lenc {l : List D} : lenD [.scr l] = .ok (.int l.length) := rfl
@[simp] theorem e_lent {l : List D} : lenD [.tup l] = .ok (.int l.length) := rfl
@[simp] theorem e_abs : absD [.int i] = .ok (.int (if i < 0 then -i else i)) := rfl
@[simp] theorem e_max : max2D [.int i, .int j] = .ok (.int (if j > i then j else i)) := rfl
@[simp] theorem e_min : min2D [.int i, .int j] = .ok (.int (if j < i then j else i)) := rfl
@[simp] theorem e_inti : intD [.int i] = .ok (.int i) := rfl
@[simp] theorem e_intb {k : Bool} : intD [.bl k] = .ok (.int (if k then 1 else 0)) := rfl
@[simp] theorem e_isTi {T : String} : isTD T (.int i) = .ok (.bl (isB T "int")) := rfl
@[simp] theorem e_isTb {T : String} {k : Bool} : isTD T (.bl k) = .ok (.bl (isB T "bool")) := rfl
@[simp] theorem e_isTs {T : String} {k : Str} : isTD T (.str k) = .ok (.bl (isB T "str")) := rfl
@[simp] theorem e_isTn {T : String} : isTD T .non = .ok (.bl (isB T "NoneType")) := rfl
@[simp] theorem e_isTt {T : String} {l : List D} : isTD T (.tup l) = .ok (.bl (isB T "tuple")) := rfl
@[simp] theorem e_isTl {T : String} {l : List D} : isTD T (.lst l) = .ok (.bl (isB T "list")) := rfl
@[simp] theorem e_isB {T a : String} : isB T a = (a == T || (a == "bool" && T == "int")) := rfl
theorem at_get {α : Type} {l : List α} {k : Nat} {d : α} (h : l[k]? = some d) : atI l (k : Int) = some d := atI_nat h
theorem e_ixl {l : List D} {k : Nat} {d : D} (h : l[k]? = some d) : ixD (.lst l) (.int (k : Int)) = .ok d := by
  show (match atI l (k : Int) with | some d => Rs.ok d | none => Rs.no) = _
  rw [at_get h]
theorem e_ixt {l : List D} {k : Nat} {d : D} (h : l[k]? = some d) : ixD (.tup l) (.int (k : Int)) = .ok d := by
  show (match atI l (k : Int) with | some d => Rs.ok d | none => Rs.no) = _
  rw [at_get h]
theorem e_ixc {l : List D} {k : Nat} {d : D} (h : l[k]? = some d) : ixD (.scr l) (.int (k : Int)) = .ok d := by
  show (match atI l (k : Int) with | some d => Rs.ok d | none => Rs.no) = _
  rw [at_get h]
theorem e_ixi {ns : List Int} (h0 : 0 ≤ i) (h1 : i < ns.length) : ixD (.scr (ns.map D.int)) (.int i) = .ok (.int (ns.getD i.toNat 0)) := by
  have e : i = ((i.toNat : Nat) : Int) := by omega
  rw [e, e_ixc (d := .int (ns.getD i.toNat 0))]
  · rw [Int.toNat_natCast]
  · rw [List.getElem?_map, List.getD_eq_getElem?_getD, List.getElem?_eq_getElem (by omega)]
    rfl
end
@[simp] theorem e_v0 {x0 : D} {l : List D} : vr 0 (x0 :: l) = .ok x0 := rfl
@[simp] theorem e_v1 {x0 x1 : D} {l : List D} : vr 1 (x0 :: x1 :: l) = .ok x1 := rfl
@[simp] theorem e_v2 {x0 x1 x2 : D} {l : List D} : vr 2 (x0 :: x1 :: x2 :: l) = .ok x2 := rfl
@[simp] theorem e_v3 {x0 x1 x2 x3 : D} {l : List D} : vr 3 (x0 :: x1 :: x2 :: x3 :: l) = .ok x3 := rfl
@[simp] theorem e_v4 {x0 x1 x2 x3 x4 : D} {l : List D} : vr 4 (x0 :: x1 :: x2 :: x3 :: x4 :: l) = .ok x4 := rfl
@[simp] theorem e_v5 {x0 x1 x2 x3 x4 x5 : D} {l : List D} : vr 5 (x0 :: x1 :: x2 :: x3 :: x4 :: x5 :: l) = .ok x5 := rfl
@[simp] theorem e_v6 {x0 x1 x2 x3 x4 x5 x6 : D} {l : List D} : vr 6 (x0 :: x1 :: x2 :: x3 :: x4 :: x5 :: x6 :: l) = .ok x6 := rfl
@[simp] theorem e_v7 {x0 x1 x2 x3 x4 x5 x6 x7 : D} {l : List D} : vr 7 (x0 :: x1 :: x2 :: x3 :: x4 :: x5 :: x6 :: x7 :: l) = .ok x7 := rfl
@[simp] theorem e_v8 {x0 x1 x2 x3 x4 x5 x6 x7 x8 : D} {l : List D} : vr 8 (x0 :: x1 :: x2 :: x3 :: x4 :: x5 :: x6 :: x7 :: x8 :: l) = .ok x8 := rfl
@[simp] theorem e_v9 {x0 x1 x2 x3 x4 x5 x6 x7 x8 x9 : D} {l : List D} : vr 9 (x0 :: x1 :: x2 :: x3 :: x4 :: x5 :: x6 :: x7 :: x8 :: x9 :: l) = .ok x9 := rfl
@[simp] theorem e_v10 {x0 x1 x2 x3 x4 x5 x6 x7 x8 x9 x10 : D} {l : List D} : vr 10 (x0 :: x1 :: x2 :: x3 :: x4 :: x5 :: x6 :: x7 :: x8 :: x9 :: x10 :: l) = .ok x10 := rfl
@[simp] theorem e_v11 {x0 x1 x2 x3 x4 x5 x6 x7 x8 x9 x10 x11 : D} {l : List D} : vr 11 (x0 :: x1 :: x2 :: x3 :: x4 :: x5 :: x6 :: x7 :: x8 :: x9 :: x10 :: x11 :: l) = .ok x11 := rfl
@[simp] theorem e_v12 {x0 x1 x2 x3 x4 x5 x6 x7 x8 x9 x10 x11 x12 : D} {l : List D} : vr 12 (x0 :: x1 :: x2 :: x3 :: x4 :: x5 :: x6 :: x7 :: x8 :: x9 :: x10 :: x11 :: x12 :: l) = .ok x12 := rfl
@[simp] theorem e_v13 {x0 x1 x2 x3 x4 x5 x6 x7 x8 x9 x10 x11 x12 x13 : D} {l : List D} : vr 13 (x0 :: x1 :: x2 :: x3 :: x4 :: x5 :: x6 :: x7 :: x8 :: x9 :: x10 :: x11 :: x12 :: x13 :: l) = .ok x13 := rfl
@[simp] theorem e_v14 {x0 x1 x2 x3 x4 x5 x6 x7 x8 x9 x10 x11 x12 x13 x14 : D} {l : List D} : vr 14 (x0 :: x1 :: x2 :: x3 :: x4 :: x5 :: x6 :: x7 :: x8 :: x9 :: x10 :: x11 :: x12 :: x13 :: x14 :: l) = .ok x14 := rfl
@[simp] theorem e_v15 {x0 x1 x2 x3 x4 x5 x6 x7 x8 x9 x10 x11 x12 x13 x14 x15 : D} {l : List D} : vr 15 (x0 :: x1 :: x2 :: x3 :: x4 :: x5 :: x6 :: x7 :: x8 :: x9 :: x10 :: x11 :: x12 :: x13 :: x14 :: x15 :: l) = .ok x15 := rfl
@[simp] theorem e_s0 {x0 y : D} {l : List D} : (x0 :: l).set 0 y = y :: l := rfl
@[simp] theorem e_s1 {x0 x1 y : D} {l : List D} : (x0 :: x1 :: l).set 1 y = x0 :: y :: l := rfl
@[simp] theorem e_s2 {x0 x1 x2 y : D} {l : List D} : (x0 :: x1 :: x2 :: l).set 2 y = x0 :: x1 :: y :: l := rfl
@[simp] theorem e_s3 {x0 x1 x2 x3 y : D} {l : List D} : (x0 :: x1 :: x2 :: x3 :: l).set 3 y = x0 :: x1 :: x2 :: y :: l := rfl
@[simp] theorem e_s4 {x0 x1 x2 x3 x4 y : D} {l : List D} : (x0 :: x1 :: x2 :: x3 :: x4 :: l).set 4 y = x0 :: x1 :: x2 :: x3 :: y :: l := rfl
@[simp] theorem e_s5 {x0 x1 x2 x3 x4 x5 y : D} {l : List D} : (x0 :: x1 :: x2 :: x3 :: x4 :: x5 :: l).set 5 y = x0 :: x1 :: x2 :: x3 :: x4 :: y :: l := rfl
@[simp] theorem e_s6 {x0 x1 x2 x3 x4 x5 x6 y : D} {l : List D} : (x0 :: x1 :: x2 :: x3 :: x4 :: x5 :: x6 :: l).set 6 y = x0 :: x1 :: x2 :: x3 :: x4 :: x5 :: y :: l := rfl
@[simp] theorem e_s7 {x0 x1 x2 x3 x4 x5 x6 x7 y : D} {l : List D} : (x0 :: x1 :: x2 :: x3 :: x4 :: x5 :: x6 :: x7 :: l).set 7 y = x0 :: x1 :: x2 :: x3 :: x4 :: x5 :: x6 :: y :: l := rfl
@[simp] theorem e_s8 {x0 x1 x2 x3 x4 x5 x6 x7 x8 y : D} {l : List D} : (x0 :: x1 :: x2 :: x3 :: x4 :: x5 :: x6 :: x7 :: x8 :: l).set 8 y = x0 :: x1 :: x2 :: x3 :: x4 :: x5 :: x6 :: x7 :: y :: l := rfl
@[simp] theorem e_s9 {x0 x1 x2 x3 x4 x5 x6 x7 x8 x9 y : D} {l : List D} : (x0 :: x1 :: x2 :: x3 :: x4 :: x5 :: x6 :: x7 :: x8 :: x9 :: l).set 9 y = x0 :: x1 :: x2 :: x3 :: x4 :: x5 :: x6 :: x7 :: x8 :: y :: l := rfl
@[simp] theorem e_s10 {x0 x1 x2 x3 x4 x5 x6 x7 x8 x9 x10 y : D} {l : List D} : (x0 :: x1 :: x2 :: x3 :: x4 :: x5 :: x6 :: x7 :: x8 :: x9 :: x10 :: l).set 10 y = x0 :: x1 :: x2 :: x3 :: x4 :: x5 :: x6 :: x7 :: x8 :: x9 :: y :: l := rfl
@[simp] theorem e_s11 {x0 x1 x2 x3 x4 x5 x6 x7 x8 x9 x10 x11 y : D} {l : List D} : (x0 :: x1 :: x2 :: x3 :: x4 :: x5 :: x6 :: x7 :: x8 :: x9 :: x10 :: x11 :: l).set 11 y = x0 :: x1 :: x2 :: x3 :: x4 :: x5 :: x6 :: x7 :: x8 :: x9 :: x10 :: y :: l := rfl
@[simp] theorem e_s12 {x0 x1 x2 x3 x4 x5 x6 x7 x8 x9 x10 x11 x12 y : D} {l : List D} : (x0 :: x1 :: x2 :: x3 :: x4 :: x5 :: x6 :: x7 :: x8 :: x9 :: x10 :: x11 :: x12 :: l).set 12 y = x0 :: x1 :: x2 :: x3 :: x4 :: x5 :: x6 :: x7 :: x8 :: x9 :: x10 :: x11 :: y :: l := rfl
@[simp] theorem e_s13 {x0 x1 x2 x3 x4 x5 x6 x7 x8 x9 x10 x11 x12 x13 y : D} {l : List D} : (x0 :: x1 :: x2 :: x3 :: x4 :: x5 :: x6 :: x7 :: x8 :: x9 :: x10 :: x11 :: x12 :: x13 :: l).set 13 y = x0 :: x1 :: x2 :: x3 :: x4 :: x5 :: x6 :: x7 :: x8 :: x9 :: x10 :: x11 :: x12 :: y :: l := rfl
@[simp] theorem e_s14 {x0 x1 x2 x3 x4 x5 x6 x7 x8 x9 x10 x11 x12 x13 x14 y : D} {l : List D} : (x0 :: x1 :: x2 :: x3 :: x4 :: x5 :: x6 :: x7 :: x8 :: x9 :: x10 :: x11 :: x12 :: x13 :: x14 :: l).set 14 y = x0 :: x1 :: x2 :: x3 :: x4 :: x5 :: x6 :: x7 :: x8 :: x9 :: x10 :: x11 :: x12 :: x13 :: y :: l := rfl
@[simp] theorem e_s15 {x0 x1 x2 x3 x4 x5 x6 x7 x8 x9 x10 x11 x12 x13 x14 x15 y : D} {l : List D} : (x0 :: x1 :: x2 :: x3 :: x4 :: x5 :: x6 :: x7 :: x8 :: x9 :: x10 :: x11 :: x12 :: x13 :: x14 :: x15 :: l).set 15 y = x0 :: x1 :: x2 :: x3 :: x4 :: x5 :: x6 :: x7 :: x8 :: x9 :: x10 :: x11 :: x12 :: x13 :: x14 :: y :: l := rfl
@[simp] theorem e_r0 {x : D} : List.replicate 0 x = [] := rfl
@[simp] theorem e_r1 {x : D} : List.replicate 1 x = [x] := rfl
@[simp] theorem e_r2 {x : D} : List.replicate 2 x = [x, x] := rfl
@[simp] theorem e_r3 {x : D} : List.replicate 3 x = [x, x, x] := rfl
@[simp] theorem e_r4 {x : D} : List.replicate 4 x = [x, x, x, x] := rfl
@[simp] theorem e_r5 {x : D} : List.replicate 5 x = [x, x, x, x, x] := rfl
@[simp] theorem e_r6 {x : D} : List.replicate 6 x = [x, x, x, x, x, x] := rfl
@[simp] theorem e_r7 {x : D} : List.replicate 7 x = [x, x, x, x, x, x, x] := rfl
@[simp] theorem e_r8 {x : D} : List.replicate 8 x = [x, x, x, x, x, x, x, x] := rfl
@[simp] theorem e_r9 {x : D} : List.replicate 9 x = [x, x, x, x, x, x, x, x, x] := rfl
@[simp] theorem e_r10 {x : D} : List.replicate 10 x = [x, x, x, x, x, x, x, x, x, x] := rfl
@[simp] theorem e_r11 {x : D} : List.replicate 11 x = [x, x, x, x, x, x, x, x, x, x, x] := rfl
@[simp] theorem e_r12 {x : D} : List.replicate 12 x = [x, x, x, x, x, x, x, x, x, x, x, x] := rfl
@[simp] theorem e_r13 {x : D} : List.replicate 13 x = [x, x, x, x, x, x, x, x, x, x, x, x, x] := rfl
@[simp] theorem e_r14 {x : D} : List.replicate 14 x = [x, x, x, x, x, x, x, x, x, x, x, x, x, x] := rfl
@[simp] theorem e_r15 {x : D} : List.replicate 15 x = [x, x, x, x, x, x, x, x, x, x, x, x, x, x, x] := rfl
@[simp] theorem e_ixt0 {x0 : D} {l : List D} : ixD (.tup (x0 :: l)) (.int 0) = .ok x0 := e_ixt (k := 0) rfl
@[simp] theorem e_ixt1 {x0 x1 : D} {l : List D} : ixD (.tup (x0 :: x1 :: l)) (.int 1) = .ok x1 := e_ixt (k := 1) rfl
@[simp] theorem e_ixt2 {x0 x1 x2 : D} {l : List D} : ixD (.tup (x0 :: x1 :: x2 :: l)) (.int 2) = .ok x2 := e_ixt (k := 2) rfl
@[simp] theorem e_ixt3 {x0 x1 x2 x3 : D} {l : List D} : ixD (.tup (x0 :: x1 :: x2 :: x3 :: l)) (.int 3) = .ok x3 := e_ixt (k := 3) rfl
@[simp] theorem e_ixt4 {x0 x1 x2 x3 x4 : D} {l : List D} : ixD (.tup (x0 :: x1 :: x2 :: x3 :: x4 :: l)) (.int 4) = .ok x4 := e_ixt (k := 4) rfl
@[simp] theorem e_ixt5 {x0 x1 x2 x3 x4 x5 : D} {l : List D} : ixD (.tup (x0 :: x1 :: x2 :: x3 :: x4 :: x5 :: l)) (.int 5) = .ok x5 := e_ixt (k := 5) rfl
@[simp] theorem e_ixt6 {x0 x1 x2 x3 x4 x5 x6 : D} {l : List D} : ixD (.tup (x0 :: x1 :: x2 :: x3 :: x4 :: x5 :: x6 :: l)) (.int 6) = .ok x6 := e_ixt (k := 6) rfl
@[simp] theorem e_ixt7 {x0 x1 x2 x3 x4 x5 x6 x7 : D} {l : List D} : ixD (.tup (x0 :: x1 :: x2 :: x3 :: x4 :: x5 :: x6 :: x7 :: l)) (.int 7) = .ok x7 := e_ixt (k := 7) rfl
@[simp] theorem e_ixl0 {x0 : D} {l : List D} : ixD (.lst (x0 :: l)) (.int 0) = .ok x0 := e_ixl (k := 0) rfl
@[simp] theorem e_ixl1 {x0 x1 : D} {l : List D} : ixD (.lst (x0 :: x1 :: l)) (.int 1) = .ok x1 := e_ixl (k := 1) rfl
@[simp] theorem e_ixl2 {x0 x1 x2 : D} {l : List D} : ixD (.lst (x0 :: x1 :: x2 :: l)) (.int 2) = .ok x2 := e_ixl (k := 2) rfl
@[simp] theorem e_ixl3 {x0 x1 x2 x3 : D} {l : List D} : ixD (.lst (x0 :: x1 :: x2 :: x3 :: l)) (.int 3) = .ok x3 := e_ixl (k := 3) rfl
@[simp] theorem e_ixl4 {x0 x1 x2 x3 x4 : D} {l : List D} : ixD (.lst (x0 :: x1 :: x2 :: x3 :: x4 :: l)) (.int 4) = .ok x4 := e_ixl (k := 4) rfl
@[simp] theorem e_ixl5 {x0 x1 x2 x3 x4 x5 : D} {l : List D} : ixD (.lst (x0 :: x1 :: x2 :: x3 :: x4 :: x5 :: l)) (.int 5) = .ok x5 := e_ixl (k := 5) rfl
@[simp] theorem e_ixl6 {x0 x1 x2 x3 x4 x5 x6 : D} {l : List D} : ixD (.lst (x0 :: x1 :: x2 :: x3 :: x4 :: x5 :: x6 :: l)) (.int 6) = .ok x6 := e_ixl (k := 6) rfl
@[simp] theorem e_ixl7 {x0 x1 x2 x3 x4 x5 x6 x7 : D} {l : List D} : ixD (.lst (x0 :: x1 :: x2 :: x3 :: x4 :: x5 :: x6 :: x7 :: l)) (.int 7) = .ok x7 := e_ixl (k := 7) rfl
end
/-! ### sizes -/
def Sz (x : Int) (b : Nat) : Prop := x.natAbs < 2 ^ b
theorem Sz.up {x : Int} {a b : Nat} (h : Sz x a) (l : a ≤ b) : Sz x b := Nat.lt_of_lt_of_le h (Nat.pow_le_pow_right (by decide) l)
theorem sz_mul {x y : Int} {a b : Nat} (h : Sz x a) (k : Sz y b) : Sz (x * y) (a + b) := by
  unfold Sz at *
  rw [Int.natAbs_mul, Nat.pow_add]
  exact Nat.mul_lt_mul'' h k
theorem sz_add {x y : Int} {a : Nat} (h : Sz x a) (k : Sz y a) : Sz (x + y) (a + 1) := by
  unfold Sz at *
  rw [Nat.pow_succ]
  omega
theorem sz_sub {x y : Int} {a : Nat} (h : Sz x a) (k : Sz y a) : Sz (x - y) (a + 1) := by
  unfold Sz at *
  rw [Nat.pow_succ]
  omega
theorem sz_neg {x : Int} {a : Nat} (h : Sz x a) : Sz (-x) a := by
  unfold Sz at *
  rw [Int.natAbs_neg]
  exact h
theorem sz_le {x y : Int} {a : Nat} (h : Sz y a) (k : x.natAbs ≤ y.natAbs) : Sz x a := Nat.lt_of_le_of_lt k h
theorem sz_mod {x y : Int} {a : Nat} (h : Sz y a) (k : 0 < y) : Sz (x % y) a := sz_le h (by
  have h1 := Int.emod_nonneg x (show y ≠ 0 by omega)
  have h2 := Int.emod_lt_of_pos x k
  omega)
theorem natAbs_ediv_le (x y : Int) (k : 0 < y) : (x / y).natAbs ≤ x.natAbs := by
  rcases Int.lt_or_le x 0 with c | c
  · have e1 : x / y < 0 := Int.ediv_neg_of_neg_of_pos c k
    have e2 : x ≤ x / y := Int.le_ediv_of_mul_le k (by
      have : x * y ≤ x * 1 := Int.mul_le_mul_of_nonpos_left (by omega) (by omega)
      omega)
    omega
  · have e1 : 0 ≤ x / y := Int.ediv_nonneg c (by omega)
    have e2 : x / y ≤ x := Int.ediv_le_self _ c
    omega
theorem sz_div {x y : Int} {a : Nat} (h : Sz x a) (k : 0 < y) : Sz (x / y) a := sz_le h (natAbs_ediv_le x y k)
theorem sz_log {x : Int} {a : Nat} (h : Sz x a) : x.natAbs.log2 ≤ a := by
  rcases Nat.eq_zero_or_pos x.natAbs with e | e
  · rw [e]
    exact Nat.le_trans (by decide) (Nat.zero_le a)
  · exact Nat.le_of_lt ((Nat.log2_lt (by omega)).mpr h)
theorem mD_ok {x y : Int} {a b : Nat} (h : Sz x a) (k : Sz y b) (l : a + b < 100000000) : mD (.int x) (.int y) = .ok (.int (x * y)) := by
  have h1 := sz_log h
  have h2 := sz_log k
  show (if _ then _ else _) = _
  rw [if_pos (decide_eq_true (by omega))]
theorem qD_ok {x y : Int} {b : Nat} (h : 0 < y) (k : Sz y b) (l : b < 9000) : qD (.int x) (.int y) = .ok (.int (x / y)) := by
  have h2 := sz_log k
  show (if _ then _ else _) = _
  rw [if_pos (decide_eq_true ⟨h, by omega⟩)]
theorem rD_ok {x y : Int} (h : 0 < y) : rD (.int x) (.int y) = .ok (.int (x % y)) := by
  show (if _ then _ else _) = _
  rw [if_pos (decide_eq_true h)]
def BB : Nat := 1048576
theorem sz_bits {z : Int} (h : Builtin.Int.intBits z ≤ 1048576) : Sz z BB := by
  have h : Builtin.Int.intBits z ≤ BB := h
  unfold Builtin.Int.intBits at h
  unfold Sz
  split at h
  · rename_i e
    have e2 : z = 0 := by simpa using e
    rw [e2]
    exact Nat.pow_pos (by decide)
  · rename_i e
    have e2 : z.natAbs ≠ 0 := fun q => e (by simpa using q)
    exact (Nat.log2_lt e2).mp (by omega)
theorem lgs {x y : Int} {a b : Nat} (h : Sz x a) (k : Sz y b) (l : a + b < 100000000) : x.natAbs.log2 + y.natAbs.log2 < 100000000 := Nat.lt_of_le_of_lt (Nat.add_le_add (sz_log h) (sz_log k)) l
theorem lgd {y : Int} {b : Nat} (k : Sz y b) (l : b < 9000) : y.natAbs.log2 < 9000 := Nat.lt_of_le_of_lt (sz_log k) l
theorem sz_lit (x : Int) : Sz x (x.natAbs.log2 + 1) := by
  unfold Sz
  exact Nat.lt_log2_self
theorem sz_add' {x y : Int} {a b : Nat} (h : Sz x a) (k : Sz y b) : Sz (x + y) (a + b + 1) := sz_add (h.up (Nat.le_add_right a b)) (k.up (Nat.le_add_left b a))
theorem sz_sub' {x y : Int} {a b : Nat} (h : Sz x a) (k : Sz y b) : Sz (x - y) (a + b + 1) := sz_sub (h.up (Nat.le_add_right a b)) (k.up (Nat.le_add_left b a))
theorem sz_of {x : Int} {b : Nat} (h0 : 0 ≤ x) (h : x < 2 ^ b) : Sz x b := by
  unfold Sz
  have e : ((2 : Int) ^ b) = ((2 ^ b : Nat) : Int) := by simp
  rw [e] at h
  omega
@[simp] theorem e_mD {x y : Int} (h : x.natAbs.log2 + y.natAbs.log2 < 100000000) : mD (.int x) (.int y) = .ok (.int (x * y)) := by
  show (if _ then _ else _) = _
  rw [if_pos (decide_eq_true h)]
@[simp] theorem e_qD {x y : Int} (h : 0 < y) (h2 : y.natAbs.log2 < 9000) : qD (.int x) (.int y) = .ok (.int (x / y)) := by
  show (if _ then _ else _) = _
  rw [if_pos (decide_eq_true ⟨h, h2⟩)]
@[simp] theorem e_rD {x y : Int} (h : 0 < y) : rD (.int x) (.int y) = .ok (.int (x % y)) := rD_ok h
@[simp] theorem e_pD {x y : Int} (h : 0 ≤ y) (h2 : y ≤ 1000000) (h3 : x.natAbs < 2 ^ 64) : pD (.int x) (.int y) = .ok (.int (x ^ y.toNat)) := by
  show (if _ then _ else _) = _
  rw [if_pos (decide_eq_true ⟨h, h2, h3⟩)]
theorem sz_item {ns : List Int} {i : Nat} (hb : ∀ z ∈ ns, Builtin.Int.intBits z ≤ 1048576) : Sz (ns.getD i 0) BB := by
  rw [List.getD_eq_getElem?_getD]
  cases e : ns[i]? with
  | none => exact Nat.pow_pos (by decide)
  | some z => exact sz_bits (hb z (List.mem_of_getElem? e))
/-- a while, one turn -/
theorem whl_unf {c : MT} {b : MS} {τ : Ts} : whl c b τ = (c τ).out τ fun k => if k = true then (b τ).bnd (whl c b) else .nx τ := by
  have one : ∀ n, wh c b (n + 1) τ = (c τ).out τ fun k => if k = true then (b τ).bnd (wh c b n) else .nx τ := fun n => by
    show (match c τ with
          | .no => Out.no
          | .ex e => .ex e τ
          | .ok false => .nx τ
          | .ok true => (match b τ with
            | .nx τ'' => wh c b n τ''
            | o => o)) = _
    cases c τ with
    | no => rfl
    | ex x => rfl
    | ok k => cases k <;> rfl
  cases hc : c τ with
  | no =>
    show _ = Out.no
    unfold whl
    rw [dif_neg]
    rintro ⟨n, h⟩
    cases n with
    | zero => exact h rfl
    | succ n => rw [one n, hc] at h; exact h rfl
  | ex x =>
    have e : wh c b 1 τ = .ex x τ := by rw [one 0, hc] <;> rfl
    rw [whl_of (n := 1) (by rw [e]; exact fun z => nomatch z), e]
    rfl
  | ok k =>
    cases k with
    | false =>
      have e : wh c b 1 τ = .nx τ := by rw [one 0, hc] <;> rfl
      rw [whl_of (n := 1) (by rw [e]; exact fun z => nomatch z), e]
      rfl
    | true =>
      show _ = (b τ).bnd (whl c b)
      cases hb : b τ with
      | nx τ' =>
        show _ = whl c b τ'
        have st : ∀ n, wh c b (n + 1) τ = wh c b n τ' := fun n => by rw [one n, hc]; show (b τ).bnd _ = _; rw [hb]; rfl
        by_cases h : ∃ n, wh c b n τ' ≠ .no
        · obtain ⟨n, h⟩ := h
          rw [whl_of h, whl_of (n := n + 1) (by rw [st n]; exact h), st n]
        · have e1 : whl c b τ' = .no := by unfold whl; rw [dif_neg h]
          rw [e1]
          unfold whl
          rw [dif_neg]
          rintro ⟨n, h2⟩
          cases n with
          | zero => exact h2 rfl
          | succ n => rw [st n] at h2; exact h ⟨n, h2⟩
      | no =>
        have st : ∀ n, wh c b (n + 1) τ = .no := fun n => by rw [one n, hc]; show (b τ).bnd _ = _; rw [hb]; rfl
        show _ = Out.no
        unfold whl
        rw [dif_neg]
        rintro ⟨n, h2⟩
        cases n with
        | zero => exact h2 rfl
        | succ n => exact h2 (st n)
      | ex x τ' =>
        have e : wh c b 1 τ = .ex x τ' := by rw [one 0, hc]; show (b τ).bnd _ = _; rw [hb]; rfl
        rw [whl_of (n := 1) (by rw [e]; exact fun z => nomatch z), e]
        rfl
      | rt d =>
        have e : wh c b 1 τ = .rt d := by rw [one 0, hc]; show (b τ).bnd _ = _; rw [hb]; rfl
        rw [whl_of (n := 1) (by rw [e]; exact fun z => nomatch z), e]
        rfl
/-- dividing again and again -/
theorem gcd_loop {l : Ts} : ∀ (b a : Nat), whl (tb (o2 gtD (vr 1) (kc (.int 0)))) (par 0 1 (vr 1) (o2 rD (vr 0) (vr 1))) (.int (a : Int) :: .int (b : Int) :: l) = .nx (.int (Nat.gcd a b : Nat) :: .int 0 :: l) := by
  intro b
  induction b using Nat.strongRecOn with
  | ind b ih =>
    intro a
    rw [whl_unf]
    rcases Nat.eq_zero_or_pos b with e | e
    · subst e
      simp
    · have h : 0 < (b : Int) := by omega
      have e2 : (a : Int) % (b : Int) = ((a % b : Nat) : Int) := by simp
      simp [e, e_rD h, -Int.natCast_emod]
      rw [e2, ih (a % b) (Nat.mod_lt a e) b]
      have e3 : Nat.gcd b (a % b) = Nat.gcd a b := by rw [Nat.gcd_comm b, ← Nat.gcd_rec, Nat.gcd_comm]
      rw [e3]
section
variable {i j : Int} {x y : Str} {l : List D} {d : D}
@[simp] theorem e_fli : flD (.int i) = true := rfl
@[simp] theorem e_fls : flD (.str x) = true := rfl
@[simp] theorem e_fln : flD .non = true := rfl
@[simp] theorem e_eqFi : eqF (.int i) (.int j) = decide (i = j) := rfl
@[simp] theorem e_eqFs : eqF (.str x) (.str y) = decide (x = y) := rfl
@[simp] theorem e_eqFis : eqF (.int i) (.str y) = false := rfl
@[simp] theorem e_eqFsi : eqF (.str x) (.int j) = false := rfl
@[simp] theorem e_inl : inS d (.lst l) = if flD d && l.all flD then .ok (l.any fun y => eqF y d) else .no := rfl
@[simp] theorem e_int : inS d (.tup l) = if flD d && l.all flD then .ok (l.any fun y => eqF y d) else .no := rfl
@[simp] theorem e_in {a b : D} : inD a b = (inS a b).bind fun b => .ok (.bl b) := rfl
@[simp] theorem e_nin {a b : D} : ninD a b = (inS a b).bind fun b => .ok (.bl (!b)) := rfl
end
/-! ### what is never come to -/
def stuck : MS := fun _ => .no
@[simp] theorem e_stuck {τ : Ts} : stuck τ = .no := rfl
theorem cs_stuck {X : Cx} {w : Wx} {ms ms2 : Ms} {mr : Md} {st : Stmt} : CS X w ms ms2 mr st stuck := ⟨tNever, ps_never, fun τ O H σ C D F n => (n rfl).elim⟩
/-- what is asked of a law's def -/
def spL (K : PySem.W.Frag) (F : List D → Rs D) : Sp := fun vs H Q _ => vs.length = 1 ∧ ∃ ds, Dens K O0 H ds vs ∧ F ds = .ok (.bl true) ∧ ∀ H', Q (.bl true) H'
theorem spL_of {K : PySem.W.Frag} {cl : String → Option Value} {md : Md} {F : List D → Rs D} (vs : List V) (H : Hp) (Q : VK) (E : XK) (h : spL K F vs H Q E) : spM K cl 1 md F vs H Q E := by
  obtain ⟨hl, ds, q, e, k⟩ := h
  refine ⟨hl, ds, O0, q, fun _ z => z.elim, (fun z => by rw [e] at z; cases z), fun d H' A v e2 nw r => ?_, fun x H' cls dd e2 => ?_⟩
  · rw [e] at e2
    cases e2
    rw [vok_bl'.mp r]
    exact k H'
  · rw [e] at e2
    cases e2
theorem law_spL {K : PySem.W.Frag} {F : List D → Rs D} {H : Hp} {a : Addr} {ns : List Int} (hO : Only H) (hS : SqL K H a (ns.map V.int)) (e : F [.scr (ns.map D.int)] = .ok (.bl true)) :
    spL K F [.ref a] H (fun v _ => v = .bl true) fun _ _ _ => False :=
  ⟨rfl, [.scr (ns.map D.int)], ⟨.ref a, [], rfl, ⟨a, ns.map V.int, rfl, scl_of hO hS, dens_ints ns⟩, rfl⟩, e, fun _ => rfl⟩
end Mx

set_option Elab.async false
set_option linter.all false
set_option maxRecDepth 100000
/-! Mx2: lists that change, comprehensions, more of what is built in. -/
namespace Mx
open PySem PySem.Spec PyProof.Rows L2
/-! ### a list of one's own changes -/
section
variable {K : PySem.W.Frag} {C O A : Own} {H : Hp} {p : Addr} {vs : List V} {o : HO}
theorem grS_upd (hp : H p = some (.lst vs)) (hO : O p) (hC : ¬ C p) : GrS C O H O (upd H p o) :=
  ⟨fun a u h c => by
    rw [upd_ne]
    · exact h
    · rintro rfl
      exact c.elim (fun z => z hO) hC, fun a xs h => by
    rw [upd_ne (ne_of h hp (by intro z; cases z))]
    exact h, fun a u w h => by
    rw [upd_ne (ne_of h hp (by intro z; cases z))]
    exact h, fun a z => .inl z⟩
mutual
theorem dp_upd (hp : H p = some (.lst vs)) : ∀ (d : D) (v : V) (A : Own), ¬ A p → Dp K H d v A → Dp K (upd H p o) d v A
  | .non, v, _, _, h => h
  | .bl b, v, _, _, h => h
  | .int i, v, _, _, h => h
  | .str s, v, _, _, h => h
  | .tup ds, v, A, n, h => by
    obtain ⟨q, ws, e, s, r⟩ := h
    refine ⟨q, ws, e, ?_, dps_upd hp ds ws A n r⟩
    rcases s with (s | ⟨o', s⟩) | s
    · exact .inl (.inl (by rw [upd_ne (ne_of s hp (by intro z; cases z))]; exact s))
    · exact .inl (.inr ⟨o', by rw [upd_ne (ne_of s hp (by intro z; cases z))]; exact s⟩)
    · exact .inr s
  | .lst ds, v, A, n, h => by
    obtain ⟨q, ws, A1, e, s, a, m, l, r⟩ := h
    refine ⟨q, ws, A1, e, ?_, a, m, l, dps_upd hp ds ws A1 (fun z => n (l p z)) r⟩
    rw [upd_ne]
    · exact s
    · rintro rfl
      exact n a
  | .dct _ _, v, _, _, h => h.elim
  | .exc _ _, v, _, _, h => h.elim
  | .scr _, v, _, _, h => h.elim
theorem dps_upd (hp : H p = some (.lst vs)) : ∀ (ds : List D) (ws : List V) (A : Own), ¬ A p → Dps K H ds ws A → Dps K (upd H p o) ds ws A
  | [], ws, _, _, h => h
  | d :: ds, ws, A, n, h => by
    obtain ⟨v, r, A1, A2, e, x, l1, l2, a, b⟩ := h
    exact ⟨v, r, A1, A2, e, x, l1, l2, dp_upd hp d v A1 (fun z => n (l1 p z)) a, dps_upd hp ds r A2 (fun z => n (l2 p z)) b⟩
end
theorem dens_app {O : Own} : ∀ {l m : List D} {us ws : List V}, Dens K O H l us → Dens K O H m ws → Dens K O H (l ++ m) (us ++ ws)
  | [], m, us, ws, h, k => by
    have e : us = [] := h
    subst e
    exact k
  | d :: l, m, us, ws, h, k => by
    obtain ⟨v, r, rfl, a, b⟩ := h
    exact ⟨v, r ++ ws, rfl, a, dens_app b k⟩
theorem dens_take {O : Own} : ∀ (k : Nat) {l : List D} {us : List V}, Dens K O H l us → Dens K O H (l.take k) (us.take k)
  | 0, l, us, h => rfl
  | k + 1, [], us, h => by
    have e : us = [] := h
    subst e
    exact rfl
  | k + 1, d :: l, us, h => by
    obtain ⟨v, r, rfl, a, b⟩ := h
    exact ⟨v, r.take k, rfl, a, dens_take k b⟩
theorem dens_drop {O : Own} : ∀ (k : Nat) {l : List D} {us : List V}, Dens K O H l us → Dens K O H (l.drop k) (us.drop k)
  | 0, l, us, h => h
  | k + 1, [], us, h => by
    have e : us = [] := h
    subst e
    exact rfl
  | k + 1, d :: l, us, h => by
    obtain ⟨v, r, rfl, a, b⟩ := h
    exact dens_drop k b
theorem dens_rev {O : Own} : ∀ {l : List D} {us : List V}, Dens K O H l us → Dens K O H l.reverse us.reverse
  | [], us, h => by
    have e : us = [] := h
    subst e
    exact rfl
  | d :: l, us, h => by
    obtain ⟨v, r, rfl, a, b⟩ := h
    rw [List.reverse_cons, List.reverse_cons]
    exact dens_app (dens_rev b) ⟨v, [], rfl, a, rfl⟩
theorem dps_app : ∀ {l m : List D} {us ws : List V} {A B : Own}, Dps K H l us A → Dps K H m ws B → (∀ a, A a → B a → False) → Dps K H (l ++ m) (us ++ ws) (Own.or A B)
  | [], m, us, ws, A, B, h, k, x => by
    have e : us = [] := h
    subst e
    exact dps_over m ws B _ (fun a z => .inr z) k
  | d :: l, m, us, ws, A, B, h, k, x => by
    obtain ⟨v, r, A1, A2, rfl, xx, l1, l2, a, b⟩ := h
    exact ⟨v, r ++ ws, A1, Own.or A2 B, rfl, fun a z w => w.elim (xx a z) fun q => x a (l1 a z) q, fun a z => .inl (l1 a z), fun a z => z.elim (fun q => .inl (l2 a q)) .inr, a, dps_app b k fun a z w => x a (l2 a z) w⟩
theorem dps_split : ∀ (k : Nat) {l : List D} {us : List V} {A : Own}, Dps K H l us A → ∃ A1 A2 : Own, (∀ a, A1 a → A2 a → False) ∧ (∀ a, A1 a → A a) ∧ (∀ a, A2 a → A a) ∧ Dps K H (l.take k) (us.take k) A1 ∧ Dps K H (l.drop k) (us.drop k) A2
  | 0, l, us, A, h => ⟨O0, A, fun _ z => z.elim, fun _ z => z.elim, fun _ z => z, rfl, h⟩
  | k + 1, [], us, A, h => by
    have e : us = [] := h
    subst e
    exact ⟨O0, O0, fun _ z => z.elim, fun _ z => z.elim, fun _ z => z.elim, rfl, rfl⟩
  | k + 1, d :: l, us, A, h => by
    obtain ⟨v, r, A1, A2, rfl, xx, l1, l2, a, b⟩ := h
    obtain ⟨B1, B2, y, m1, m2, c, e⟩ := dps_split k b
    exact ⟨Own.or A1 B1, B2, fun a z w => z.elim (fun q => xx a q (m2 a w)) fun q => y a q w, fun a z => z.elim (l1 a) fun q => l2 a (m1 a q), fun a z => l2 a (m2 a z), ⟨v, r.take k, A1, B1, rfl, fun a z w => xx a z (m1 a w), fun a z => .inl z, fun a z => .inr z, a, c⟩, e⟩
theorem dps_rev : ∀ {l : List D} {us : List V} {A : Own}, Dps K H l us A → Dps K H l.reverse us.reverse A
  | [], us, A, h => by
    have e : us = [] := h
    subst e
    exact rfl
  | d :: l, us, A, h => by
    obtain ⟨v, r, A1, A2, rfl, xx, l1, l2, a, b⟩ := h
    rw [List.reverse_cons, List.reverse_cons]
    exact dps_over _ _ _ _ (fun a z => z.elim (l2 a) (l1 a)) (dps_app (dps_rev b) (B := A1) ⟨v, [], A1, O0, rfl, fun _ _ z => z.elim, fun _ z => z, fun _ z => z.elim, a, rfl⟩ fun a z w => xx a w z)
end
/-- what a method does to a list: by its items, the arguments -/
def LSt (K : PySem.W.Frag) (ma : Md) (f : List D → List D → Rs (List D)) (r : V → List V → Hp → VK → Prop) : Prop :=
  ∀ O H p vs l xs ds A1 Ae l', H p = some (.lst vs) → O p → (∀ a, A1 a → Ae a → False) → ¬ A1 p → ¬ Ae p → VOKs K ma O H A1 l vs → VOKs K ma O H Ae ds xs → f l ds = .ok l' →
    ∃ vs' y, VOKs K ma O H (Own.or A1 Ae) l' vs' ∧ ∀ Q : VK, Q y (upd H p (.lst vs')) → r (.ref p) xs H Q
def lm (i : Nat) (f : List D → List D → Rs (List D)) (es : MA) : MS := fun τ => match τ[i]? with
  | some (.lst l) => (match es τ with
    | .ok ds => (match f l ds with
      | .ok l' => .nx (τ.set i (.lst l'))
      | _ => .no)
    | .ex x => .ex x τ
    | .no => .no)
  | _ => .no
def okMs (ms : Ms) : Bool := ms.all fun m => match m with
  | some .bw => false
  | some .bo => false
  | _ => true
def mdO : Md → Md
  | .fz => .own
  | m => m
section
variable {P : Px} {ms ms1 ms2 : Ms} {md ma mb mr : Md} {l : MA} {tl : TA} {i : Nat} {f : List D → List D → Rs (List D)} {r : V → List V → Hp → VK → Prop}
/-- slot i is changed at p -/
theorem fr_mut {K : PySem.W.Frag} {τ : Ts} {O C Ae : Own} {H : Hp} {σ : L2.St} {p : Addr} {vs : List V} {o : HO} {d' : D} {v : V} {A : Nat → Own} (f : Fr K ms τ O H σ (Own.or C Ae)) (a1 : ∀ i j a, A i a → A j a → i = j) (a2 : ∀ i a, A i a → O a ∧ ¬ Own.or C Ae a)
    (a3 : ∀ (i : Nat) md, ms[i]? = some (some md) → ∃ d v, τ[i]? = some d ∧ σ[i]? = some (some v) ∧ VOK K md O H (A i) d v) (x : ∀ a, Ae a → ¬ C a) (ei : ms[i]? = some (some md)) (hm : okMs ms = true) (hp : H p = some (.lst vs)) (hA : A i p) (ev : σ[i]? = some (some v))
    (q : VOK K md O (upd H p o) (Own.or (A i) Ae) d' v) : Fr K ms (τ.set i d') O (upd H p o) σ C := by
  have hO := (a2 i p hA).1
  have hC := (a2 i p hA).2
  refine ⟨by rw [List.length_set]; exact f.lm, by rw [List.length_set]; exact f.ls, fun a z => ?_, fun a z => f.sub a (.inl z), fun j a => A j a ∨ (j = i ∧ Ae a), fun j j' a z z' => ?_, fun j a z => ?_, fun j md' ej => ?_⟩
  · by_cases e : a = p
    · subst e
      rw [upd_same]
      exact fun z => nomatch z
    · rw [upd_ne e]
      exact f.dom a z
  · rcases z with z | ⟨e, z⟩
    · rcases z' with z' | ⟨e', z'⟩
      · exact a1 j j' a z z'
      · exact ((a2 j a z).2 (.inr z')).elim
    · rcases z' with z' | ⟨e', z'⟩
      · exact ((a2 j' a z').2 (.inr z)).elim
      · rw [e, e']
  · rcases z with z | ⟨e, z⟩
    · exact ⟨(a2 j a z).1, fun c => (a2 j a z).2 (.inl c)⟩
    · exact ⟨f.sub a (.inr z), x a z⟩
  · by_cases e : j = i
    · subst e
      rw [ei] at ej
      cases ej
      have hl : j < τ.length := by
        rw [← f.lm]
        exact (List.getElem?_eq_some_iff.mp ei).1
      exact ⟨d', v, List.getElem?_set_self hl, ev, q.over fun a z => z.elim .inl fun w => .inr ⟨rfl, w⟩⟩
    · obtain ⟨d, v', e1, e2, h⟩ := a3 j md' ej
      refine ⟨d, v', by rw [List.getElem?_set_ne (Ne.symm e)]; exact e1, e2, VOK.over ?_ fun a z => .inl z⟩
      have g : GrS O0 O H O (upd H p o) := grS_upd hp hO fun z => z
      have np : ¬ A j p := fun z => e (a1 j i p z hA)
      cases md' with
      | fz => exact den_monoS g d v' h
      | deep => exact dp_upd hp d v' (A j) np h
      | own =>
        cases d with
        | lst ds =>
          obtain ⟨q', ws, e3, h1, h2, h3⟩ := h
          refine ⟨q', ws, e3, ?_, h2, dens_monoS g ds ws h3⟩
          rw [upd_ne]
          · exact h1
          · rintro rfl
            exact np h2
        | _ => exact den_monoS g _ v' h
      | bw => exact nomatch (List.all_eq_true.mp hm _ (List.mem_of_getElem? ej))
      | bo => exact nomatch (List.all_eq_true.mp hm _ (List.mem_of_getElem? ej))
theorem lm_ok {τ : Ts} {es : MA} (n : lm i f es τ ≠ .no) : ∃ l, τ[i]? = some (.lst l) ∧ es τ ≠ .no ∧ (∀ x, es τ = .ex x → lm i f es τ = .ex x τ) ∧ ∀ ds, es τ = .ok ds → ∃ l', f l ds = .ok l' ∧ lm i f es τ = .nx (τ.set i (.lst l')) := by
  unfold lm at n ⊢
  split at n
  · rename_i l e
    refine ⟨l, e, fun z => n (by rw [z]), fun x z => by rw [z], fun ds z => ?_⟩
    rw [z] at n
    dsimp only at n
    cases q : f l ds with
    | ok l' => exact ⟨l', rfl, by rw [z]; dsimp only; rw [q]⟩
    | no => rw [q] at n; exact (n rfl).elim
    | ex z => rw [q] at n; exact (n rfl).elim
  · exact (n rfl).elim
theorem lm_core {τ : Ts} {O C A0 : Own} {H : Hp} {σ : L2.St} {ds : List D} {xs : List V} {l : List D} {l' : List D} {p : Addr} (hr : LSt P.K ma f r) (hma : ma = .fz ∨ ma = .deep) (F : Fr P.K ms τ O H σ (Own.or C A0)) (x : ∀ a, A0 a → ¬ C a) (ei : ms[i]? = some (some (mdO ma))) (hm : okMs ms = true)
    (el : τ[i]? = some (.lst l)) (ev : σ[i]? = some (some (.ref p))) (q : VOKs P.K ma O H A0 ds xs) (e : f l ds = .ok l') (Q : VK) (k : ∀ y H2, GrS C O H O H2 → Fr P.K ms (τ.set i (.lst l')) O H2 σ C → Q y H2) : r (.ref p) xs H Q := by
  obtain ⟨A, a1, a2, a3⟩ := F.slots
  obtain ⟨d, v, e1, e2, h⟩ := a3 i _ ei
  rw [el] at e1
  cases e1
  rw [ev] at e2
  cases e2
  rcases hma with rfl | rfl
  · obtain ⟨p', vs, e3, hp, hA, hd⟩ := h
    cases e3
    obtain ⟨vs', y, hd', hq⟩ := hr O H p vs l xs ds O0 O0 l' hp (a2 i p hA).1 (fun _ z => z.elim) (fun z => z) (fun z => z) hd q e
    have g : GrS O0 O H O (upd H p (.lst vs')) := grS_upd hp (a2 i p hA).1 fun z => z
    refine hq _ (k y _ (grS_upd hp (a2 i p hA).1 fun z => (a2 i p hA).2 (.inl z)) ?_)
    have hd2 : Dens P.K O H l' vs' := hd'
    exact fr_mut F a1 a2 a3 x ei hm hp hA ev ⟨p, vs', rfl, upd_same, .inl hA, dens_monoS g l' vs' hd2⟩
  · obtain ⟨p', vs, A1, e3, hp, hA, hn, hl, hd⟩ := h
    cases e3
    have np : ¬ A0 p := fun z => (a2 i p hA).2 (.inr z)
    obtain ⟨vs', y, hd', hq⟩ := hr O H p vs l xs ds A1 A0 l' hp (a2 i p hA).1 (fun a z w => (a2 i a (hl a z)).2 (.inr w)) hn np hd q e
    refine hq _ (k y _ (grS_upd hp (a2 i p hA).1 fun z => (a2 i p hA).2 (.inl z)) ?_)
    have hd2 : Dps P.K H l' vs' (Own.or A1 A0) := hd'
    have nn : ¬ Own.or A1 A0 p := fun z => z.elim hn np
    exact fr_mut F a1 a2 a3 x ei hm hp hA ev ⟨p, vs', Own.or A1 A0, rfl, upd_same, .inl hA, nn, fun a z => z.elim (fun w => .inl (hl a w)) .inr, dps_upd hp l' vs' _ nn hd2⟩
theorem slot_list {τ : Ts} {O C : Own} {H : Hp} {σ : L2.St} {l : List D} (F : Fr P.K ms τ O H σ C) (hma : ma = .fz ∨ ma = .deep) (ei : ms[i]? = some (some (mdO ma))) (el : τ[i]? = some (.lst l)) : ∃ p vs, σ[i]? = some (some (.ref p)) ∧ H p = some (.lst vs) := by
  obtain ⟨d, v, A, e1, e2, h⟩ := F.get ei
  rw [el] at e1
  cases e1
  rcases hma with rfl | rfl
  · obtain ⟨p, vs, rfl, hp, _⟩ := h
    exact ⟨p, vs, e2, hp⟩
  · obtain ⟨p, vs, _, rfl, hp, _⟩ := h
    exact ⟨p, vs, e2, hp⟩
theorem ss_lm (hr : LSt P.K ma f r) (hma : ma = .fz ∨ ma = .deep) (h : SA P ms ms1 ma l tl) (ei : ms[i]? = some (some (mdO ma))) (ei1 : ms1[i]? = some (some (mdO ma))) (hm : okMs ms1 = true) : SS P ms ms1 mr (lm i f l) (tDrop (tBM P.K "list" r (tVar i) tl)) := fun τ O H σ C D F n kn kr kx => by
  obtain ⟨l0, el, ne, nx, nk⟩ := lm_ok n
  obtain ⟨p, vs, ev, hp⟩ := slot_list F hma ei el
  refine ⟨.ref p, ev, .inl ⟨rfl, vs, .of hp⟩, ?_⟩
  refine h τ O H σ C _ F ne (fun ds O1 H1 A xs e g f1 x q => ?_) fun x e => (kx x τ (nx x e)).of
  obtain ⟨l', e2, e3⟩ := nk ds e
  exact lm_core hr hma f1 x ei1 hm el ev q e2 _ fun y H2 g2 f2 => kn _ O1 H2 σ e3 (g.s.trans g2) f2
theorem ss_lm0 (hr : LSt P.K ma f r) (hma : ma = .fz ∨ ma = .deep) (ei : ms[i]? = some (some (mdO ma))) (hm : okMs ms = true) : SS P ms ms mr (lm i f an) (tDrop (tBM0 P.K "list" r (tVar i))) := fun τ O H σ C D F n kn kr kx => by
  obtain ⟨l0, el, ne, nx, nk⟩ := lm_ok n
  obtain ⟨p, vs, ev, hp⟩ := slot_list F hma ei el
  refine ⟨.ref p, ev, .inl ⟨rfl, vs, .of hp⟩, ?_⟩
  obtain ⟨l', e2, e3⟩ := nk [] rfl
  have q : VOKs P.K ma O H O0 [] [] := by rcases hma with rfl | rfl <;> rfl
  exact lm_core hr hma (F.ctx or_none) (fun _ z => z.elim) ei hm el ev q e2 _ fun y H2 g2 f2 => kn _ O H2 σ e3 g2 f2
end
/-! the methods -/
def appF : List D → List D → Rs (List D) := fun l ds => match ds with
  | [d] => if l.length ≤ 1000000 then .ok (l ++ [d]) else .no
  | _ => .no
def insF : List D → List D → Rs (List D) := fun l ds => match ds with
  | [.int i, d] => if l.length ≤ 1000000 ∧ 0 ≤ i ∧ i ≤ 1000000 then .ok (l.take i.toNat ++ d :: l.drop i.toNat) else .no
  | _ => .no
def popF : List D → List D → Rs (List D) := fun l ds => match ds with
  | [] => if l = [] then .no else .ok l.dropLast
  | _ => .no
def revF : List D → List D → Rs (List D) := fun l ds => match ds with
  | [] => .ok l.reverse
  | _ => .no
def clrF : List D → List D → Rs (List D) := fun l ds => match ds with
  | [] => .ok []
  | _ => .no
section
variable {K : PySem.W.Frag} {ma : Md}
theorem sz_line {n : Nat} (h : n ≤ 1000000) : n < sizeLine := Nat.lt_of_le_of_lt h (by decide)
theorem lst_app (hma : ma = .fz ∨ ma = .deep) : LSt K ma appF rAppend := fun O H p vs l xs ds A1 Ae l' hp hO xx n1 n2 hd q e => by
  unfold appF at e
  split at e
  · split at e
    · rename_i d hl
      cases e
      obtain ⟨x, rfl, _⟩ := voks1 q
      have hlen : vs.length = l.length := voks_len hd
      refine ⟨vs ++ [x], .non, ?_, fun Q k => ⟨p, vs, x, rfl, rfl, hp, by rw [hlen]; exact sz_line hl, k⟩⟩
      rcases hma with rfl | rfl
      · exact dens_app hd q
      · exact dps_app hd q xx
    · cases e
  · cases e
def rIns : V → List V → Hp → VK → Prop := fun x vs H Q => ∃ (l : Addr) (xs : List V) (i : Int) (y : V), x = .ref l ∧ vs = [.int i, y] ∧ H l = some (.lst xs) ∧ xs.length < sizeLine ∧ 0 ≤ i ∧ i < 2 ^ 63 ∧ Q .non (upd H l (.lst (xs.take i.toNat ++ [y] ++ xs.drop i.toNat)))
theorem lst_ins (hma : ma = .fz ∨ ma = .deep) : LSt K ma insF rIns := fun O H p vs l xs ds A1 Ae l' hp hO xx n1 n2 hd q e => by
  unfold insF at e
  split at e
  · split at e
    · rename_i i d hl
      cases e
      obtain ⟨v, r, B1, B2, rfl, yy, l1, l2, h1, h2⟩ := voks_cons_inv q
      obtain ⟨x, rfl, _⟩ := voks1 h2
      have ev : v = .int i := vok_int'.mp h1
      have hlen : vs.length = l.length := voks_len hd
      refine ⟨vs.take i.toNat ++ x :: vs.drop i.toNat, .non, ?_, fun Q k => ⟨p, vs, i, x, rfl, by rw [ev], hp, by rw [hlen]; exact sz_line hl.1, hl.2.1, by omega, by rw [List.append_assoc]; exact k⟩⟩
      rcases hma with rfl | rfl
      · obtain ⟨x', r', e1, h3, _⟩ := h2
        cases e1
        exact dens_app (dens_take _ hd) ⟨x, _, rfl, h3, dens_drop _ hd⟩
      · obtain ⟨C1, C2, y1, m1, m2, c1, c2⟩ := dps_split i.toNat hd
        obtain ⟨x', r', E1, E2, e1, _, k1, _, h3, _⟩ := h2
        cases e1
        refine dps_over _ _ _ _ ?_ (dps_app c1 (B := Own.or Ae C2) ⟨x, _, E1, C2, rfl, fun a z w => xx a (m2 a w) (l2 a (k1 a z)), fun a z => .inl (l2 a (k1 a z)), fun a z => .inr z, h3, c2⟩ fun a z w => w.elim (fun q => xx a (m1 a z) q) fun q => y1 a z q)
        exact fun a z => z.elim (fun q => .inl (m1 a q)) fun q => q.elim .inr fun q => .inl (m2 a q)
    · cases e
  · cases e
theorem lst_pop (hma : ma = .fz ∨ ma = .deep) : LSt K ma popF rPop := fun O H p vs l xs ds A1 Ae l' hp hO xx n1 n2 hd q e => by
  unfold popF at e
  split at e
  · split at e
    · cases e
    · rename_i hl
      cases e
      have e1 : xs = [] := List.eq_nil_of_length_eq_zero (voks_len q)
      subst e1
      have hlen : vs.length = l.length := voks_len hd
      have hpos : 0 < vs.length := by rw [hlen]; exact List.length_pos_iff.mpr hl
      refine ⟨vs.dropLast, vs[vs.length - 1]'(by omega), ?_, fun Q k => ⟨p, vs, _, rfl, rfl, hp, List.getElem?_eq_getElem (by omega), k⟩⟩
      rw [List.dropLast_eq_take, List.dropLast_eq_take, hlen]
      rcases hma with rfl | rfl
      · exact dens_take _ hd
      · obtain ⟨C1, C2, y1, m1, m2, c1, c2⟩ := dps_split (l.length - 1) hd
        exact dps_over _ _ _ _ (fun a z => .inl (m1 a z)) c1
  · cases e
theorem lst_rev (hma : ma = .fz ∨ ma = .deep) : LSt K ma revF rReverse := fun O H p vs l xs ds A1 Ae l' hp hO xx n1 n2 hd q e => by
  unfold revF at e
  split at e
  · cases e
    have e1 : xs = [] := List.eq_nil_of_length_eq_zero (voks_len q)
    subst e1
    refine ⟨vs.reverse, .non, ?_, fun Q k => ⟨p, vs, rfl, rfl, hp, k⟩⟩
    rcases hma with rfl | rfl
    · exact dens_rev hd
    · exact dps_over _ _ _ _ (fun a z => .inl z) (dps_rev hd)
  · cases e
theorem lst_clr (hma : ma = .fz ∨ ma = .deep) : LSt K ma clrF rClear := fun O H p vs l xs ds A1 Ae l' hp hO xx n1 n2 hd q e => by
  unfold clrF at e
  split at e
  · cases e
    have e1 : xs = [] := List.eq_nil_of_length_eq_zero (voks_len q)
    subst e1
    refine ⟨[], .non, ?_, fun Q k => ⟨p, vs, rfl, rfl, hp, k⟩⟩
    rcases hma with rfl | rfl <;> rfl
  · cases e
end
section
variable {X : Cx} {w : Wx} {ms ms1 ms2 ms3 : Ms} {md ma mb mr : Md} {e ea eb : Expr} {es : List Expr} {a b : ME} {l : MA} {pos p2 p3 apos cpos : Pos} {n : Nat}
theorem cs_lm {name : Str} {id : String} {r : V → List V → Hp → VK → Prop} {f : List D → List D → Rs (List D)} (i : Nat) {x : Str} (slot : Slot "list" name id) (hty : typeOf (.builtin id) = pure (.type "method_descriptor")) (hmt : MtR X id r) (hr : LSt X.K ma f r) (hma : ma = .fz ∨ ma = .deep) (h : CA X w ms ms1 ma n (e :: es) l)
    (ei : ms[i]? = some (some (mdO ma)) := by rfl) (ei1 : ms1[i]? = some (some (mdO ma)) := by rfl) (hm : okMs ms1 = true := by rfl) (hN : X.N[i]? = some x := by rfl) (hv : Vis X.env.scope x := by first | exact Or.inl rfl | exact Or.inr (Or.inl rfl) | exact Or.inr (Or.inr rfl)) (hd : (x == ("__debug__" : Str)) = false := by decide) (hcd : (x == ("__classdict__" : Str)) = false := by decide)
    (hbase : attributeBase (.Name x p2) name X.env (eval (.Name x p2) X.env) = eval (.Name x p2) X.env := by rfl)
    (hfew : ((backTo cpos (starEach (e :: es) X.env)).all (fun x => !x.1) && (backToKw cpos (keywordEach [] X.env)).all (fun x => x.1.isSome)
      && decide ((e :: es).length + ([] : List Keyword).length + (if ([] : List Keyword).isEmpty then 0 else 1) < 30)) = true := by rfl)
    (hline : (apos.endLine == cpos.line) = true := by rfl) (hs : starEach (e :: es) X.env = (false, eval e X.env) :: starEach es X.env := by rfl) (hplain : (backTo cpos (starEach es X.env)).any (·.1) = false := by rfl)
    (hsw : swapsWith (.Call (.Attribute (.Name x p2) name apos) (e :: es) [] cpos) none pos.line X.env = pure false := by rfl) :
    CS X w ms ms1 mr (.Expr (.Call (.Attribute (.Name x p2) name apos) (e :: es) [] cpos) pos) (lm i f l) :=
  ⟨_, ps_expr (pe_bm PySem.F.plainAttrs_list slot hty hmt (pe_var hN hv hd hcd) h.2.2.choose_spec.1 hbase hfew hline hs hplain) hsw, ss_lm hr hma h.2.2.choose_spec.2 ei ei1 hm⟩
theorem cs_lm0 {name : Str} {id : String} {r : V → List V → Hp → VK → Prop} {f : List D → List D → Rs (List D)} (i : Nat) {x : Str} (slot : Slot "list" name id) (hty : typeOf (.builtin id) = pure (.type "method_descriptor")) (hmt : MtR X id r) (hr : LSt X.K ma f r) (hma : ma = .fz ∨ ma = .deep)
    (ei : ms[i]? = some (some (mdO ma)) := by rfl) (hm : okMs ms = true := by rfl) (hN : X.N[i]? = some x := by rfl) (hv : Vis X.env.scope x := by first | exact Or.inl rfl | exact Or.inr (Or.inl rfl) | exact Or.inr (Or.inr rfl)) (hd : (x == ("__debug__" : Str)) = false := by decide) (hcd : (x == ("__classdict__" : Str)) = false := by decide)
    (hbase : attributeBase (.Name x p2) name X.env (eval (.Name x p2) X.env) = eval (.Name x p2) X.env := by rfl) (hline : (apos.endLine == cpos.line) = true := by rfl)
    (hsw : swapsWith (.Call (.Attribute (.Name x p2) name apos) [] [] cpos) none pos.line X.env = pure false := by rfl) :
    CS X w ms ms mr (.Expr (.Call (.Attribute (.Name x p2) name apos) [] [] cpos) pos) (lm i f an) :=
  ⟨_, ps_expr (pe_bm0 PySem.F.plainAttrs_list slot hty hmt (pe_var hN hv hd hcd) hbase hline) hsw, ss_lm0 hr hma ei hm⟩
end
/-! ### a list's item stored -/
theorem dens_set {K : PySem.W.Frag} {O : Own} {H : Hp} {d : D} {v : V} (h0 : Den K O H d v) : ∀ (j : Nat) {l : List D} {us : List V}, Dens K O H l us → Dens K O H (l.set j d) (us.set j v)
  | _, [], us, h => by
    have e : us = [] := h
    subst e
    exact rfl
  | 0, e :: l, us, h => by
    obtain ⟨w, r, rfl, a, b⟩ := h
    exact ⟨v, r, rfl, h0, b⟩
  | j + 1, e :: l, us, h => by
    obtain ⟨w, r, rfl, a, b⟩ := h
    exact ⟨w, r.set j v, rfl, a, dens_set h0 j b⟩
theorem dps_set {K : PySem.W.Frag} {H : Hp} {d : D} {v : V} {B : Own} (h0 : Dp K H d v B) : ∀ (j : Nat) {l : List D} {us : List V} {A : Own}, Dps K H l us A → (∀ a, A a → B a → False) → Dps K H (l.set j d) (us.set j v) (Own.or A B)
  | _, [], us, A, h, x => by
    have e : us = [] := h
    subst e
    exact rfl
  | 0, e :: l, us, A, h, x => by
    obtain ⟨w, r, A1, A2, rfl, xx, l1, l2, a, b⟩ := h
    exact ⟨v, r, B, A2, rfl, fun a z w => x a (l2 a w) z, fun a z => .inr z, fun a z => .inl (l2 a z), h0, b⟩
  | j + 1, e :: l, us, A, h, x => by
    obtain ⟨w, r, A1, A2, rfl, xx, l1, l2, a, b⟩ := h
    exact ⟨w, r.set j v, A1, Own.or A2 B, rfl, fun a z w => w.elim (xx a z) fun q => x a (l1 a z) q, fun a z => .inl (l1 a z), fun a z => z.elim (fun q => .inl (l2 a q)) .inr, a, dps_set h0 j b fun a z w => x a (l2 a z) w⟩
def stx (i : Nat) (ix e : ME) : MS := fun τ => match e τ with
  | .ok d => (match τ[i]? with
    | some (.lst l) => (match ix τ with
      | .ok (.int k) => (match ixN l.length k with
        | some j => .nx (τ.set i (.lst (l.set j d)))
        | none => .no)
      | _ => .no)
    | _ => .no)
  | .ex x => .ex x τ
  | .no => .no
section
variable {P : Px} {ms ms1 ms2 : Ms} {md ma mb mr : Md} {l : MA} {tl : TA} {i : Nat} {a b : ME} {ta tb' : TE}
theorem ss_stx (hma : ma = .fz ∨ ma = .deep) (he : SE P ms ms1 ma a ta) (hx : SE P ms1 ms1 .bw b tb') (hp : ∀ τ x, b τ ≠ .ex x) (ei : ms1[i]? = some (some (mdO ma))) (hm : okMs ms1 = true) : SS P ms ms1 mr (stx i b a) (tAsg ta (gSub (tVar i) tb' rSetL)) := fun τ O H σ C D F n kn kr kx => by
  refine he τ O H σ C _ F (fun e => n (by unfold stx; rw [e])) (fun d O1 H1 A v e g f1 x q => ?_) fun x e => (kx x τ (by unfold stx; rw [e])).of
  have eb : stx i b a τ = (match τ[i]? with
    | some (.lst l) => (match b τ with
      | .ok (.int k) => (match ixN l.length k with
        | some j => .nx (τ.set i (.lst (l.set j d)))
        | none => .no)
      | _ => .no)
    | _ => .no) := by unfold stx; rw [e]
  have get : ∃ l k j, τ[i]? = some (.lst l) ∧ b τ = .ok (.int k) ∧ ixN l.length k = some j ∧ stx i b a τ = .nx (τ.set i (.lst (l.set j d))) := by
    rw [eb] at n ⊢
    split at n
    · rename_i l el
      split at n
      · rename_i k ek
        split at n
        · rename_i j ej
          exact ⟨l, k, j, el, ek, ej, rfl⟩
        · exact (n rfl).elim
      · exact (n rfl).elim
    · exact (n rfl).elim
  obtain ⟨l, k, j, el, ek, ej, es⟩ := get
  obtain ⟨p, vs, ev, hp1⟩ := slot_list f1 hma ei el
  refine ⟨.ref p, ev, ?_⟩
  refine hx τ O1 H1 σ (Own.or C A) _ f1 (fun z => by rw [ek] at z; cases z) (fun d2 O2 H2 A2 v2 e2 g2 f2 x2 q2 => ?_) fun x z => (hp τ x z).elim
  rw [ek] at e2
  cases e2
  have ev2 : v2 = .int k := vok_int'.mp q2
  have f2' : Fr P.K ms1 τ O2 H2 σ (Own.or C A) := f2.ctx fun a z => .inl z
  obtain ⟨B, a1, a2, a3⟩ := f2'.slots
  obtain ⟨d', v', e1, e3, h⟩ := a3 i _ ei
  rw [el] at e1
  cases e1
  rw [ev] at e3
  cases e3
  have q' := q.mono g2
  rcases hma with rfl | rfl
  · obtain ⟨p', ws, e4, hp2, hA, hd⟩ := h
    cases e4
    have hlen : ws.length = l.length := dens_len hd
    have gg : GrS O0 O2 H2 O2 (upd H2 p (.lst (ws.set j v))) := grS_upd hp2 (a2 i p hA).1 fun z => z
    refine ⟨p, ws, k, j, rfl, ev2, hp2, by rw [hlen]; exact ej, kn _ O2 _ σ es ((g.trans g2).s.trans (grS_upd hp2 (a2 i p hA).1 fun z => (a2 i p hA).2 (.inl z))) ?_⟩
    exact fr_mut f2' a1 a2 a3 x ei hm hp2 hA ev ⟨p, _, rfl, upd_same, .inl hA, dens_monoS gg _ _ (dens_set q' j hd)⟩
  · obtain ⟨p', ws, A1, e4, hp2, hA, hn, hl, hd⟩ := h
    cases e4
    have hlen : ws.length = l.length := dps_len hd
    have np : ¬ A p := fun z => (a2 i p hA).2 (.inr z)
    have nn : ¬ Own.or A1 A p := fun z => z.elim hn np
    have hd2 : Dps P.K H2 (l.set j d) (ws.set j v) (Own.or A1 A) := dps_set q' j hd fun a z w => (a2 i a (hl a z)).2 (.inr w)
    refine ⟨p, ws, k, j, rfl, ev2, hp2, by rw [hlen]; exact ej, kn _ O2 _ σ es ((g.trans g2).s.trans (grS_upd hp2 (a2 i p hA).1 fun z => (a2 i p hA).2 (.inl z))) ?_⟩
    exact fr_mut f2' a1 a2 a3 x ei hm hp2 hA ev ⟨p, _, Own.or A1 A, rfl, upd_same, .inl hA, nn, fun a z => z.elim (fun w => .inl (hl a w)) .inr, dps_upd hp2 _ _ _ nn hd2⟩
/-! ### comprehensions -/
def Rs.bn {α β : Type} (r : Rs α) (f : α → Rs β) : Rs β := match r with
  | .ok a => f a
  | _ => .no
def lcl (g : MG) (t : MT) (e : ME) (τ : Ts) : List D → Rs (List D)
  | [] => .ok []
  | d :: r => (g d τ).bn fun τ1 => (t τ1).bn fun b => if b = true then (e τ1).bn fun x => (lcl g t e τ r).bn fun xs => .ok (x :: xs) else lcl g t e τ r
def mlc (i : MA) (g : MG) (t : MT) (e : ME) : ME := fun τ => (i τ).bind fun ds => if ds.length ≤ 1000000 then (lcl g t e τ ds).bn fun l => .ok (.lst l) else .no
/-- a target that stores in these slots alone -/
structure Tch (vs : List Nat) (g : MG) (t : TG) : Prop where
  d : ∀ d τ τ', g d τ = .ok τ' → τ'.length = τ.length ∧ ∀ j, j ∉ vs → τ'[j]? = τ[j]?
  m : ∀ v σ H (Q Q' : L2.St → Hp → Prop), (∀ a b, Q a b → Q' a b) → t v σ H Q → t v σ H Q'
  v : ∀ v σ H (Q : L2.St → Hp → Prop), t v σ H (fun σ' H' => (σ'.length = σ.length ∧ ∀ j, j ∉ vs → σ'[j]? = σ[j]?) → Q σ' H') → t v σ H Q
theorem tch_name {vs : List Nat} {i : Nat} (h : i ∈ vs) : Tch vs (gn i) (gName i) := by
  have ne : ∀ j, j ∉ vs → i ≠ j := fun j hj z => hj (by rw [← z]; exact h)
  refine ⟨fun d τ τ' e => ?_, fun v σ H Q Q' m q => m _ _ q, fun v σ H Q q => q ⟨List.length_set, fun j hj => List.getElem?_set_ne (ne j hj)⟩⟩
  cases e
  exact ⟨List.length_set, fun j hj => List.getElem?_set_ne (ne j hj)⟩
structure Tchs (vs : List Nat) (g : List MG) (t : TGs) : Prop where
  d : ∀ d τ τ', gts g d τ = .ok τ' → τ'.length = τ.length ∧ ∀ j, j ∉ vs → τ'[j]? = τ[j]?
  m : ∀ v σ H (Q Q' : L2.St → Hp → Prop), (∀ a b, Q a b → Q' a b) → t v σ H Q → t v σ H Q'
  v : ∀ v σ H (Q : L2.St → Hp → Prop), t v σ H (fun σ' H' => (σ'.length = σ.length ∧ ∀ j, j ∉ vs → σ'[j]? = σ[j]?) → Q σ' H') → t v σ H Q
theorem tchs_nil {vs : List Nat} : Tchs vs [] gNil := by
  refine ⟨fun d τ τ' e => ?_, fun v σ H Q Q' m q => ⟨q.1, m _ _ q.2⟩, fun v σ H Q q => ⟨q.1, q.2 ⟨rfl, fun _ _ => rfl⟩⟩⟩
  cases d with
  | nil =>
    cases e
    exact ⟨rfl, fun _ _ => rfl⟩
  | cons _ _ => cases e
theorem tchs_cons {vs : List Nat} {g : MG} {gs : List MG} {t : TG} {u : TGs} (h1 : Tch vs g t) (h2 : Tchs vs gs u) : Tchs vs (g :: gs) (gCons t u) := by
  refine ⟨fun d τ τ' e => ?_, fun v σ H Q Q' m q => ?_, fun v σ H Q q => ?_⟩
  · cases d with
    | nil => cases e
    | cons d ds =>
      cases hg : g d τ with
      | ok τ1 =>
        rw [gts, hg] at e
        obtain ⟨a1, b1⟩ := h1.d d τ τ1 hg
        obtain ⟨a2, b2⟩ := h2.d ds τ1 τ' e
        exact ⟨a2.trans a1, fun j hj => (b2 j hj).trans (b1 j hj)⟩
      | ex z => rw [gts, hg] at e; cases e
      | no => rw [gts, hg] at e; cases e
  · obtain ⟨w, r, e, k⟩ := q
    exact ⟨w, r, e, h1.m w σ H _ _ (fun a b z => h2.m r a b _ _ m z) k⟩
  · obtain ⟨w, r, e, k⟩ := q
    refine ⟨w, r, e, h1.v w σ H _ (h1.m w σ H _ _ (fun a b z c => h2.v r a b _ (h2.m r a b _ _ (fun a' b' q' c' => q' ⟨c'.1.trans c.1, fun j hj => (c'.2 j hj).trans (c.2 j hj)⟩) z)) k)⟩
theorem tch_tup {vs : List Nat} {K : PySem.W.Frag} {n : Nat} {gs : List MG} {t : TGs} (h : Tchs vs gs t) : Tch vs (gt gs) (gTup K n t) := by
  refine ⟨fun d τ τ' e => ?_, fun v σ H Q Q' m q => ?_, fun v σ H Q q => ?_⟩
  · cases d with
    | tup ds => exact h.d ds τ τ' e
    | _ => cases e
  · obtain ⟨a, xs, e, s, l, k⟩ := q
    exact ⟨a, xs, e, s, l, h.m _ _ _ _ _ m k⟩
  · obtain ⟨a, xs, e, s, l, k⟩ := q
    exact ⟨a, xs, e, s, l, h.v _ _ _ _ k⟩
theorem wipe_get {σ : L2.St} {j : Nat} {vs : List Nat} (h : j ∈ vs) : (wipe σ vs)[j]? = if j < σ.length then some none else none := by
  induction vs with
  | nil => exact nomatch h
  | cons v vs ih =>
    show ((wipe σ vs).set v none)[j]? = _
    by_cases e : v = j
    · subst e
      by_cases l : v < σ.length
      · rw [List.getElem?_set_self (by rw [wipe_length]; exact l), if_pos l]
      · rw [List.getElem?_eq_none (by rw [List.length_set, wipe_length]; omega), if_neg l]
    · rw [List.getElem?_set_ne e]
      exact ih ((List.mem_cons.mp h).resolve_left (Ne.symm e))
theorem wipe_eq {σ σ2 : L2.St} {vs : List Nat} (hl : σ2.length = σ.length) (h : ∀ j, j ∉ vs → σ2[j]? = (wipe σ vs)[j]?) : wipe σ2 vs = wipe σ vs := by
  refine List.ext_getElem? fun j => ?_
  by_cases m : j ∈ vs
  · rw [wipe_get m, wipe_get m, hl]
  · rw [wipe_out m, wipe_out m, h j m, wipe_out m]
/-- what is walked within an expression: a lent list serves too -/
def SIx (P : Px) (ms ms' : Ms) (md : Md) (i : MA) (wi : TI) : Prop := ∀ τ O H σ C (R : It → Hp → Prop), Fr P.K ms τ O H σ C → i τ ≠ .no →
  (∀ ds O' H' J G Y, i τ = .ok ds → Gr O H O' H' → Fr P.K ms' τ O' H' σ C → Walk J ds.length G Y → (∀ O2 H2, Gr O' H' O2 H2 → G H2) →
    (∀ k O2 H2 v H3, k < ds.length → Gr O' H' O2 H2 → Y k H2 v H3 → ∃ d, ds[k]? = some d ∧ Nw H2 H3 O0 ∧ VOK P.K md O2 H3 O0 d v) → R J H') →
  (∀ x, i τ = .ex x → WOK P τ O H C σ x) → wi σ H R
theorem six_of {i : MA} {wi : TI} (h : SI P ms ms1 i wi) : SIx P ms ms1 .fz i wi := fun τ O H σ C R F n k w =>
  h τ O H σ C R F n (fun ds O' H' J G Y e g f wk hG hY => k ds O' H' J G Y e g f wk (fun O2 H2 g2 => hG O2 H2 g2.s) fun k' O2 H2 v H3 hk g2 y => hY k' O2 H2 v H3 hk g2.s y) w
theorem six_bw (h : SE P ms ms1 .bw a ta) : SIx P ms ms1 .bw (itl a) (iList P.K ta) := fun τ O H σ C R F n k w => by
  refine h τ O H σ C _ F (Rs.bind_ne n) (fun d O' H' A v e g f x q => ?_) fun x e => w x (Rs.bind_ex e)
  have q : Den P.K O0 H' d v := q
  cases d with
  | lst ds =>
    obtain ⟨p, vs, rfl, s, q⟩ := q
    have hl : vs.length = ds.length := dens_len q
    refine ⟨p, rfl, ⟨vs, s.sq⟩, k ds O' H' _ _ _ (Rs.bind_ok e) g (f.ctx fun a z => .inl z) (hl ▸ walk_list (xs := vs)) (fun O2 H2 g2 => .of (g2.1 _ _ s.1)) ?_⟩
    rintro k O2 H2 v H3 hk g2 ⟨rfl, ev⟩
    obtain ⟨d, ed, hd⟩ := dens_get q ev
    exact ⟨d, ed, .none, den_mono ⟨g2.1, fun _ z => z.elim⟩ d v hd⟩
  | _ => exact (n (Rs.bind_ok e)).elim
/-- the modes of names at these slots forgotten -/
def wpm (ms : Ms) : List Nat → Ms
  | [] => ms
  | v :: vs => (wpm ms vs).set v none
theorem wpm_len {vs : List Nat} : (wpm ms vs).length = ms.length := by
  induction vs with
  | nil => rfl
  | cons v vs ih =>
    show ((wpm ms vs).set v none).length = _
    rw [List.length_set, ih]
theorem wpm_get {vs : List Nat} {j : Nat} (h : (wpm ms vs)[j]? = some (some md)) : ms[j]? = some (some md) ∧ j ∉ vs := by
  induction vs with
  | nil => exact ⟨h, fun z => nomatch z⟩
  | cons v vs ih =>
    replace h : ((wpm ms vs).set v none)[j]? = some (some md) := h
    by_cases e : v = j
    · subst e
      by_cases l : v < (wpm ms vs).length
      · rw [List.getElem?_set_self l] at h; cases h
      · rw [List.getElem?_eq_none (by rw [List.length_set]; omega)] at h; cases h
    · rw [List.getElem?_set_ne e] at h
      exact ⟨(ih h).1, fun z => (List.mem_cons.mp z).elim (fun q => e q.symm) (ih h).2⟩
/-- other slots, other data: the same where modes are told -/
theorem Fr.re {K : PySem.W.Frag} {τ τ2 : Ts} {O C : Own} {H : Hp} {σ σ2 : L2.St} {vs : List Nat} (f : Fr K ms1 τ O H σ C) (hl : τ2.length = τ.length) (hl2 : σ2.length = σ.length) (h1 : ∀ j, j ∉ vs → τ2[j]? = τ[j]?) (h2 : ∀ j, j ∉ vs → σ2[j]? = σ[j]?) (hm : leMs ms1 (wpm ms vs) = true) : Fr K (wpm ms vs) τ2 O H σ2 C := by
  obtain ⟨A, a1, a2, a3⟩ := f.slots
  refine ⟨by rw [hl, ← f.lm]; exact (leMs_len hm).symm, hl2.trans (f.ls.trans hl.symm), f.dom, f.sub, A, a1, a2, fun i md e => ?_⟩
  obtain ⟨_, hi⟩ := wpm_get e
  obtain ⟨d, v, e1, e2, h⟩ := a3 i md (leMs_get hm e)
  exact ⟨d, v, (h1 i hi).trans e1, (h2 i hi).trans e2, h⟩
/-- an object of the context changes -/
theorem Fr.cmut {K : PySem.W.Frag} {τ : Ts} {O C : Own} {H : Hp} {σ : L2.St} {p : Addr} {vs : List V} {o : HO} (f : Fr K ms τ O H σ C) (hm : okMs ms = true) (hp : H p = some (.lst vs)) (hC : C p) : Fr K ms τ O (upd H p o) σ C := by
  obtain ⟨A, a1, a2, a3⟩ := f.slots
  have hO := f.sub p hC
  have g : GrS O0 O H O (upd H p o) := grS_upd hp hO fun z => z
  refine ⟨f.lm, f.ls, fun a z => ?_, f.sub, A, a1, a2, fun j md' ej => ?_⟩
  · by_cases e : a = p
    · subst e
      rw [upd_same]
      exact fun z => nomatch z
    · rw [upd_ne e]
      exact f.dom a z
  · obtain ⟨d, v', e1, e2, h⟩ := a3 j md' ej
    refine ⟨d, v', e1, e2, ?_⟩
    have np : ¬ A j p := fun z => (a2 j p z).2 hC
    cases md' with
    | fz => exact den_monoS g d v' h
    | deep => exact dp_upd hp d v' (A j) np h
    | own =>
      cases d with
      | lst ds =>
        obtain ⟨q', ws, e3, h1, h2, h3⟩ := h
        refine ⟨q', ws, e3, ?_, h2, dens_monoS g ds ws h3⟩
        rw [upd_ne]
        · exact h1
        · rintro rfl
          exact np h2
      | _ => exact den_monoS g _ v' h
    | bw => exact nomatch (List.all_eq_true.mp hm _ (List.mem_of_getElem? ej))
    | bo => exact nomatch (List.all_eq_true.mp hm _ (List.mem_of_getElem? ej))
theorem lcl_step {g : MG} {t : MT} {e : ME} {τ : Ts} {ds : List D} {k : Nat} {d : D} {l : List D} (hd : ds[k]? = some d) (h : lcl g t e τ (ds.drop k) = .ok l) : ∃ τ1 b, g d τ = .ok τ1 ∧ t τ1 = .ok b ∧ (b = true → ∃ x r, e τ1 = .ok x ∧ lcl g t e τ (ds.drop (k + 1)) = .ok r ∧ l = x :: r) ∧ (b = false → lcl g t e τ (ds.drop (k + 1)) = .ok l) := by
  obtain ⟨hk, ek⟩ := List.getElem?_eq_some_iff.mp hd
  rw [List.drop_eq_getElem_cons hk, ek] at h
  unfold lcl at h
  cases hg : g d τ with
  | no => rw [hg] at h; cases h
  | ex z => rw [hg] at h; cases h
  | ok τ1 =>
    rw [hg] at h
    replace h : ((t τ1).bn fun b => if b = true then (e τ1).bn fun x => (lcl g t e τ (ds.drop (k + 1))).bn fun xs => .ok (x :: xs) else lcl g t e τ (ds.drop (k + 1))) = .ok l := h
    cases ht : t τ1 with
    | no => rw [ht] at h; cases h
    | ex z => rw [ht] at h; cases h
    | ok b =>
      rw [ht] at h
      refine ⟨τ1, b, rfl, ht, fun hb => ?_, fun hb => ?_⟩
      · subst hb
        replace h : ((e τ1).bn fun x => (lcl g t e τ (ds.drop (k + 1))).bn fun xs => Rs.ok (x :: xs)) = .ok l := h
        cases he : e τ1 with
        | no => rw [he] at h; cases h
        | ex z => rw [he] at h; cases h
        | ok x =>
          rw [he] at h
          replace h : ((lcl g t e τ (ds.drop (k + 1))).bn fun xs => Rs.ok (x :: xs)) = .ok l := h
          cases hr : lcl g t e τ (ds.drop (k + 1)) with
          | no => rw [hr] at h; cases h
          | ex z => rw [hr] at h; cases h
          | ok r =>
            rw [hr] at h
            cases h
            exact ⟨x, r, rfl, rfl, rfl⟩
      · subst hb
        exact h
theorem lcl_len {g : MG} {t : MT} {e : ME} {τ : Ts} : ∀ {ds l : List D}, lcl g t e τ ds = .ok l → l.length ≤ ds.length
  | [], l, h => by cases h; exact Nat.le_refl _
  | d :: r, l, h => by
    obtain ⟨τ1, b, _, _, h1, h2⟩ := lcl_step (k := 0) (ds := d :: r) rfl h
    cases b with
    | true =>
      obtain ⟨x, l', _, e2, rfl⟩ := h1 rfl
      have := lcl_len (ds := r) e2
      simpa using this
    | false =>
      have := lcl_len (ds := r) (h2 rfl)
      exact Nat.le_succ_of_le this
theorem or_assoc' {A B C : Own} : ∀ a, Own.or (Own.or A B) C a ↔ Own.or A (Own.or B C) a := fun a => ⟨fun z => z.elim (fun z => z.elim .inl fun q => .inr (.inl q)) fun q => .inr (.inr q), fun z => z.elim (fun q => .inl (.inl q)) fun z => z.elim (fun q => .inl (.inr q)) .inr⟩
theorem se_mlc {Pb : Px} {mi : Md} {i : MA} {g : MG} {t : MT} {e : ME} {wi : TI} {tg : TG} {tt : TT} {te : TE} {vs : List Nat} {ms3 ms4 : Ms} (hK : Pb.K = P.K) (hi : SIx P ms ms1 mi i wi) (hg : SG Pb (wpm ms1 vs) ms2 mi g tg) (tc : Tch vs g tg) (ht : ST Pb ms2 ms3 t tt) (he : SE Pb ms3 ms4 md e te)
    (l1 : leMs ms1 (wpm ms1 vs) = true) (l3 : leMs ms3 (wpm ms1 vs) = true) (l4 : leMs ms4 (wpm ms1 vs) = true) (hm : okMs (wpm ms1 vs) = true) (hmd : md = .fz ∨ md = .deep) : SE P ms (wpm ms1 vs) (mdL md) (mlc i g t e) (tLc wi tg tt te vs) := fun τ O H σ C Q F n k w => by
  refine hi τ O H σ C _ F (Rs.bind_ne n) (fun ds O1 H1 J G Y ei gr f1 wk hG hY => ?_) fun x e => w x (Rs.bind_ex e)
  have eb : mlc i g t e τ = if ds.length ≤ 1000000 then (lcl g t e τ ds).bn fun l => .ok (.lst l) else .no := Rs.bind_ok ei
  have get : ∃ l, ds.length ≤ 1000000 ∧ lcl g t e τ ds = .ok l ∧ mlc i g t e τ = .ok (.lst l) := by
    rw [eb] at n ⊢
    by_cases c : ds.length ≤ 1000000
    · rw [if_pos c] at n ⊢
      cases q : lcl g t e τ ds with
      | ok l => exact ⟨l, c, rfl, rfl⟩
      | no => rw [q] at n; exact (n rfl).elim
      | ex z => rw [q] at n; exact (n rfl).elim
    · rw [if_neg c] at n
      exact (n rfl).elim
  obtain ⟨l, hlen, el, em⟩ := get
  intro Dl hD
  have fw : Fr P.K (wpm ms1 vs) τ O1 H1 (wipe σ vs) C := f1.re rfl (wipe_length σ vs) (fun _ _ => rfl) (fun j hj => wipe_out hj) l1
  refine lc_it wk (fun k H' => ∃ (O' B A1 : Own) (acc : List V) (dacc : List D), Gr O1 H1 O' H' ∧ Fr P.K (wpm ms1 vs) τ O' H' (wipe σ vs) (Own.or C B) ∧ (∀ a, B a → ¬ C a) ∧ B Dl ∧ H' Dl = some (.lst acc) ∧ ¬ A1 Dl ∧ (∀ a, A1 a → B a) ∧ VOKs P.K md O' H' A1 dacc acc ∧ dacc.length ≤ k ∧ ∃ r, lcl g t e τ (ds.drop k) = .ok r ∧ l = dacc ++ r) ?_ ?_ ?_ ?_
  · have nw : Nw H1 (upd H1 Dl (.lst [])) (fun a => a = Dl) := Nw.upd hD
    refine ⟨Own.or O1 fun a => a = Dl, fun a => a = Dl, O0, [], [], nw.gr, fw.grow nw, fun a z c => ?_, rfl, upd_same, fun z => z, fun _ z => z.elim, ?_, Nat.zero_le _, l, el, rfl⟩
    · rw [z] at c
      exact f1.dom Dl (f1.sub Dl c) hD
    · rcases hmd with rfl | rfl <;> rfl
  · rintro k H' hk ⟨O', B, A1, acc, dacc, g1, _⟩
    exact hG O' H' g1
  · rintro k v H' H'' hk ⟨O', B, A1, acc, dacc, g1, fr, xB, bD, hDl, nD, sB, q, hdl, r, er, erl⟩ y
    obtain ⟨d, ed, nw, hv⟩ := hY k O' H' v H'' hk g1 y
    obtain ⟨τ1, b, eg, et, h1, h2⟩ := lcl_step ed er
    have fr' : Fr Pb.K (wpm ms1 vs) τ O' H'' (wipe σ vs) (Own.or (Own.or C B) O0) := by
      rw [hK]
      exact (fr.nw0 nw).ctx or_none
    have hv' : VOK Pb.K mi O' H'' O0 d v := by
      rw [hK]
      exact hv
    refine tc.v v _ H'' _ (hg d v τ O' H'' (wipe σ vs) (Own.or C B) O0 _ fr' (fun _ z => z.elim) hv' ⟨τ1, eg⟩ fun τ1' σ2 eg' f2 => ?_)
    rw [eg] at eg'
    cases eg'
    rintro ⟨c1, c2⟩
    rw [wipe_length] at c1
    obtain ⟨td1, td2⟩ := tc.d d τ τ1 eg
    refine ⟨wipe_eq c1 c2, ?_⟩
    refine ht τ1 O' H'' σ2 (Own.or C B) _ f2 (fun z => by rw [et] at z; cases z) (fun b' O3 H3 et' g3 f3 => ?_) fun x z => by rw [et] at z; cases z
    rw [et] at et'
    cases et'
    have gA : Gr O1 H1 O3 H3 := (g1.trans nw.gr0).trans g3
    have stay : H3 Dl = some (.lst acc) := g3.1 _ _ (nw.ex _ _ hDl)
    have q3 : VOKs P.K md O3 H3 A1 dacc acc := (q.mono nw.gr0).mono g3
    cases b with
    | false =>
      have f3' : Fr P.K ms3 τ1 O3 H3 σ2 (Own.or C B) := by
        rw [← hK]
        exact f3
      exact ⟨O3, B, A1, acc, dacc, gA, f3'.re td1.symm (by rw [wipe_length, c1]) (fun j hj => (td2 j hj).symm) (fun j hj => (c2 j hj).symm) l3, xB, bD, stay, nD, sB, q3, Nat.le_succ_of_le hdl, r, h2 rfl, erl⟩
    | true =>
      obtain ⟨x, r', ex, er', rfl⟩ := h1 rfl
      show te σ2 H3 _
      refine he τ1 O3 H3 σ2 (Own.or C B) _ f3 (fun z => by rw [ex] at z; cases z) (fun x' O4 H4 Ae yv ex' g4 f4 xe qe => ?_) fun x' z => by rw [ex] at z; cases z
      rw [ex] at ex'
      cases ex'
      have qe' : VOK P.K md O4 H4 Ae x yv := by
        rw [← hK]
        exact qe
      have f4' : Fr P.K (wpm ms1 vs) τ O4 H4 (wipe σ vs) (Own.or (Own.or C B) Ae) := by
        have f5 : Fr P.K ms4 τ1 O4 H4 σ2 (Own.or (Own.or C B) Ae) := by
          rw [← hK]
          exact f4
        exact f5.re td1.symm (by rw [wipe_length, c1]) (fun j hj => (td2 j hj).symm) (fun j hj => (c2 j hj).symm) l4
      have stay4 : H4 Dl = some (.lst acc) := g4.1 _ _ stay
      have q4 : VOKs P.K md O4 H4 A1 dacc acc := q3.mono g4
      have alen : acc.length = dacc.length := voks_len q4
      have nAe : ¬ Ae Dl := fun z => xe Dl z (.inr bD)
      have f6 : Fr P.K (wpm ms1 vs) τ O4 (upd H4 Dl (.lst (acc ++ [yv]))) (wipe σ vs) (Own.or C (Own.or B Ae)) := (f4'.ctx fun a z => (or_assoc' a).mpr z).cmut hm stay4 (.inr (.inl bD))
      have q1 : VOKs P.K md O4 H4 Ae [x] [yv] := by
        rcases hmd with rfl | rfl
        · exact ⟨yv, [], rfl, qe', rfl⟩
        · exact ⟨yv, [], Ae, O0, rfl, fun _ _ z => z.elim, fun _ z => z, fun _ z => z.elim, qe', rfl⟩
      have hO4 : O4 Dl := f4'.sub Dl (.inl (.inr bD))
      have gs : GrS O0 O4 H4 O4 (upd H4 Dl (.lst (acc ++ [yv]))) := grS_upd stay4 hO4 fun z => z
      have nn : ¬ Own.or A1 Ae Dl := fun z => z.elim nD nAe
      have q5 : VOKs P.K md O4 (upd H4 Dl (.lst (acc ++ [yv]))) (Own.or A1 Ae) (dacc ++ [x]) (acc ++ [yv]) := by
        rcases hmd with rfl | rfl
        · exact dens_monoS gs _ _ (dens_app q4 q1)
        · exact dps_upd stay4 _ _ _ nn (dps_app q4 q1 fun a z w => xe a w (.inr (sB a z)))
      refine ⟨acc, stay4, by rw [alen]; exact sz_line (by omega), O4, Own.or B Ae, Own.or A1 Ae, acc ++ [yv], dacc ++ [x], ⟨fun a o z => ?_, fun a z => (gA.trans g4).2 a z⟩, f6, fun a z c => z.elim (fun z => xB a z c) fun z => xe a z (.inl c), .inl bD, upd_same, nn, fun a z => z.elim (fun z => .inl (sB a z)) .inr, q5, by rw [List.length_append]; exact Nat.succ_le_succ hdl, r', er', by rw [erl, List.append_assoc]; rfl⟩
      rw [upd_ne]
      · exact (gA.trans g4).1 a o z
      · rintro rfl
        rw [hD] at z
        cases z
  · rintro H' ⟨O', B, A1, acc, dacc, g1, fr, xB, bD, hDl, nD, sB, q, _, r, er, erl⟩
    rw [List.drop_length] at er
    cases er
    rw [List.append_nil] at erl
    subst erl
    have fr2 : Fr P.K (wpm ms1 vs) τ O' H' σ (Own.or C B) := by
      obtain ⟨A, a1, a2, a3⟩ := fr.slots
      refine ⟨fr.lm, by rw [← fr.ls, wipe_length], fr.dom, fr.sub, A, a1, a2, fun j md' ej => ?_⟩
      obtain ⟨_, hj⟩ := wpm_get ej
      obtain ⟨d, v, e1, e2, h⟩ := a3 j md' ej
      exact ⟨d, v, e1, by rw [wipe_out hj] at e2; exact e2, h⟩
    refine k (.lst l) O' H' B (.ref Dl) em (gr.trans g1) fr2 xB ?_
    rcases hmd with rfl | rfl
    · exact ⟨Dl, acc, rfl, hDl, bD, q⟩
    · exact ⟨Dl, acc, A1, rfl, hDl, bD, nD, sB, q⟩
end
/-! ### sources that are walked: stable under a statement's steps where frozen, under an expression's where lent -/
def Stp (md : Md) (C O : Own) (H : Hp) (O' : Own) (H' : Hp) : Prop := match md with
  | .fz => GrS C O H O' H'
  | _ => Gr O H O' H'
def SIm (P : Px) (ms ms' : Ms) (md : Md) (i : MA) (wi : TI) : Prop := ∀ τ O H σ C (R : It → Hp → Prop), Fr P.K ms τ O H σ C → i τ ≠ .no →
  (∀ ds O' H' J G Y, i τ = .ok ds → Gr O H O' H' → Fr P.K ms' τ O' H' σ C → Walk J ds.length G Y → (∀ O2 H2, Stp md C O' H' O2 H2 → G H2) →
    (∀ k O2 H2 v H3, k < ds.length → Stp md C O' H' O2 H2 → Y k H2 v H3 → ∃ d, ds[k]? = some d ∧ Nw H2 H3 O0 ∧ VOK P.K md O2 H3 O0 d v) → R J H') →
  (∀ x, i τ = .ex x → WOK P τ O H C σ x) → wi σ H R
section
variable {P : Px} {ms ms1 ms2 : Ms} {md ma mb mr : Md} {l : MA} {tl : TA} {i : MA} {wi : TI} {a b : ME} {ta tb' : TE}
theorem sim_si (h : SIm P ms ms1 .fz i wi) : SI P ms ms1 i wi := h
theorem sim_six (h : SIm P ms ms1 md i wi) : SIx P ms ms1 md i wi := by
  cases md with
  | fz => exact six_of h
  | _ => exact h
def rdMd : Md → Bool
  | .fz => true
  | .bw => true
  | _ => false
section
variable {K : PySem.W.Frag} {O O2 C A : Own} {H H2 : Hp} {d : D} {v : V} {ds : List D} {vs : List V}
theorem stp_vok (hm : rdMd md = true) (g : Stp md C O H O2 H2) (h : VOK K md O H A d v) : VOK K md O2 H2 A d v := by
  cases md with
  | fz => exact den_monoS g d v h
  | bw => exact den_mono ⟨g.1, fun _ z => z.elim⟩ d v h
  | _ => cases hm
theorem vok_lst (hm : rdMd md = true) (h : VOK K md O H A (.lst ds) v) : ∃ p vs, v = .ref p ∧ H p = some (.lst vs) ∧ VOKs K md O H O0 ds vs ∧ ∀ C O2 H2, Stp md C O H O2 H2 → H2 p = some (.lst vs) := by
  cases md with
  | fz =>
    obtain ⟨p, vs, e, s, q⟩ := h
    exact ⟨p, vs, e, s.1, q, fun C O2 H2 g => g.keep p _ s.1 (.inl s.2)⟩
  | bw =>
    obtain ⟨p, vs, e, s, q⟩ := h
    exact ⟨p, vs, e, s.1, q, fun C O2 H2 g => g.1 p _ s.1⟩
  | _ => cases hm
theorem vok_tup (hm : rdMd md = true) (h : VOK K md O H A (.tup ds) v) : ∃ p vs, v = .ref p ∧ SqT K H p vs ∧ VOKs K md O H O0 ds vs ∧ ∀ C O2 H2, Stp md C O H O2 H2 → SqT K H2 p vs := by
  cases md with
  | fz =>
    obtain ⟨p, vs, e, s, q⟩ := h
    exact ⟨p, vs, e, s, q, fun C O2 H2 g => sqt_monoS g s⟩
  | bw =>
    obtain ⟨p, vs, e, s, q⟩ := h
    exact ⟨p, vs, e, s, q, fun C O2 H2 g => sqt_mono (O := O0) (O' := O0) ⟨g.1, fun _ z => .inl z⟩ s⟩
  | _ => cases hm
theorem vok_scr (hm : rdMd md = true) (h : VOK K md O H A (.scr ds) v) : ∃ p vs, v = .ref p ∧ SqL K H p vs ∧ VOKs K md O H O0 ds vs ∧ ∀ C O2 H2, Stp md C O H O2 H2 → SqL K H2 p vs := by
  cases md with
  | fz =>
    obtain ⟨p, vs, e, s, q⟩ := h
    exact ⟨p, vs, e, s.sq, q, fun C O2 H2 g => (scl_monoS g s).sq⟩
  | bw =>
    obtain ⟨p, vs, e, s, q⟩ := h
    exact ⟨p, vs, e, s.sq, q, fun C O2 H2 g => (scl_mono (O := O0) (O' := O0) ⟨g.1, fun _ z => .inl z⟩ s).sq⟩
  | _ => cases hm
theorem voks_get (hm : rdMd md = true) {k : Nat} (q : VOKs K md O H A ds vs) (e : vs[k]? = some v) : ∃ d, ds[k]? = some d ∧ VOK K md O H O0 d v := by
  cases md with
  | fz => exact dens_get q e
  | bw => exact dens_get q e
  | _ => cases hm
end
theorem sim_its (hm : rdMd md = true) (h : SE P ms ms1 md a ta) : SIm P ms ms1 md (its a) (fun σ H R => iList P.K ta σ H R ∨ iTup P.K ta σ H R ∨ iStr ta σ H R) := fun τ O H σ C R F n k w => by
  have ne := Rs.bind_ne n
  have cs : (∃ d, a τ = .ok d) ∨ ∃ x, a τ = .ex x := by
    cases e : a τ with
    | no => exact (ne e).elim
    | ex x => exact .inr ⟨x, rfl⟩
    | ok d => exact .inl ⟨d, rfl⟩
  rcases cs with ⟨d0, e0⟩ | ⟨x0, e0⟩
  · have eb0 : its a τ = asS d0 := Rs.bind_ok e0
    cases d0 with
    | lst ds0 =>
      refine .inl (h τ O H σ C _ F ne (fun d O' H' A v e g f x q => ?_) fun x e => w x (Rs.bind_ex e))
      rw [e0] at e
      cases e
      obtain ⟨p, vs, rfl, s, q, st⟩ := vok_lst hm q
      have hl : vs.length = ds0.length := voks_len q
      refine ⟨p, rfl, ⟨vs, .of s⟩, k ds0 O' H' _ _ _ eb0 g (f.ctx fun a z => .inl z) (hl ▸ walk_list (xs := vs)) (fun O2 H2 g2 => SqL.of (st _ O2 H2 g2)) ?_⟩
      rintro k O2 H2 v H3 hk g2 ⟨rfl, ev⟩
      obtain ⟨d, ed, hd⟩ := voks_get hm q ev
      exact ⟨d, ed, .none, stp_vok hm g2 hd⟩
    | scr ds0 =>
      refine .inl (h τ O H σ C _ F ne (fun d O' H' A v e g f x q => ?_) fun x e => w x (Rs.bind_ex e))
      rw [e0] at e
      cases e
      obtain ⟨p, vs, rfl, s, q, st⟩ := vok_scr hm q
      have hl : vs.length = ds0.length := voks_len q
      refine ⟨p, rfl, ⟨vs, s⟩, k ds0 O' H' _ _ _ eb0 g (f.ctx fun a z => .inl z) (hl ▸ walk_list (xs := vs)) (fun O2 H2 g2 => st _ O2 H2 g2) ?_⟩
      rintro k O2 H2 v H3 hk g2 ⟨rfl, ev⟩
      obtain ⟨d, ed, hd⟩ := voks_get hm q ev
      exact ⟨d, ed, .none, stp_vok hm g2 hd⟩
    | tup ds0 =>
      refine .inr (.inl (h τ O H σ C _ F ne (fun d O' H' A v e g f x q => ?_) fun x e => w x (Rs.bind_ex e)))
      rw [e0] at e
      cases e
      obtain ⟨p, vs, rfl, s, q, st⟩ := vok_tup hm q
      have hl : vs.length = ds0.length := voks_len q
      refine ⟨p, rfl, ⟨vs, s⟩, k ds0 O' H' _ _ _ eb0 g (f.ctx fun a z => .inl z) (hl ▸ walk_tup (xs := vs)) (fun O2 H2 g2 => st _ O2 H2 g2) ?_⟩
      rintro k O2 H2 v H3 hk g2 ⟨rfl, ev⟩
      obtain ⟨d, ed, hd⟩ := voks_get hm q ev
      exact ⟨d, ed, .none, stp_vok hm g2 hd⟩
    | str z =>
      refine .inr (.inr (h τ O H σ C _ F ne (fun d O' H' A v e g f x q => ?_) fun x e => w x (Rs.bind_ex e)))
      rw [e0] at e
      cases e
      have ev0 : v = .str z := vok_str'.mp q
      have hl : (signs z).length = z.cps.size := by unfold signs; simp
      refine ⟨z, ev0, k (signs z) O' H' (Its z) (fun _ => True) _ eb0 g (f.ctx fun a z => .inl z) (hl ▸ walk_str) (fun _ _ _ => trivial) ?_⟩
      rintro k O2 H2 v H3 hk g2 ⟨rfl, c, ec, ev⟩
      refine ⟨.str ⟨#[c]⟩, ?_, .none, vok_str'.mpr ev⟩
      unfold signs
      rw [List.getElem?_map]
      have ec' : z.cps.toList[k]? = some c := by rw [Array.getElem?_toList]; exact ec
      rw [ec']
      rfl
    | _ => exact (n eb0).elim
  · exact .inl (h τ O H σ C _ F ne (fun d O' H' A v e g f x q => by rw [e0] at e; cases e) fun x e => w x (Rs.bind_ex e))
theorem sim_r1 (h : SA P ms ms1 .bw l tl) : SIm P ms ms1 md (ir1 l) (iRng1 tl) := fun τ O H σ C R F n k w => by
  refine h τ O H σ C _ F (Rs.bind_ne n) (fun ds O' H' A vs e g f x q => ?_) fun x e => w x (Rs.bind_ex e)
  have eb : ir1 l τ = rng1 ds := Rs.bind_ok e
  obtain ⟨m, rfl, c, e2⟩ := rng1_inv (eb ▸ n)
  refine ⟨m, ints1 q, by omega, by omega, k _ O' H' _ (fun _ => True) (YFn fun i => .int (0 + i)) (eb.trans e2) g (f.ctx fun a z => .inl z) ?_ (fun _ _ _ => trivial) ?_⟩
  · rw [rngD_len]
    exact walk_range
  · rintro k O2 H2 v H3 hk g2 ⟨rfl, rfl⟩
    rw [rngD_len] at hk
    exact ⟨_, rngD_get hk, .none, vok_int⟩
theorem sim_r2 (h : SA P ms ms1 .bw l tl) : SIm P ms ms1 md (ir2 l) (iRng2 tl) := fun τ O H σ C R F n k w => by
  refine h τ O H σ C _ F (Rs.bind_ne n) (fun ds O' H' A vs e g f x q => ?_) fun x e => w x (Rs.bind_ex e)
  have eb : ir2 l τ = rng2 ds := Rs.bind_ok e
  obtain ⟨i, j, rfl, c, e2⟩ := rng2_inv (eb ▸ n)
  refine ⟨i, j, ints2 q, by omega, k _ O' H' _ (fun _ => True) (YFn fun k => .int (i + k)) (eb.trans e2) g (f.ctx fun a z => .inl z) ?_ (fun _ _ _ => trivial) ?_⟩
  · rw [rngD_len]
    exact walk_range
  · rintro k O2 H2 v H3 hk g2 ⟨rfl, rfl⟩
    rw [rngD_len] at hk
    exact ⟨_, rngD_get hk, .none, vok_int⟩
/-- enumerate(list) -/
def enumD : Nat → List D → List D
  | _, [] => []
  | k, d :: r => .tup [.int (k : Int), d] :: enumD (k + 1) r
theorem enumD_len : ∀ {k : Nat} {l : List D}, (enumD k l).length = l.length
  | _, [] => rfl
  | k, d :: r => by
    show (enumD (k + 1) r).length + 1 = r.length + 1
    rw [enumD_len]
theorem enumD_get : ∀ {k j : Nat} {l : List D} {d : D}, l[j]? = some d → (enumD k l)[j]? = some (.tup [.int ((k + j : Nat) : Int), d])
  | _, _, [], _, h => by simp at h
  | k, 0, e :: r, d, h => by
    have q : e = d := by simpa using h
    rw [q]
    rfl
  | k, j + 1, e :: r, d, h => by
    have q := enumD_get (k := k + 1) (j := j) (l := r) (d := d) (by simpa using h)
    show (enumD (k + 1) r)[j]? = _
    rw [q, show k + 1 + j = k + (j + 1) by omega]
def enL : List D → Rs (List D)
  | [.lst l] => .ok (enumD 0 l)
  | _ => .no
def ien (a : MA) : MA := fun τ => (a τ).bind enL
theorem vok_pair {K : PySem.W.Frag} {O A : Own} {H : Hp} {T : Addr} {x y : V} {d e : D} (hm : rdMd md = true) (hT : H T = none) (hx : VOK K md O H A d x) (hy : VOK K md O H A e y) : VOK K md O (upd H T (.tup [x, y])) O0 (.tup [d, e]) (.ref T) := by
  have g : Gr O H O (upd H T (.tup [x, y])) := upd_gr hT
  cases md with
  | fz => exact ⟨T, [x, y], rfl, .of upd_same, x, [y], rfl, den_mono g d x hx, y, [], rfl, den_mono g e y hy, rfl⟩
  | bw => exact ⟨T, [x, y], rfl, .of upd_same, x, [y], rfl, den_mono ⟨g.1, fun _ z => z.elim⟩ d x hx, y, [], rfl, den_mono ⟨g.1, fun _ z => z.elim⟩ e y hy, rfl⟩
  | _ => cases hm
theorem voks_one (hm : rdMd md = true) {K : PySem.W.Frag} {O A : Own} {H : Hp} {d : D} {vs : List V} (q : VOKs K md O H A [d] vs) : ∃ v, vs = [v] ∧ VOK K md O H A d v := by
  cases md with
  | fz =>
    obtain ⟨v, r, e, h1, h2⟩ := q
    exact ⟨v, by rw [e, (h2 : r = [])], h1⟩
  | bw =>
    obtain ⟨v, r, e, h1, h2⟩ := q
    exact ⟨v, by rw [e, (h2 : r = [])], h1⟩
  | _ => cases hm
theorem voks_two (hm : rdMd md = true) {K : PySem.W.Frag} {O A : Own} {H : Hp} {d d' : D} {vs : List V} (q : VOKs K md O H A [d, d'] vs) : ∃ v v', vs = [v, v'] ∧ VOK K md O H A d v ∧ VOK K md O H A d' v' := by
  cases md with
  | fz =>
    obtain ⟨v, r, e, h1, v', r', e', h2, h3⟩ := q
    exact ⟨v, v', by rw [e, e', (h3 : r' = [])], h1, h2⟩
  | bw =>
    obtain ⟨v, r, e, h1, v', r', e', h2, h3⟩ := q
    exact ⟨v, v', by rw [e, e', (h3 : r' = [])], h1, h2⟩
  | _ => cases hm
theorem sim_en (hm : rdMd md = true) (h : SA P ms ms1 md l tl) : SIm P ms ms1 md (ien l) (iEnum P.K tl) := fun τ O H σ C R F n k w => by
  refine h τ O H σ C _ F (Rs.bind_ne n) (fun ds O' H' A vs e g f x q => ?_) fun x e => w x (Rs.bind_ex e)
  have eb : ien l τ = enL ds := Rs.bind_ok e
  have get : ∃ l0, ds = [.lst l0] := by
    rw [eb] at n
    unfold enL at n
    split at n
    · exact ⟨_, rfl⟩
    · exact (n rfl).elim
  obtain ⟨l0, rfl⟩ := get
  obtain ⟨v1, ev1, q1⟩ := voks_one hm q
  subst ev1
  obtain ⟨p, vs, ev2, s, q2, st⟩ := vok_lst hm q1
  subst ev2
  have hl : vs.length = l0.length := voks_len q2
  refine ⟨p, vs, rfl, SqL.of s, k (enumD 0 l0) O' H' _ (fun H => SqL P.K H p vs) (YPair (fun i => some (.int (i : Nat))) (fun i => vs[i]?)) eb g (f.ctx fun a z => .inl z) ?_ (fun O2 H2 g2 => SqL.of (st _ O2 H2 g2)) ?_⟩
  · rw [enumD_len, ← hl]
    exact walk_enum
  · rintro k O2 H2 v H3 hk g2 ⟨T, x, y, rfl, nT, rfl, e1, e2⟩
    cases e1
    obtain ⟨d, ed, hd⟩ := voks_get hm q2 e2
    refine ⟨_, enumD_get ed, .upd0 nT, ?_⟩
    rw [Nat.zero_add]
    exact vok_pair hm nT vok_int (stp_vok hm g2 hd)
/-- zip(list, list) -/
def zipD : List D → List D → List D
  | x :: l, y :: m => .tup [x, y] :: zipD l m
  | _, _ => []
theorem zipD_len : ∀ {l m : List D}, (zipD l m).length = min l.length m.length
  | [], m => by
    show 0 = min 0 _
    omega
  | x :: l, [] => by
    show 0 = min _ 0
    omega
  | x :: l, y :: m => by
    show (zipD l m).length + 1 = min (l.length + 1) (m.length + 1)
    rw [zipD_len]
    omega
theorem zipD_get : ∀ {j : Nat} {l m : List D} {d e : D}, l[j]? = some d → m[j]? = some e → (zipD l m)[j]? = some (.tup [d, e])
  | _, [], _, _, _, h, _ => by simp at h
  | _, _ :: _, [], _, _, _, h => by simp at h
  | 0, x :: l, y :: m, d, e, h, k => by
    have q : x = d := by simpa using h
    have r : y = e := by simpa using k
    rw [q, r]
    rfl
  | j + 1, x :: l, y :: m, d, e, h, k => zipD_get (j := j) (l := l) (m := m) (by simpa using h) (by simpa using k)
def zpL : List D → Rs (List D)
  | [.lst l, .lst m] => .ok (zipD l m)
  | _ => .no
def izp (a : MA) : MA := fun τ => (a τ).bind zpL
theorem sim_zp (hm : rdMd md = true) (h : SA P ms ms1 md l tl) : SIm P ms ms1 md (izp l) (iZip P.K tl) := fun τ O H σ C R F n k w => by
  refine h τ O H σ C _ F (Rs.bind_ne n) (fun ds O' H' A vs e g f x q => ?_) fun x e => w x (Rs.bind_ex e)
  have eb : izp l τ = zpL ds := Rs.bind_ok e
  have get : ∃ l0 m0, ds = [.lst l0, .lst m0] := by
    rw [eb] at n
    unfold zpL at n
    split at n
    · exact ⟨_, _, rfl⟩
    · exact (n rfl).elim
  obtain ⟨l0, m0, rfl⟩ := get
  obtain ⟨v1, v1', ev0, q1, q1'⟩ := voks_two hm q
  subst ev0
  obtain ⟨p, vs, ev1, s, q2, st⟩ := vok_lst hm q1
  subst ev1
  obtain ⟨p', vs', ev2, s', q2', st'⟩ := vok_lst hm q1'
  subst ev2
  have hl : vs.length = l0.length := voks_len q2
  have hl' : vs'.length = m0.length := voks_len q2'
  refine ⟨p, p', vs, vs', rfl, .of s, .of s', k (zipD l0 m0) O' H' _ _ _ eb g (f.ctx fun a z => .inl z) (walk_zip (xs := vs) (ys := vs') (by rw [zipD_len, hl, hl'])) (fun O2 H2 g2 => ⟨SqL.of (st _ O2 H2 g2), SqL.of (st' _ O2 H2 g2)⟩) ?_⟩
  rintro k O2 H2 v H3 hk g2 ⟨T, x, y, rfl, nT, rfl, e1, e2⟩
  obtain ⟨d, ed, hd⟩ := voks_get hm q2 e1
  obtain ⟨d', ed', hd'⟩ := voks_get hm q2' e2
  exact ⟨_, zipD_get ed ed', .upd0 nT, vok_pair hm nT (stp_vok hm g2 hd) (stp_vok hm g2 hd')⟩
/-- reversed(list) -/
def rvL : List D → Rs (List D)
  | [.lst l] => .ok l.reverse
  | _ => .no
def irv (a : MA) : MA := fun τ => (a τ).bind rvL
theorem sim_rv (hm : rdMd md = true) (h : SA P ms ms1 md l tl) : SIm P ms ms1 md (irv l) (iRev P.K tl) := fun τ O H σ C R F n k w => by
  refine h τ O H σ C _ F (Rs.bind_ne n) (fun ds O' H' A vs e g f x q => ?_) fun x e => w x (Rs.bind_ex e)
  have eb : irv l τ = rvL ds := Rs.bind_ok e
  have get : ∃ l0, ds = [.lst l0] := by
    rw [eb] at n
    unfold rvL at n
    split at n
    · exact ⟨_, rfl⟩
    · exact (n rfl).elim
  obtain ⟨l0, rfl⟩ := get
  obtain ⟨v1, ev1, q1⟩ := voks_one hm q
  subst ev1
  obtain ⟨p, vs, ev2, s, q2, st⟩ := vok_lst hm q1
  subst ev2
  have hl : vs.length = l0.length := voks_len q2
  refine ⟨p, vs, rfl, SqL.of s, k l0.reverse O' H' _ (fun H => SqL P.K H p vs) (fun i H x H' => H' = H ∧ vs[vs.length - 1 - i]? = some x) eb g (f.ctx fun a z => .inl z) ?_ (fun O2 H2 g2 => SqL.of (st _ O2 H2 g2)) ?_⟩
  · rw [List.length_reverse, ← hl]
    exact walk_rev
  · rintro k O2 H2 v H3 hk g2 ⟨rfl, ev⟩
    rw [List.length_reverse] at hk
    obtain ⟨d, ed, hd⟩ := voks_get hm q2 ev
    refine ⟨d, ?_, .none, stp_vok hm g2 hd⟩
    rw [List.getElem?_reverse hk, ← hl]
    exact ed
end
end Mx

set_option Elab.async false
set_option linter.all false
set_option maxRecDepth 100000
/-! Mx3: comprehensions and walks over the text. -/
namespace Mx
open PySem PySem.Spec PyProof.Rows L2
section
variable {X : Cx} {w : Wx} {ms ms1 ms2 ms3 ms4 : Ms} {md ma mb mr mi : Md} {e ea eb : Expr} {es : List Expr} {a b : ME} {x y : MT} {l i : MA} {pos p2 : Pos} {n : Nat}
/-- what is walked within an expression -/
def CIx (X : Cx) (w : Wx) (ms ms' : Ms) (md : Md) (tg e : Expr) (m : MA) : Prop := ∃ t, PI X tg e t ∧ SIm (px X w) ms ms' md m t
theorem ci_of {tg : Expr} (h : CIx X w ms ms1 .fz tg e l) : CI X w ms ms1 tg e l := ⟨_, h.choose_spec.1, sim_si h.choose_spec.2⟩
theorem cix_seq {tg : Expr} (hm : rdMd md = true) (h : CE X w ms ms1 md e a) : CIx X w ms ms1 md tg e (its a) := ⟨_, PI.or (pi_list h.choose_spec.1) (PI.or (pi_tup h.choose_spec.1) (pi_str h.choose_spec.1)), sim_its hm h.choose_spec.2⟩
theorem cix_r1 {tg : Expr} (hm : X.mg "range" = none) (h : CA X w ms ms1 .bw 1 [e] l) (hg : Gl X "range" := by rfl) (hs : starEach [e] X.env = [(false, eval e X.env)] := by rfl) : CIx X w ms ms1 md tg (.Call (.Name "range" p2) [e] [] pos) (ir1 l) := ⟨_, pi_range1 hg hm h.2.2.choose_spec.1 hs, sim_r1 h.2.2.choose_spec.2⟩
theorem cix_r2 {tg : Expr} (hm : X.mg "range" = none) (h : CA X w ms ms1 .bw 2 [ea, eb] l) (hg : Gl X "range" := by rfl) (hs : starEach [ea, eb] X.env = [(false, eval ea X.env), (false, eval eb X.env)] := by rfl) (hs2 : starEach [eb] X.env = [(false, eval eb X.env)] := by rfl) : CIx X w ms ms1 md tg (.Call (.Name "range" p2) [ea, eb] [] pos) (ir2 l) := ⟨_, pi_range2 hg hm h.2.2.choose_spec.1 hs hs2, sim_r2 h.2.2.choose_spec.2⟩
theorem cix_en {tp : Pos} {ts : List Expr} {kk : Nat} (hm : X.mg "enumerate" = none) (hr : rdMd md = true) (h : CA X w ms ms1 md 1 [e] l) (hg : Gl X "enumerate" := by rfl) (hs : starEach [e] X.env = [(false, eval e X.env)] := by rfl) : CIx X w ms ms1 md (.Tuple ts kk tp) (.Call (.Name "enumerate" p2) [e] [] pos) (ien l) := ⟨_, pi_enum hg hm h.2.2.choose_spec.1 hs, sim_en hr h.2.2.choose_spec.2⟩
theorem cix_zp {tp : Pos} {ts : List Expr} {kk : Nat} (hm : X.mg "zip" = none) (hr : rdMd md = true) (h : CA X w ms ms1 md 2 [ea, eb] l) (hg : Gl X "zip" := by rfl) (hs : starEach [ea, eb] X.env = (false, eval ea X.env) :: starEach [eb] X.env := by rfl) (hpl : (backTo pos (starEach [eb] X.env)).any (·.1) = false := by rfl) : CIx X w ms ms1 md (.Tuple ts kk tp) (.Call (.Name "zip" p2) [ea, eb] [] pos) (izp l) := ⟨_, pi_zip hg hm h.2.2.choose_spec.1 hs hpl, sim_zp hr h.2.2.choose_spec.2⟩
theorem cix_rv {tg : Expr} (hm : X.mg "reversed" = none) (hr : rdMd md = true) (h : CA X w ms ms1 md 1 [e] l) (hg : Gl X "reversed" := by rfl) (hs : starEach [e] X.env = [(false, eval e X.env)] := by rfl) : CIx X w ms ms1 md tg (.Call (.Name "reversed" p2) [e] [] pos) (irv l) := ⟨_, pi_reversed hg hm h.2.2.choose_spec.1 hs, sim_rv hr h.2.2.choose_spec.2⟩

/-- within a comprehension nothing is raised -/
abbrev wB (w : Wx) (n : Nat) : Wx := ⟨w.cl, fun _ _ _ _ => False, List.replicate n none⟩
theorem tk0 {X : Cx} : Takes X (fun _ _ _ _ => False) := fun _ _ x => by
  obtain ⟨_, _, _, _, _, _, _, _, _, _, _, _, _, _, _, _, z⟩ := x
  exact z.elim
abbrev blkX (X : Cx) (scope : Scope) (s : Shared) (H : Hp) (C : Addr) (cl : List (Str × Addr)) (fp : List Addr) : Cx := X.blk s H scope (compEnvC scope cl C X.env) fp
def BE (X : Cx) (scope : Scope) (w : Wx) (ms ms' : Ms) (md : Md) (e : Expr) (m : ME) : Prop := ∃ t, (∀ s H C cl fp, PE (blkX X scope s H C cl fp) e t) ∧ SE (px X w) ms ms' md m t
def BT (X : Cx) (scope : Scope) (w : Wx) (ms ms' : Ms) (es : List Expr) (m : MT) : Prop := ∃ t, (∀ s H C cl fp, PTs (blkX X scope s H C cl fp) es t) ∧ ST (px X w) ms ms' m t
def BG (X : Cx) (scope : Scope) (vs : List Nat) (w : Wx) (ms ms' : Ms) (md : Md) (e : Expr) (m : MG) : Prop := ∃ t, (∀ s H C cl fp, PG (blkX X scope s H C cl fp) e t) ∧ SG (px X w) ms ms' md m t ∧ Tch vs m t
def BGs (X : Cx) (scope : Scope) (vs : List Nat) (w : Wx) (ms ms' : Ms) (md : Md) (es : List Expr) (m : List MG) : Prop := m.length = es.length ∧ ∃ t, (∀ s H C cl fp, PGs (blkX X scope s H C cl fp) es t) ∧ SGs (px X w) ms ms' md m t ∧ Tchs vs m t
variable {scope : Scope} {vs : List Nat}
theorem be_of (h : ∀ (s : Shared) (H : Hp) (C : Addr) (cl : List (Str × Addr)) (fp : List Addr), CE (blkX X scope s H C cl fp) w ms ms1 md e a) : BE X scope w ms ms1 md e a :=
  ⟨fun σ H Q => ∀ s H0 C cl fp, (h s H0 C cl fp).choose σ H Q, fun s H0 C cl fp => ⟨fun pins s' σ H Q I z => (h s H0 C cl fp).choose_spec.1.run pins s' σ H Q I (z s H0 C cl fp)⟩,
    fun τ O H σ C Q F n k wk s H0 C2 cl fp => (h s H0 C2 cl fp).choose_spec.2 τ O H σ C Q F n k wk⟩
theorem bt_of (h : ∀ (s : Shared) (H : Hp) (C : Addr) (cl : List (Str × Addr)) (fp : List Addr), CT (blkX X scope s H C cl fp) w ms ms1 e x) : BT X scope w ms ms1 [e] x :=
  ⟨fun σ H Q => ∀ s H0 C cl fp, (h s H0 C cl fp).choose σ H Q, fun s H0 C cl fp => pts_one ⟨fun pins s' σ H Q I z => (h s H0 C cl fp).choose_spec.1.run pins s' σ H Q I (z s H0 C cl fp)⟩,
    fun τ O H σ C Q F n k wk s H0 C2 cl fp => (h s H0 C2 cl fp).choose_spec.2 τ O H σ C Q F n k wk⟩
def yes : MT := fun _ => .ok true
theorem bt_nil : BT X scope w ms ms [] yes := ⟨tYes, fun _ _ _ _ _ => pts_nil, fun τ O H σ C Q F n k wk => k true O H rfl .refl F⟩
theorem bg_name (i : Nat) {x : Str} (hN : X.N.Nodup) (hv : i ∈ vs := by decide) (hi : X.N[i]? = some x := by rfl) (hx : ∀ cl C, Loc (compEnvC scope cl C X.env).scope x := by intro _ _; first | exact Or.inl rfl | exact Or.inr rfl)
    (hf : ∀ cl C, (scope.names.lookup x == some .cell) = true ∨ (compEnvC scope cl C X.env).scope.names.lookup x = some .local := by intro _ _; first | exact .inl rfl | exact .inr rfl) :
    BG X scope vs w ms (ms.set i (some md)) md (.Name x pos) (gn i) := ⟨_, fun s H C cl fp => pg_name (X := blkX X scope s H C cl fp) hN hi (hx cl C) (hf cl C), sg_name, tch_name hv⟩
theorem bgs_nil : BGs X scope vs w ms ms md [] [] := ⟨rfl, _, fun _ _ _ _ _ => pgs_nil, sgs_nil, tchs_nil⟩
theorem bgs_cons {g : MG} {gs : List MG} (h1 : BG X scope vs w ms ms1 md e g) (h2 : BGs X scope vs w ms1 ms2 md es gs) (hs : ∀ cl C, (assignEach (e :: es) (compEnvC scope cl C X.env)).map (·.2) = assign e (compEnvC scope cl C X.env) :: (assignEach es (compEnvC scope cl C X.env)).map (·.2) := by intro _ _; rfl) : BGs X scope vs w ms ms2 md (e :: es) (g :: gs) := by
  obtain ⟨k, t, p, s, c⟩ := h2
  obtain ⟨t1, p1, s1, c1⟩ := h1
  exact ⟨by rw [List.length_cons, List.length_cons, k], _, fun s H C cl fp => pgs_cons (p1 s H C cl fp) (p s H C cl fp) (hs cl C), sgs_cons s1 s, tchs_cons c1 c⟩
theorem bg_tup {k : Nat} {gs : List MG} (hc : X.calm = true) (h : BGs X scope vs w ms ms1 md es gs) (hm : okMd md = true := by rfl) (hn : ∀ cl C, (assignEach es (compEnvC scope cl C X.env)).length = es.length := by intro _ _; rfl) (hst : ∀ cl C, (assignEach es (compEnvC scope cl C X.env)).findIdx? (·.1) = none := by intro _ _; rfl) : BG X scope vs w ms ms1 md (.Tuple es k pos) (gt gs) := by
  obtain ⟨z, t, p, s, c⟩ := h
  exact ⟨gTup X.K es.length t, fun s H C cl fp => pg_tup (X := blkX X scope s H C cl fp) hc (p s H C cl fp) (hn cl C) (hst cl C), sg_tup z s hm, tch_tup c⟩
theorem ce_lc {tg iter : Expr} {ifs : List Expr} {own : List (Str × Nat)} {g : MG} (hc : X.calm = true) (hN : X.N.Nodup) (hi : CIx X w ms ms1 mi tg iter i) (ok : BlkOk X.N X.env.scope scope own)
    (hg : BG X scope (own.map (·.2)) (wB w n) (wpm ms1 (own.map (·.2))) ms2 mi tg g) (ht : BT X scope (wB w n) ms2 ms3 ifs y) (he : BE X scope (wB w n) ms3 ms4 md e a) (hmd : md = .fz ∨ md = .deep := by first | exact Or.inl rfl | exact Or.inr rfl)
    (l1 : leMs ms1 (wpm ms1 (own.map (·.2))) = true := by rfl) (l3 : leMs ms3 (wpm ms1 (own.map (·.2))) = true := by rfl) (l4 : leMs ms4 (wpm ms1 (own.map (·.2))) = true := by rfl) (hm : okMs (wpm ms1 (own.map (·.2))) = true := by rfl) (hs : ∀ x, foldedSetIterable iter X.env x = pure x := by intro _; rfl) :
    CE X w ms (wpm ms1 (own.map (·.2))) (mdL md) (.ListComp e [⟨tg, iter, ifs, 0⟩] scope pos) (mlc i g y a) := by
  obtain ⟨wi, p1, s1⟩ := hi
  obtain ⟨tg', p2, s2, c2⟩ := hg
  obtain ⟨tt, p3, s3⟩ := ht
  obtain ⟨te, p4, s4⟩ := he
  exact ⟨_, pe_lc hc hN p1 ok p2 p3 p4 hs, se_mlc (Pb := px X (wB w n)) rfl (sim_six s1) s2 c2 s3 s4 l1 l3 l4 hm hmd⟩
theorem cs_setLc {tg iter : Expr} {ifs : List Expr} {own : List (Str × Nat)} {g : MG} (j : Nat) {z : Str} {lpos : Pos} (hc : X.calm = true) (hN : X.N.Nodup) (hi : CIx X w ms ms1 mi tg iter i) (ok : BlkOk X.N X.env.scope scope own)
    (hg : BG X scope (own.map (·.2)) (wB w n) (wpm ms1 (own.map (·.2))) ms2 mi tg g) (ht : BT X scope (wB w n) ms2 ms3 ifs y) (he : BE X scope (wB w n) ms3 ms4 md e a) (hmd : md = .fz ∨ md = .deep := by first | exact Or.inl rfl | exact Or.inr rfl)
    (hj : X.N[j]? = some z := by rfl) (hz : X.env.scope.names.lookup z = some .local := by rfl) (hsw : swapsWith (.ListComp e [⟨tg, iter, ifs, 0⟩] scope lpos) (some (.Name z p2)) pos.line X.env = pure true := by exact sw_true rfl rfl rfl (by decide +kernel))
    (l1 : leMs ms1 (wpm ms1 (own.map (·.2))) = true := by rfl) (l3 : leMs ms3 (wpm ms1 (own.map (·.2))) = true := by rfl) (l4 : leMs ms4 (wpm ms1 (own.map (·.2))) = true := by rfl) (hm : okMs (wpm ms1 (own.map (·.2))) = true := by rfl) (hs : ∀ x, foldedSetIterable iter X.env x = pure x := by intro _; rfl) :
    CS X w ms ((wpm ms1 (own.map (·.2))).set j (some (mdL md))) mr (.Assign [.Name z p2] (.ListComp e [⟨tg, iter, ifs, 0⟩] scope lpos) pos) (asg (mlc i g y a) (gn j)) := by
  obtain ⟨wi, p1, s1⟩ := hi
  obtain ⟨tg', p2, s2, c2⟩ := hg
  obtain ⟨tt, p3, s3⟩ := ht
  obtain ⟨te, p4, s4⟩ := he
  exact ⟨_, ps_setLc (i := j) hc hN hj hz hsw p1 ok p2 p3 p4 hs, ss_asg (se_mlc (Pb := px X (wB w n)) rfl (sim_six s1) s2 c2 s3 s4 l1 l3 l4 hm hmd) sg_name⟩
theorem nx_vr {i : Nat} : ∀ τ x, vr i τ ≠ .ex x := fun τ x e => by
  unfold vr at e
  split at e <;> cases e
theorem nx_kc {d : D} : ∀ τ x, kc d τ ≠ .ex x := fun τ x e => by cases e
theorem nx_o2 {f : D → D → Rs D} (hf : ∀ x y z, f x y ≠ .ex z) (ha : ∀ τ x, a τ ≠ .ex x) (hb : ∀ τ x, b τ ≠ .ex x) : ∀ τ x, o2 f a b τ ≠ .ex x := fun τ x e => by
  unfold o2 at e
  cases h : a τ with
  | no => rw [h] at e; cases e
  | ex z => exact ha τ z h
  | ok d =>
    rw [h, rb_ok] at e
    cases h2 : b τ with
    | no => rw [h2] at e; cases e
    | ex z => exact hb τ z h2
    | ok d2 => rw [h2, rb_ok] at e; exact hf _ _ _ e
theorem nx_ii {f : D → D → Rs D} (hf : Pure2 f) : ∀ x y z, f x y ≠ .ex z := hf
/-- x[i] = e, x a list of one's own -/
theorem cs_stx (i : Nat) {x : Str} {xp : Pos} (hma : ma = .fz ∨ ma = .deep) (he : CE X w ms ms1 ma e a) (hx : CE X w ms1 ms1 .bw ea b) (hp : ∀ τ x, b τ ≠ .ex x) (hN : X.N[i]? = some x := by rfl) (ei : ms1[i]? = some (some (mdO ma)) := by rfl) (hm : okMs ms1 = true := by rfl) (hv : Vis X.env.scope x := by first | exact Or.inl rfl | exact Or.inr (Or.inl rfl) | exact Or.inr (Or.inr rfl)) (hd : (x == ("__debug__" : Str)) = false := by decide) (hcd : (x == ("__classdict__" : Str)) = false := by decide)
    (hs : swapsWithSole [.Subscript (.Name x xp) ea p2] e pos.line X.env = pure false := by rfl) (hw : swappedStores [.Subscript (.Name x xp) ea p2] e X.env = pure none := by rfl)
    (h1 : (assignEach [.Subscript (.Name x xp) ea p2] X.env).map (·.2) = [assign (.Subscript (.Name x xp) ea p2) X.env] := by rfl)
    (ha : ∀ v, assign (.Subscript (.Name x xp) ea p2) X.env v = (do
      let ov ← holding [v] (eval (.Name x xp) X.env)
      let iv ← holding [v, ov] (eval ea X.env)
      standAt p2
      holding [v, ov, iv] (setItem ov iv v)
      release [v, ov, iv] []) := by intro _; rfl) :
    CS X w ms ms1 mr (.Assign [.Subscript (.Name x xp) ea p2] e pos) (stx i b a) := by
  obtain ⟨t, p, s⟩ := he
  obtain ⟨t2, q, s2⟩ := hx
  exact ⟨_, ps_asg p (pg_sub (pe_var hN hv hd hcd) q set_list ha) hs hw h1, ss_stx hma s s2 hp ei hm⟩
end
end Mx

set_option Elab.async false
set_option linter.all false
set_option maxRecDepth 100000
/-! Mx4: list(), tuple(), sum, min, max, sorted, slices, sums of texts, tuples and lists, methods of texts. -/
namespace Mx
open PySem PySem.Spec PyProof.Rows L2
section
variable {K : PySem.W.Frag} {O A B : Own} {H : Hp} {ds : List D} {vs : List V} {md ma mb : Md} {l : Addr}
theorem new_own (q : Dens K O H ds vs) (hl : H l = none) : VOK K .own (Own.or O fun a => a = l) (upd H l (.lst vs)) (fun a => a = l) (.lst ds) (.ref l) :=
  ⟨l, vs, rfl, upd_same, rfl, dens_mono (Nw.upd hl).gr ds vs q⟩
theorem new_deep {O' : Own} (i : imms ds = true) (q : Dens K O H ds vs) (hl : H l = none) : VOK K .deep O' (upd H l (.lst vs)) (fun a => a = l) (.lst ds) (.ref l) :=
  ⟨l, vs, O0, rfl, upd_same, rfl, fun z => z, fun _ z => z.elim, imms_dps ds vs O0 i (dens_mono (Nw.upd hl).gr ds vs q)⟩
theorem new_imm (hm : md = .own ∨ md = .deep) (i : imms ds = true) (q : Dens K O' H ds vs) (hl : H l = none) : VOK K md (Own.or O fun a => a = l) (upd H l (.lst vs)) (fun a => a = l) (.lst ds) (.ref l) := by
  rcases hm with rfl | rfl
  · exact new_own (imms_dens ds vs i q) hl
  · exact new_deep i q hl
/-- what a list, a tuple or the script holds -/
def itemsD : D → Option (List D)
  | .lst l => some l
  | .tup l => some l
  | .scr l => some l
  | _ => none
theorem items_get {d : D} {v : V} (h : Den K O H d v) (e : itemsD d = some ds) : ∃ p vs, v = .ref p ∧ (SqL K H p vs ∨ SqT K H p vs) ∧ Dens K O H ds vs := by
  cases d with
  | lst l =>
    cases e
    obtain ⟨p, vs, e, s, q⟩ := h
    exact ⟨p, vs, e, .inl s.sq, q⟩
  | tup l =>
    cases e
    obtain ⟨p, vs, e, s, q⟩ := h
    exact ⟨p, vs, e, .inr s, q⟩
  | scr l =>
    cases e
    obtain ⟨p, vs, e, s, q⟩ := h
    exact ⟨p, vs, e, .inl s.sq, q⟩
  | _ => cases e
def sqD : D → Option (List D)
  | .lst l => some l
  | .scr l => some l
  | _ => none
theorem sq_get {d : D} {v : V} (h : Den K O H d v) (e : sqD d = some ds) : ∃ p vs, v = .ref p ∧ SqL K H p vs ∧ Dens K O H ds vs := by
  cases d with
  | lst l =>
    cases e
    obtain ⟨p, vs, e, s, q⟩ := h
    exact ⟨p, vs, e, s.sq, q⟩
  | scr l =>
    cases e
    obtain ⟨p, vs, e, s, q⟩ := h
    exact ⟨p, vs, e, s.sq, q⟩
  | _ => cases e
/-! list(x) -/
def listF : List D → Rs D
  | [d] => match itemsD d with
    | some l => .ok (.lst l)
    | none => .no
  | _ => .no
def listI : List D → Rs D
  | [d] => match itemsD d with
    | some l => if imms l = true then .ok (.lst l) else .no
    | none => .no
  | _ => .no
theorem listF_pure : PureL listF := fun x e h => by
  unfold listF at h
  split at h
  · split at h <;> cases h
  · cases h
theorem listI_pure : PureL listI := fun x e h => by
  unfold listI at h
  split at h
  · split at h
    · split at h <;> cases h
    · cases h
  · cases h
abbrev rListOf (K : PySem.W.Frag) : List V → Hp → VK → Prop := fun xs H Q => ∃ p ys, xs = [.ref p] ∧ (SqL K H p ys ∨ SqT K H p ys) ∧ ∀ l, H l = none → Q (.ref l) (upd H l (.lst ys))
theorem fz1 {d : D} {xs : List V} (h : VOKs K .fz O H A [d] xs) : ∃ x, xs = [x] ∧ Den K O H d x := by
  obtain ⟨v, r, e, h1, h2⟩ := h
  exact ⟨v, by rw [e, (h2 : r = [])], h1⟩
theorem fc_list : FC K .fz .own listF (rListOf K) := fun O H A xs ds Q _ h k e => by
  obtain ⟨d, e⟩ := e
  have e0 := e
  unfold listF at e
  split at e
  · split at e
    · rename_i dd l el
      obtain ⟨x, rfl, hx⟩ := fz1 h
      obtain ⟨p, vs, rfl, s, q⟩ := items_get hx el
      cases e
      exact ⟨p, vs, rfl, s, fun a ha => k _ _ _ _ e0 (Nw.upd ha) (new_own q ha)⟩
    · cases e
  · cases e
theorem fc_listI (hm : md = .own ∨ md = .deep) : FC K ma md listI (rListOf K) := fun O H A xs ds Q _ h k e => by
  obtain ⟨d, e⟩ := e
  have e0 := e
  unfold listI at e
  split at e
  · split at e
    · rename_i dd l el
      split at e
      · rename_i i
        obtain ⟨x, rfl, hx⟩ := voks1 h
        obtain ⟨p, vs, rfl, s, q⟩ := items_get (show Den K O0 H _ x from hx) el
        cases e
        exact ⟨p, vs, rfl, s, fun a ha => k _ _ _ _ e0 (Nw.upd ha) (new_imm hm i q ha)⟩
      · cases e
    · cases e
  · cases e
/-! whole numbers of a list -/
def intsOf : List D → Option (List Int)
  | [] => some []
  | .int i :: r => (intsOf r).map (i :: ·)
  | _ => none
theorem intsOf_map : ∀ ns : List Int, intsOf (ns.map D.int) = some ns
  | [] => rfl
  | n :: r => by
    show (intsOf (r.map D.int)).map (n :: ·) = _
    rw [intsOf_map r]
    rfl
theorem intsOf_get : ∀ {l : List D} {ns : List Int}, intsOf l = some ns → l = ns.map D.int
  | [], ns, e => by cases e; rfl
  | d :: r, ns, e => by
    cases d with
    | int i =>
      replace e : (intsOf r).map (i :: ·) = some ns := e
      cases h : intsOf r with
      | none => rw [h] at e; cases e
      | some m =>
        rw [h] at e
        cases e
        rw [intsOf_get h]
        rfl
    | _ => cases e
theorem dens_ints' : ∀ {ns : List Int} {vs : List V}, Dens K O H (ns.map D.int) vs → vs = ns.map V.int
  | [], vs, h => h
  | n :: r, vs, h => by
    obtain ⟨v, s, e, h1, h2⟩ := h
    rw [e, dens_ints' h2, (h1 : v = .int n)]
    rfl
theorem imms_ints : ∀ ns : List Int, imms (ns.map D.int) = true
  | [] => rfl
  | n :: r => by
    show (true && imms (r.map D.int)) = true
    rw [imms_ints r]
    rfl
def sumD : List D → Rs D
  | [d] => match (sqD d).bind intsOf with
    | some ns => .ok (.int ns.sum)
    | none => .no
  | _ => .no
theorem sq_ints {d : D} {v : V} {ns : List Int} (h : Den K O H d v) (e : (sqD d).bind intsOf = some ns) : ∃ p, v = .ref p ∧ SqL K H p (ns.map V.int) := by
  cases es : sqD d with
  | none => rw [es] at e; cases e
  | some l =>
    rw [es] at e
    obtain ⟨p, vs, rfl, s, q⟩ := sq_get h es
    rw [intsOf_get e] at q
    rw [dens_ints' q] at s
    exact ⟨p, rfl, s⟩
theorem fc_sum : FC K ma md sumD (rSum K) := fun O H A xs ds Q _ h k e => by
  obtain ⟨d, e⟩ := e
  have e0 := e
  unfold sumD at e
  split at e
  · split at e
    · rename_i dd ns el
      obtain ⟨x, rfl, hx⟩ := voks1 h
      obtain ⟨p, rfl, s⟩ := sq_ints (show Den K O0 H _ x from hx) el
      cases e
      exact ⟨p, ns, rfl, s, fc_ret k e0 fun _ _ => vok_int⟩
    · cases e
  · cases e
theorem sum_pure : PureL sumD := fun x e h => by
  unfold sumD at h
  split at h
  · split at h <;> cases h
  · cases h
def bestD (f : List Int → Option Int) : List D → Rs D
  | [d] => match (sqD d).bind intsOf with
    | some ns => match f ns with
      | some m => .ok (.int m)
      | none => .no
    | none => .no
  | _ => .no
abbrev minL := bestD List.min?
abbrev maxL := bestD List.max?
theorem best_pure {f : List Int → Option Int} : PureL (bestD f) := fun x e h => by
  unfold bestD at h
  split at h
  · split at h
    · split at h <;> cases h
    · cases h
  · cases h
theorem fc_minL : FC K ma md minL (rMin K) := fun O H A xs ds Q _ h k e => by
  obtain ⟨d, e⟩ := e
  have e0 := e
  unfold minL bestD at e
  split at e
  · split at e
    · rename_i dd ns el
      split at e
      · rename_i m em
        obtain ⟨x, rfl, hx⟩ := voks1 h
        obtain ⟨p, rfl, s⟩ := sq_ints (show Den K O0 H _ x from hx) el
        cases e
        have hm := List.min?_eq_some_iff.mp em
        refine ⟨p, ns, rfl, s, List.length_pos_of_mem hm.1, fun m' h1 h2 => ?_⟩
        have e1 : m' = m := Int.le_antisymm (h2 _ hm.1) (hm.2 _ h1)
        subst e1
        exact fc_ret k e0 fun _ _ => vok_int
      · cases e
    · cases e
  · cases e
theorem fc_maxL : FC K ma md maxL (rMax K) := fun O H A xs ds Q _ h k e => by
  obtain ⟨d, e⟩ := e
  have e0 := e
  unfold maxL bestD at e
  split at e
  · split at e
    · rename_i dd ns el
      split at e
      · rename_i m em
        obtain ⟨x, rfl, hx⟩ := voks1 h
        obtain ⟨p, rfl, s⟩ := sq_ints (show Den K O0 H _ x from hx) el
        cases e
        have hm := List.max?_eq_some_iff.mp em
        refine ⟨p, ns, rfl, s, List.length_pos_of_mem hm.1, fun m' h1 h2 => ?_⟩
        have e1 : m' = m := Int.le_antisymm (hm.2 _ h1) (h2 _ hm.1)
        subst e1
        exact fc_ret k e0 fun _ _ => vok_int
      · cases e
    · cases e
  · cases e
def sortN (ns : List Int) : List Int := ns.mergeSort (fun a b => decide (a ≤ b))
theorem sortN_perm (ns : List Int) : (sortN ns).Perm ns := List.mergeSort_perm ns _
theorem sortN_up (ns : List Int) : (sortN ns).Pairwise (· ≤ ·) := by
  have h := List.pairwise_mergeSort (le := fun a b : Int => decide (a ≤ b)) (fun a b c h1 h2 => by simp at *; omega) (fun a b => by simp; omega) ns
  exact h.imp fun q => by simpa using q
theorem sortN_eq {ns ms : List Int} (p : ms.Perm ns) (u : ms.Pairwise (· ≤ ·)) : ms = sortN ns :=
  (p.trans (sortN_perm ns).symm).eq_of_pairwise (fun a b _ _ h1 h2 => Int.le_antisymm h1 h2) u (sortN_up ns)
def sortedD : List D → Rs D
  | [d] => match (sqD d).bind intsOf with
    | some ns => .ok (.lst ((sortN ns).map .int))
    | none => .no
  | _ => .no
theorem sorted_pure : PureL sortedD := fun x e h => by
  unfold sortedD at h
  split at h
  · split at h <;> cases h
  · cases h
theorem fc_sorted (hm : md = .own ∨ md = .deep) : FC K ma md sortedD (rSortedI K) := fun O H A xs ds Q _ h k e => by
  obtain ⟨d, e⟩ := e
  have e0 := e
  unfold sortedD at e
  split at e
  · split at e
    · rename_i dd ns el
      obtain ⟨x, rfl, hx⟩ := voks1 h
      obtain ⟨p, rfl, s⟩ := sq_ints (show Den K O0 H _ x from hx) el
      cases e
      refine ⟨p, ns, rfl, s, fun ns' a h1 h2 ha => ?_⟩
      have e1 := sortN_eq h1 h2
      subst e1
      exact k _ _ _ _ e0 (Nw.upd ha) (new_imm (O' := O0) hm (imms_ints _) (dens_ints _) ha)
    · cases e
  · cases e
/-! tuple(x) -/
def tupF : List D → Rs D
  | [.lst l] => .ok (.tup l)
  | [.tup l] => .ok (.tup l)
  | _ => .no
theorem tup_pure : PureL tupF := fun x e h => by
  unfold tupF at h
  split at h <;> cases h
abbrev rTupOf (K : PySem.W.Frag) : List V → Hp → VK → Prop := fun xs H Q => ∃ p ys, xs = [.ref p] ∧ ((SqL K H p ys ∧ ∀ l, H l = none → Q (.ref l) (upd H l (.tup ys))) ∨ (SqT K H p ys ∧ Q (.ref p) H))
theorem or0 {O : Own} {H : Hp} : Gr O H (Own.or O O0) H := ⟨fun _ _ z => z, fun a z => z.elim .inl fun q => q.elim⟩
/-- as FC, F2: what is handed back may hold what was handed in -/
def FD (K : PySem.W.Frag) (ma md : Md) (f : List D → Rs D) (r : List V → Hp → VK → Prop) : Prop := ∀ O H A xs ds (Q : VK), (∀ a, O a → H a ≠ none) → (∀ a, A a → O a) → VOKs K ma O H A ds xs →
  (∀ d H' B v, f ds = .ok d → Nw H H' B → VOK K md (Own.or O B) H' (Own.or A B) d v → Q v H') → (∃ d, f ds = .ok d) → r xs H Q
def FD2 (K : PySem.W.Frag) (ma mb md : Md) (f : D → D → Rs D) (r : R2) : Prop := ∀ O H A B x y dx dy (Q : VK), (∀ a, O a → H a ≠ none) → (∀ a, A a → O a) → (∀ a, B a → O a) → (∀ a, A a → B a → False) → VOK K ma O H A dx x → VOK K mb O H B dy y →
  (∀ d H' B' v, f dx dy = .ok d → Nw H H' B' → VOK K md (Own.or O B') H' (Own.or (Own.or A B) B') d v → Q v H') → (∃ d, f dx dy = .ok d) → r x y H Q
theorem gr0 {O : Own} {H H' : Hp} (n : Nw H H' O0) : Gr O0 H O0 H' := ⟨n.ex, fun _ z => z.elim⟩
theorem fd_tup (hm : okMd md = true) : FD K md md tupF (rTupOf K) := fun O H A xs ds Q dom sub h k e => by
  obtain ⟨d, e⟩ := e
  have e0 := e
  unfold tupF at e
  have nw : ∀ {a : Addr} {o : HO}, H a = none → Nw H (upd H a o) O0 := fun ha => .upd0 ha
  split at e
  · cases e
    cases md with
    | fz =>
      obtain ⟨x, r, rfl, ⟨p, vs, rfl, s, q⟩, hr⟩ := h
      rw [(hr : r = [])]
      exact ⟨p, vs, rfl, .inl ⟨s.sq, fun a ha => k _ _ _ _ e0 (nw ha) ⟨a, vs, rfl, .of upd_same, dens_mono ((nw ha).gr) _ _ q⟩⟩⟩
    | bw =>
      obtain ⟨x, r, rfl, ⟨p, vs, rfl, s, q⟩, hr⟩ := h
      rw [(hr : r = [])]
      exact ⟨p, vs, rfl, .inl ⟨s.sq, fun a ha => k _ _ _ _ e0 (nw ha) ⟨a, vs, rfl, .of upd_same, dens_mono ⟨(nw ha).ex, fun _ z => z.elim⟩ _ _ q⟩⟩⟩
    | deep =>
      obtain ⟨x, r, A1, A2, rfl, _, l1, _, ⟨p, vs, A3, rfl, s, hp, hn, l3, q⟩, hr⟩ := h
      rw [(hr : r = [])]
      exact ⟨p, vs, rfl, .inl ⟨.of s, fun a ha => k _ _ _ _ e0 (nw ha) ⟨a, vs, rfl, .of upd_same, dps_mono (nw ha).ex _ _ _ (dps_over _ _ _ _ (fun a z => .inl (l1 a (l3 a z))) q)⟩⟩⟩
    | _ => cases hm
  · cases e
    cases md with
    | fz =>
      obtain ⟨x, r, rfl, ⟨p, vs, rfl, s, q⟩, hr⟩ := h
      rw [(hr : r = [])]
      exact ⟨p, vs, rfl, .inr ⟨s, k _ H O0 _ e0 .none ⟨p, vs, rfl, s, dens_mono or0 _ _ q⟩⟩⟩
    | bw =>
      obtain ⟨x, r, rfl, ⟨p, vs, rfl, s, q⟩, hr⟩ := h
      rw [(hr : r = [])]
      exact ⟨p, vs, rfl, .inr ⟨s, k _ H O0 _ e0 .none ⟨p, vs, rfl, s, q⟩⟩⟩
    | deep =>
      obtain ⟨x, r, A1, A2, rfl, _, l1, _, ⟨p, vs, rfl, s, q⟩, hr⟩ := h
      rw [(hr : r = [])]
      exact ⟨p, vs, rfl, .inr ⟨s, k _ H O0 _ e0 .none ⟨p, vs, rfl, s, dps_over _ _ _ _ (fun a z => .inl (l1 a z)) q⟩⟩⟩
    | _ => cases hm
  · cases e
theorem se_cbD {P : Px} {ms ms1 : Ms} {ma md : Md} {l : MA} {tl : TA} {f : List D → Rs D} {r : List V → Hp → VK → Prop} (h : SA P ms ms1 ma l tl) (hr : FD P.K ma md f r) (hp : PureL f) : SE P ms ms1 md (cll f l) (tCB r tl) := fun τ O H σ C Q F n k w => by
  refine h τ O H σ C _ F (Rs.bind_ne n) (fun ds O' H' A vs e g f' x q => ?_) fun x e => w x (Rs.bind_ex e)
  have eb : cll f l τ = f ds := Rs.bind_ok e
  refine hr O' H' A vs ds Q f'.dom (fun a z => f'.sub a (.inr z)) q (fun d2 H2 B v2 e2 n2 q2 => ?_) (ok_of (eb ▸ n) (hp ds))
  exact k d2 _ H2 (Own.or A B) v2 (eb.trans e2) (g.trans n2.gr) ((f'.grow n2).ctx fun a z => z.elim (fun q => .inl (.inl q)) fun q => q.elim (fun q => .inl (.inr q)) .inr) (fun a z c => z.elim (fun z => x a z c) fun z => f'.dom a (f'.sub a (.inl c)) (n2.new a z).1) q2
theorem se_o2D {P : Px} {ms ms1 ms2 : Ms} {ma mb md : Md} {a b : ME} {ta tb' : TE} {f : D → D → Rs D} {r : R2} (ha : SE P ms ms1 ma a ta) (hb : SE P ms1 ms2 mb b tb') (hr : FD2 P.K ma mb md f r) (hp : Pure2 f) : SE P ms ms2 md (o2 f a b) (tOp r ta tb') := fun τ O H σ C Q F n k w => by
  refine ha τ O H σ C _ F (Rs.bind_ne n) (fun d O1 H1 A v e g f1 x q => ?_) fun x e => w x (Rs.bind_ex e)
  have eb : o2 f a b τ = (b τ).bind fun y => f d y := Rs.bind_ok e
  rw [eb] at n k w
  refine hb τ O1 H1 σ (Own.or C A) _ f1 (Rs.bind_ne n) (fun d' O2 H2 A' v' e' g' f2 x' q' => ?_) fun x e => (w x (Rs.bind_ex e)).up g fun a z => .inl z
  have eb' : ((b τ).bind fun y => f d y) = f d d' := Rs.bind_ok e'
  refine hr O2 H2 A A' v v' d d' Q f2.dom (fun a z => f2.sub a (.inl (.inr z))) (fun a z => f2.sub a (.inr z)) (fun a z z' => x' a z' (.inr z)) (q.mono g') q' (fun d2 H3 B v2 e2 n2 q2 => ?_) (ok_of (eb' ▸ n) (hp d d'))
  exact k d2 _ H3 _ v2 (eb'.trans e2) ((g.trans g').trans n2.gr) ((f2.grow n2).ctx fun a z => z.elim (fun q => .inl (.inl (.inl q))) fun q => q.elim (fun q => q.elim (fun q => .inl (.inl (.inr q))) fun q => .inl (.inr q)) .inr) (fun a z c => z.elim (fun z => z.elim (fun z => x a z c) fun z => x' a z (.inl c)) fun z => f2.dom a (f2.sub a (.inl (.inl c))) (n2.new a z).1) q2
/-! sums of tuples, of lists, of texts -/
def tAdd : D → D → Rs D
  | .tup l, .tup m => if l.length + m.length ≤ 1000000 then .ok (.tup (l ++ m)) else .no
  | _, _ => .no
def lAdd : D → D → Rs D
  | .lst l, .lst m => if l.length + m.length ≤ 1000000 then .ok (.lst (l ++ m)) else .no
  | _, _ => .no
def sAdd : D → D → Rs D
  | .str l, .str m => if l.length + m.length ≤ 1000000 then .ok (.str (l ++ m)) else .no
  | _, _ => .no
theorem tAdd_pure : Pure2 tAdd := fun x y e h => by
  unfold tAdd at h
  split at h
  · split at h <;> cases h
  · cases h
theorem lAdd_pure : Pure2 lAdd := fun x y e h => by
  unfold lAdd at h
  split at h
  · split at h <;> cases h
  · cases h
theorem sAdd_pure : Pure2 sAdd := fun x y e h => by
  unfold sAdd at h
  split at h
  · split at h <;> cases h
  · cases h
abbrev rCatS : R2 := fun x y H Q => ∃ i j, x = .str i ∧ y = .str j ∧ i.length + j.length ≤ sizeLine ∧ Q (.str (i ++ j)) H
theorem f2_sAdd : F2 K ma mb md sAdd rCatS := fun O H A B x y dx dy Q _ h1 h2 k e => by
  obtain ⟨d, e⟩ := e
  have e0 := e
  unfold sAdd at e
  split at e
  · split at e
    · rename_i l m hl
      cases e
      exact ⟨l, m, vok_str'.mp h1, vok_str'.mp h2, Nat.le_of_lt (sz_line hl), k _ H O0 _ e0 .none vok_str⟩
    · cases e
  · cases e
theorem fd_tAdd (hm : okMd md = true) : FD2 K md md md tAdd (rCatA K) := fun O H A B x y dx dy Q dom sa sb dj h1 h2 k e => by
  obtain ⟨d, e⟩ := e
  have e0 := e
  unfold tAdd at e
  have nw : ∀ {a : Addr} {o : HO}, H a = none → Nw H (upd H a o) O0 := fun ha => .upd0 ha
  split at e
  · split at e
    · rename_i l m hl
      cases e
      cases md with
      | fz =>
        obtain ⟨p, vs, rfl, s, q⟩ := h1
        obtain ⟨p', vs', rfl, s', q'⟩ := h2
        refine ⟨p, p', vs, vs', rfl, rfl, s, s', Nat.le_of_lt (sz_line (by rw [dens_len q, dens_len q']; exact hl)), fun z => ?_, fun _ z => ?_, fun _ _ a ha => k _ _ O0 _ e0 (nw ha) ⟨a, _, rfl, .of upd_same, dens_app (dens_mono ((nw ha).gr) _ _ q) (dens_mono ((nw ha).gr) _ _ q')⟩⟩
        · have el : l = [] := by
            have := dens_len q
            rw [z] at this
            exact List.eq_nil_of_length_eq_zero this.symm
          exact k _ H O0 _ e0 .none ⟨p', vs', rfl, s', by rw [el]; exact dens_mono or0 _ _ q'⟩
        · have el : m = [] := by
            have := dens_len q'
            rw [z] at this
            exact List.eq_nil_of_length_eq_zero this.symm
          exact k _ H O0 _ e0 .none ⟨p, vs, rfl, s, by rw [el, List.append_nil]; exact dens_mono or0 _ _ q⟩
      | bw =>
        obtain ⟨p, vs, rfl, s, q⟩ := h1
        obtain ⟨p', vs', rfl, s', q'⟩ := h2
        refine ⟨p, p', vs, vs', rfl, rfl, s, s', Nat.le_of_lt (sz_line (by rw [dens_len q, dens_len q']; exact hl)), fun z => ?_, fun _ z => ?_, fun _ _ a ha => k _ _ O0 _ e0 (nw ha) ⟨a, _, rfl, .of upd_same, dens_app (dens_mono ⟨(nw ha).ex, fun _ z => z.elim⟩ _ _ q) (dens_mono ⟨(nw ha).ex, fun _ z => z.elim⟩ _ _ q')⟩⟩
        · have el : l = [] := by
            have := dens_len q
            rw [z] at this
            exact List.eq_nil_of_length_eq_zero this.symm
          exact k _ H O0 _ e0 .none ⟨p', vs', rfl, s', by rw [el]; exact q'⟩
        · have el : m = [] := by
            have := dens_len q'
            rw [z] at this
            exact List.eq_nil_of_length_eq_zero this.symm
          exact k _ H O0 _ e0 .none ⟨p, vs, rfl, s, by rw [el, List.append_nil]; exact q⟩
      | deep =>
        obtain ⟨p, vs, rfl, s, q⟩ := h1
        obtain ⟨p', vs', rfl, s', q'⟩ := h2
        refine ⟨p, p', vs, vs', rfl, rfl, s, s', Nat.le_of_lt (sz_line (by rw [dps_len q, dps_len q']; exact hl)), fun z => ?_, fun _ z => ?_, fun _ _ a ha => k _ _ O0 _ e0 (nw ha) ⟨a, _, rfl, .of upd_same, dps_over _ _ _ _ (fun _ z => .inl z) (dps_app (dps_mono (nw ha).ex _ _ _ q) (dps_mono (nw ha).ex _ _ _ q') dj)⟩⟩
        · have el : l = [] := by
            have := dps_len q
            rw [z] at this
            exact List.eq_nil_of_length_eq_zero this.symm
          exact k _ H O0 _ e0 .none ⟨p', vs', rfl, s', by rw [el]; exact dps_over _ _ _ _ (fun _ z => .inl (.inr z)) q'⟩
        · have el : m = [] := by
            have := dps_len q'
            rw [z] at this
            exact List.eq_nil_of_length_eq_zero this.symm
          exact k _ H O0 _ e0 .none ⟨p, vs, rfl, s, by rw [el, List.append_nil]; exact dps_over _ _ _ _ (fun _ z => .inl (.inl z)) q⟩
      | _ => cases hm
    · cases e
  · cases e
def mdC : Md → Md
  | .fz => .own | m => m
theorem fd_lAdd (hm : okMd md = true) : FD2 K md md (mdC md) lAdd rCat := fun O H A B x y dx dy Q dom sa sb dj h1 h2 k e => by
  obtain ⟨d, e⟩ := e
  have e0 := e
  unfold lAdd at e
  split at e
  · split at e
    · rename_i l m hl
      cases e
      cases md with
      | fz =>
        obtain ⟨p, vs, rfl, s, q⟩ := h1
        obtain ⟨p', vs', rfl, s', q'⟩ := h2
        exact ⟨p, p', vs, vs', rfl, rfl, s.1, s'.1, Nat.le_of_lt (sz_line (by rw [dens_len q, dens_len q']; exact hl)), fun a ha => k _ _ _ _ e0 (Nw.upd ha) ⟨a, _, rfl, upd_same, .inr rfl, dens_app (dens_mono (Nw.upd ha).gr _ _ q) (dens_mono (Nw.upd ha).gr _ _ q')⟩⟩
      | bw =>
        obtain ⟨p, vs, rfl, s, q⟩ := h1
        obtain ⟨p', vs', rfl, s', q'⟩ := h2
        exact ⟨p, p', vs, vs', rfl, rfl, s.1, s'.1, Nat.le_of_lt (sz_line (by rw [dens_len q, dens_len q']; exact hl)), fun a ha => k _ _ _ _ e0 (Nw.upd ha) ⟨a, _, rfl, ⟨upd_same, fun z => z⟩, dens_app (dens_mono ⟨(Nw.upd ha).ex, fun _ z => z.elim⟩ _ _ q) (dens_mono ⟨(Nw.upd ha).ex, fun _ z => z.elim⟩ _ _ q')⟩⟩
      | deep =>
        obtain ⟨p, vs, A1, rfl, s, hp, np, l1, q⟩ := h1
        obtain ⟨p', vs', A2, rfl, s', hp', np', l2, q'⟩ := h2
        refine ⟨p, p', vs, vs', rfl, rfl, s, s', Nat.le_of_lt (sz_line (by rw [dps_len q, dps_len q']; exact hl)), fun a ha => k _ _ _ _ e0 (Nw.upd ha) ⟨a, _, Own.or A1 A2, rfl, upd_same, .inr rfl, fun z => ?_, fun a z => .inl (z.elim (fun z => .inl (l1 a z)) fun z => .inr (l2 a z)), dps_app (dps_mono (Nw.upd ha).ex _ _ _ q) (dps_mono (Nw.upd ha).ex _ _ _ q') fun b z z' => dj b (l1 b z) (l2 b z')⟩⟩
        exact z.elim (fun z => dom a (sa a (l1 a z)) ha) fun z => dom a (sb a (l2 a z)) ha
      | _ => cases hm
    · cases e
  · cases e
/-! texts -/
def strD : List D → Rs D
  | [.int i] => if i.natAbs.log2 < 1920 then .ok (.str (toString i)) else .no
  | _ => .no
theorem str_pure : PureL strD := fun x e h => by
  unfold strD at h
  split at h
  · split at h <;> cases h
  · cases h
theorem fc_str : FC K ma md strD (fun xs H Q => ∃ i, xs = [.int i] ∧ i.natAbs.log2 < 1920 ∧ Q (.str (toString i)) H) := fun O H A xs ds Q _ h k e => by
  obtain ⟨d, e⟩ := e
  have e0 := e
  unfold strD at e
  split at e
  · split at e
    · rename_i i hi
      obtain ⟨x, rfl, hx⟩ := voks1 h
      cases e
      exact ⟨_, by rw [vok_int'.mp hx], hi, fc_ret k e0 fun _ _ => vok_str⟩
    · cases e
  · cases e
def strsOf : List D → Option (List Str)
  | [] => some []
  | .str i :: r => (strsOf r).map (i :: ·)
  | _ => none
theorem strsOf_map : ∀ ns : List Str, strsOf (ns.map D.str) = some ns
  | [] => rfl
  | n :: r => by
    show (strsOf (r.map D.str)).map (n :: ·) = _
    rw [strsOf_map r]
    rfl
theorem strsOf_get : ∀ {l : List D} {ns : List Str}, strsOf l = some ns → l = ns.map D.str
  | [], ns, e => by cases e; rfl
  | d :: r, ns, e => by
    cases d with
    | str i =>
      replace e : (strsOf r).map (i :: ·) = some ns := e
      cases h : strsOf r with
      | none => rw [h] at e; cases e
      | some m =>
        rw [h] at e
        cases e
        rw [strsOf_get h]
        rfl
    | _ => cases e
theorem dens_strs' : ∀ {ns : List Str} {vs : List V}, Dens K O H (ns.map D.str) vs → vs = ns.map V.str
  | [], vs, h => h
  | n :: r, vs, h => by
    obtain ⟨v, s, e, h1, h2⟩ := h
    rw [e, dens_strs' h2, (h1 : v = .str n)]
    rfl
theorem dens_strs : ∀ ns : List Str, Dens K O H (ns.map D.str) (ns.map V.str)
  | [] => rfl
  | n :: r => ⟨.str n, r.map V.str, rfl, rfl, dens_strs r⟩
theorem imms_strs : ∀ ns : List Str, imms (ns.map D.str) = true
  | [] => rfl
  | n :: r => by
    show (true && imms (r.map D.str)) = true
    rw [imms_strs r]
    rfl
/-- a text's method -/
def om (f : Str → D → Rs D) (a b : ME) : ME := fun τ => (a τ).bind fun x => match x with
  | .str s => (b τ).bind fun y => f s y
  | _ => .no
def FM (K : PySem.W.Frag) (mb md : Md) (f : Str → D → Rs D) (r : V → List V → Hp → VK → Prop) : Prop := ∀ O H B (s : Str) y dy (Q : VK), (∀ a, O a → H a ≠ none) → VOK K mb O H B dy y →
  (∀ d H' B v, f s dy = .ok d → Nw H H' B → VOK K md (Own.or O B) H' B d v → Q v H') → (∃ d, f s dy = .ok d) → r (.str s) [y] H Q
theorem se_om {P : Px} {ms ms1 ms2 : Ms} {ma mb md : Md} {a b : ME} {ta tb' : TE} {f : Str → D → Rs D} {r : V → List V → Hp → VK → Prop} (ha : SE P ms ms1 ma a ta) (hb : SE P ms1 ms2 mb b tb') (hr : FM P.K mb md f r) (hp : ∀ s y e, f s y ≠ .ex e) : SE P ms ms2 md (om f a b) (tM1 r ta tb') := fun τ O H σ C Q F n k w => by
  refine ha τ O H σ C _ F (Rs.bind_ne n) (fun d O1 H1 A v e g f1 x q => ?_) fun x e => w x (Rs.bind_ex e)
  have eb := Rs.bind_ok (f := fun x => match x with | .str s => (b τ).bind fun y => f s y | _ => .no) e
  have eb : om f a b τ = (match d with | .str s => (b τ).bind fun y => f s y | _ => .no) := eb
  cases d with
  | str s =>
    replace eb : om f a b τ = (b τ).bind fun y => f s y := eb
    have ev : v = .str s := vok_str'.mp q
    subst ev
    rw [eb] at n k w
    refine ⟨⟨s, rfl⟩, ?_⟩
    refine hb τ O1 H1 σ (Own.or C A) _ f1 (Rs.bind_ne n) (fun d' O2 H2 A' v' e' g' f2 x' q' => ?_) fun x e => (w x (Rs.bind_ex e)).up g fun a z => .inl z
    have eb' : ((b τ).bind fun y => f s y) = f s d' := Rs.bind_ok e'
    refine hr O2 H2 A' s v' d' Q f2.dom q' (fun d2 H3 B v2 e2 n2 q2 => ?_) (ok_of (eb' ▸ n) (hp s d'))
    exact k d2 _ H3 B v2 (eb'.trans e2) ((g.trans g').trans n2.gr) ((f2.ctx fun a z => .inl (.inl z)).grow n2) (fun a z q => f2.dom a (f2.sub a (.inl (.inl q))) (n2.new a z).1) q2
  | _ => exact (n eb).elim
def joinF : Str → D → Rs D := fun s d => match (itemsD d).bind strsOf with
  | some ys => if (ys.map (·.length)).sum + ys.length * s.length ≤ 16777216 then .ok (.str (Txt.join s ys)) else .no
  | none => .no
theorem join_pure : ∀ s y e, joinF s y ≠ .ex e := fun s y e h => by
  unfold joinF at h
  split at h
  · split at h <;> cases h
  · cases h
theorem fm_join : FM K .bw md joinF (fun x xs H Q => ∃ a p, ∃ ys : List Str, x = .str a ∧ xs = [.ref p] ∧ (SqL K H p (ys.map V.str) ∨ SqT K H p (ys.map V.str)) ∧
    (ys.map (·.length)).sum + ys.length * a.length ≤ 16777216 ∧ Q (.str (Txt.join a ys)) H) := fun O H B s y dy Q _ h k e => by
  obtain ⟨d, e⟩ := e
  have e0 := e
  unfold joinF at e
  split at e
  · rename_i ys el
    split at e
    · rename_i hl
      cases e
      cases ei : itemsD dy with
      | none => rw [ei] at el; cases el
      | some l =>
        rw [ei] at el
        obtain ⟨p, vs, rfl, s', q⟩ := items_get (show Den K O0 H dy y from h) ei
        rw [strsOf_get el] at q
        rw [dens_strs' q] at s'
        exact ⟨s, p, ys, rfl, rfl, s', hl, k _ H O0 _ e0 .none vok_str⟩
    · cases e
  · cases e
def splitF : Str → D → Rs D
  | s, .str b => if (b.length == 0) = false ∧ s.length ≤ 1000000 then .ok (.lst ((Txt.split s b).map .str)) else .no
  | _, _ => .no
theorem split_pure : ∀ s y e, splitF s y ≠ .ex e := fun s y e h => by
  unfold splitF at h
  split at h
  · split at h <;> cases h
  · cases h
theorem fm_split (hm : md = .own ∨ md = .deep) : FM K mb md splitF (fun x xs H Q => ∃ a b, x = .str a ∧ xs = [.str b] ∧ (b.length == 0) = false ∧ a.length + 2 ≤ sizeLine ∧ rNewStrs (Txt.split a b) H Q) := fun O H B s y dy Q _ h k e => by
  obtain ⟨d, e⟩ := e
  have e0 := e
  unfold splitF at e
  split at e
  · split at e
    · rename_i b hl
      cases e
      refine ⟨s, b, rfl, by rw [vok_str'.mp h], hl.1, ?_, fun a ha => k _ _ _ _ e0 (Nw.upd ha) (new_imm (O' := O0) hm (imms_strs _) (dens_strs _) ha)⟩
      have h1 := hl.2
      have h2 : 1000002 ≤ sizeLine := by decide
      omega
    · cases e
  · cases e
def partF : Str → D → Rs D
  | s, .str b => if (b.length == 0) = false ∧ s.length ≤ 1000000 then .ok (.tup [.str (Txt.partition s b).1, .str (Txt.partition s b).2.1, .str (Txt.partition s b).2.2]) else .no
  | _, _ => .no
theorem part_pure : ∀ s y e, partF s y ≠ .ex e := fun s y e h => by
  unfold partF at h
  split at h
  · split at h <;> cases h
  · cases h
theorem fm_part : FM K mb .fz partF (fun x xs H Q => ∃ a b, x = .str a ∧ xs = [.str b] ∧ (b.length == 0) = false ∧ a.length ≤ sizeLine ∧
    ∀ p, H p = none → Q (.ref p) (upd H p (.tup [.str (Txt.partition a b).1, .str (Txt.partition a b).2.1, .str (Txt.partition a b).2.2]))) := fun O H B s y dy Q _ h k e => by
  obtain ⟨d, e⟩ := e
  have e0 := e
  unfold partF at e
  split at e
  · split at e
    · rename_i b hl
      cases e
      exact ⟨s, b, rfl, by rw [vok_str'.mp h], hl.1, Nat.le_of_lt (sz_line hl.2), fun a ha => k _ _ _ _ e0 (.upd0 ha) ⟨a, _, rfl, .of upd_same, dens_strs [_, _, _]⟩⟩
    · cases e
  · cases e
/-! slices -/
def cutD (xs : List D) (lo hi : Option Int) : List D := (xs.drop (HT.sIx xs.length 0 lo)).take (HT.sIx xs.length xs.length hi - HT.sIx xs.length 0 lo)
theorem dens_cut {lo hi : Option Int} (q : Dens K O H ds vs) : Dens K O H (cutD ds lo hi) (cutV vs lo hi) := by
  unfold cutD cutV
  rw [dens_len q]
  exact dens_take _ (dens_drop _ q)
def slG (x : D) (lo hi : Option Int) : Rs D := match x with
  | .lst l => .ok (.lst (cutD l lo hi))
  | .scr l => .ok (.lst (cutD l lo hi))
  | .tup l => .ok (.tup (cutD l lo hi))
  | .str z => if z.length ≤ 1000000 then .ok (.str (cutS z lo hi)) else .no
  | _ => .no
def slI (x : D) (lo hi : Option Int) : Rs D := match x with
  | .lst l => if imms (cutD l lo hi) = true then .ok (.lst (cutD l lo hi)) else .no
  | .scr l => if imms (cutD l lo hi) = true then .ok (.lst (cutD l lo hi)) else .no
  | _ => .no
def rSl3 (K : PySem.W.Frag) : V → Option Int → Option Int → Hp → VK → Prop := fun x lo hi H Q => rSlL K x lo hi H Q ∨ rSlA K x lo hi H Q ∨ rSlS x lo hi H Q
theorem sl_3 {X : Cx} : SlR X (rSl3 X.K) := by
  intro pins s σ H x v vl vu lo hi sl Q I rx hs pl pu h
  rcases h with h | h | h
  · exact sl_list pins s σ H x v vl vu lo hi sl Q I rx hs pl pu h
  · exact sl_tupA pins s σ H x v vl vu lo hi sl Q I rx hs pl pu h
  · exact sl_str pins s σ H x v vl vu lo hi sl Q I rx hs pl pu h
def F3 (K : PySem.W.Frag) (ma md : Md) (f : D → Option Int → Option Int → Rs D) (r : V → Option Int → Option Int → Hp → VK → Prop) : Prop := ∀ O H A x dx lo hi (Q : VK), (∀ a, O a → H a ≠ none) → VOK K ma O H A dx x →
  (∀ d H' B v, f dx lo hi = .ok d → Nw H H' B → VOK K md (Own.or O B) H' B d v → Q v H') → (∃ d, f dx lo hi = .ok d) → r x lo hi H Q
theorem cut_all {xs : List D} {lo hi : Option Int} (h : HT.sIx xs.length 0 lo = 0 ∧ HT.sIx xs.length xs.length hi = xs.length) : cutD xs lo hi = xs := by
  unfold cutD
  rw [h.1, h.2, List.drop_zero, Nat.sub_zero, List.take_length]
theorem f3_G (hm : md = .fz ∨ md = .bw) : F3 K md md slG (rSl3 K) := fun O H A x dx lo hi Q dom h k e => by
  have key : ∃ Oq : Own, (∀ d v, VOK K md O H A d v → Den K Oq H d v) ∧ (∀ a, Oq a → H a ≠ none) ∧ ∀ H' d v, Nw H H' O0 → Den K Oq H' d v → VOK K md (Own.or O O0) H' O0 d v := by
    rcases hm with rfl | rfl
    · exact ⟨O, fun _ _ z => z, dom, fun H' d v n z => den_less z fun a q => q.elim id fun q => q.elim⟩
    · exact ⟨O0, fun _ _ z => z, fun _ z => z.elim, fun _ _ _ _ z => z⟩
  obtain ⟨Oq, g1, g2, g3⟩ := key
  have h := g1 _ _ h
  obtain ⟨d, e⟩ := e
  have e0 := e
  cases dx with
  | lst l =>
    cases e
    obtain ⟨p, vs, rfl, s, q⟩ := h
    exact .inl ⟨p, vs, rfl, s.sq, fun a ha => k _ _ O0 _ e0 (.upd0 ha) (g3 _ _ _ (.upd0 ha) ⟨a, _, rfl, ⟨upd_same, fun z => g2 a z ha⟩, dens_mono (Nw.gr0 (.upd0 ha)) _ _ (dens_cut q)⟩)⟩
  | scr l =>
    cases e
    obtain ⟨p, vs, rfl, s, q⟩ := h
    exact .inl ⟨p, vs, rfl, s.sq, fun a ha => k _ _ O0 _ e0 (.upd0 ha) (g3 _ _ _ (.upd0 ha) ⟨a, _, rfl, ⟨upd_same, fun z => g2 a z ha⟩, dens_mono (Nw.gr0 (.upd0 ha)) _ _ (dens_cut q)⟩)⟩
  | tup l =>
    cases e
    obtain ⟨p, vs, rfl, s, q⟩ := h
    refine .inr (.inl ⟨p, vs, rfl, s, fun hw => ?_, fun _ a ha => k _ _ O0 _ e0 (.upd0 ha) (g3 _ _ _ (.upd0 ha) ⟨a, _, rfl, .of upd_same, dens_mono (Nw.gr0 (.upd0 ha)) _ _ (dens_cut q)⟩)⟩)
    rw [dens_len q] at hw
    exact k _ H O0 _ e0 .none (g3 _ _ _ .none ⟨p, vs, rfl, s, by rw [cut_all hw]; exact q⟩)
  | str z =>
    replace e : (if z.length ≤ 1000000 then Rs.ok (D.str (cutS z lo hi)) else Rs.no) = .ok d := e
    split at e
    · rename_i hz
      cases e
      have ev : x = .str z := h
      exact .inr (.inr ⟨z, ev, Nat.le_of_lt (sz_line hz), k _ H O0 _ e0 .none vok_str⟩)
    · cases e
  | _ => cases e
theorem f3_I (hm : md = .own ∨ md = .deep) : F3 K .bw md slI (rSl3 K) := fun O H A x dx lo hi Q dom h k e => by
  obtain ⟨d, e⟩ := e
  have e0 := e
  cases dx with
  | lst l =>
    replace e : (if imms (cutD l lo hi) = true then Rs.ok (D.lst (cutD l lo hi)) else Rs.no) = .ok d := e
    split at e
    · rename_i i
      cases e
      obtain ⟨p, vs, rfl, s, q⟩ := h
      exact .inl ⟨p, vs, rfl, s.sq, fun a ha => k _ _ _ _ e0 (Nw.upd ha) (new_imm (O' := O0) hm i (dens_cut q) ha)⟩
    · cases e
  | scr l =>
    replace e : (if imms (cutD l lo hi) = true then Rs.ok (D.lst (cutD l lo hi)) else Rs.no) = .ok d := e
    split at e
    · rename_i i
      cases e
      obtain ⟨p, vs, rfl, s, q⟩ := h
      exact .inl ⟨p, vs, rfl, s.sq, fun a ha => k _ _ _ _ e0 (Nw.upd ha) (new_imm (O' := O0) hm i (dens_cut q) ha)⟩
    · cases e
  | _ => cases e
def Pure3 (f : D → Option Int → Option Int → Rs D) : Prop := ∀ x y z e, f x y z ≠ .ex e
theorem slG_pure : Pure3 slG := fun x y z e h => by
  unfold slG at h
  split at h
  · cases h
  · cases h
  · cases h
  · split at h <;> cases h
  · cases h
theorem slI_pure : Pure3 slI := fun x y z e h => by
  unfold slI at h
  split at h
  · split at h <;> cases h
  · split at h <;> cases h
  · cases h
abbrev MO := Ts → Rs (Option Int)
def pno : MO := fun _ => .ok none
def posD (d : D) : Rs (Option Int) := match d with
  | .int i => .ok (some i)
  | _ => .no
def pso (e : ME) : MO := fun τ => (e τ).bind posD
def slm (f : D → Option Int → Option Int → Rs D) (a : ME) (lo hi : MO) : ME := fun τ => (a τ).bind fun x => (lo τ).bind fun l => (hi τ).bind fun h => f x l h
def SO (P : Px) (ms ms' : Ms) (m : MO) (t : TO) : Prop := ∀ τ O H σ C (Q : Option Int → Hp → Prop), Fr P.K ms τ O H σ C → m τ ≠ .no →
  (∀ o O' H', m τ = .ok o → Gr O H O' H' → Fr P.K ms' τ O' H' σ C → Q o H') → (∀ x, m τ = .ex x → WOK P τ O H C σ x) → t σ H Q
theorem so_no {P : Px} {ms : Ms} : SO P ms ms pno tNoPart := fun τ O H σ C Q F n k w => k none O H rfl .refl F
theorem so_so {P : Px} {ms ms1 : Ms} {a : ME} {ta : TE} (h : SE P ms ms1 .bw a ta) : SO P ms ms1 (pso a) (tPart ta) := fun τ O H σ C Q F n k w => by
  refine h τ O H σ C _ F (Rs.bind_ne n) (fun d O' H' A v e g f x q => ?_) fun x e => w x (Rs.bind_ex e)
  have eb : pso a τ = posD d := Rs.bind_ok e
  cases d with
  | int i => exact ⟨i, vok_int'.mp q, k (some i) O' H' eb g (f.ctx fun a z => .inl z)⟩
  | _ => exact (n eb).elim
theorem se_slm {P : Px} {ms ms1 ms2 ms3 : Ms} {a : ME} {ta : TE} {lo hi : MO} {tl th : TO} {f : D → Option Int → Option Int → Rs D} {r : V → Option Int → Option Int → Hp → VK → Prop} (ha : SE P ms ms1 ma a ta) (hl : SO P ms1 ms2 lo tl) (hh : SO P ms2 ms3 hi th) (hr : F3 P.K ma md f r) (hp : Pure3 f) : SE P ms ms3 md (slm f a lo hi) (tSl r ta tl th) := fun τ O H σ C Q F n k w => by
  refine ha τ O H σ C _ F (Rs.bind_ne n) (fun d O1 H1 A v e g f1 x q => ?_) fun x e => w x (Rs.bind_ex e)
  have eb : slm f a lo hi τ = (lo τ).bind fun l => (hi τ).bind fun h => f d l h := Rs.bind_ok e
  rw [eb] at n k w
  refine hl τ O1 H1 σ (Own.or C A) _ f1 (Rs.bind_ne n) (fun l O2 H2 e2 g2 f2 => ?_) fun x e => (w x (Rs.bind_ex e)).up g fun a z => .inl z
  have eb2 : ((lo τ).bind fun l => (hi τ).bind fun h => f d l h) = (hi τ).bind fun h => f d l h := Rs.bind_ok e2
  rw [eb2] at n k w
  refine hh τ O2 H2 σ (Own.or C A) _ f2 (Rs.bind_ne n) (fun h O3 H3 e3 g3 f3 => ?_) fun x e => (w x (Rs.bind_ex e)).up (g.trans g2) fun a z => .inl z
  have eb3 : ((hi τ).bind fun h => f d l h) = f d l h := Rs.bind_ok e3
  refine hr O3 H3 A v d l h Q f3.dom ((q.mono g2).mono g3) (fun d2 H4 B v2 e4 n2 q2 => ?_) (ok_of (eb3 ▸ n) (hp d l h))
  exact k d2 _ H4 B v2 (eb3.trans e4) (((g.trans g2).trans g3).trans n2.gr) ((f3.ctx fun a z => .inl z).grow n2) (fun a z q => f3.dom a (f3.sub a (.inl q)) (n2.new a z).1) q2
end
section
variable {X : Cx} {w : Wx} {ms ms1 ms2 ms3 : Ms} {md ma mb mr : Md} {e ea eb : Expr} {es : List Expr} {a b : ME} {l : MA} {pos p2 p3 : Pos} {n : Nat} {lo hi : MO} {elo ehi : Option Expr}
def CO (X : Cx) (w : Wx) (ms ms' : Ms) (e : Option Expr) (m : MO) : Prop := ∃ t, PO X e t ∧ SO (px X w) ms ms' m t
theorem co_no : CO X w ms ms none pno := ⟨_, po_none, so_no⟩
theorem co_so (h : CE X w ms ms1 .bw e a) : CO X w ms ms1 (some e) (pso a) := ⟨_, po_some h.choose_spec.1, so_so h.choose_spec.2⟩
theorem ce_slG (hm : md = .fz ∨ md = .bw) (h : CE X w ms ms1 md e a) (hl : CO X w ms1 ms2 elo lo) (hh : CO X w ms2 ms3 ehi hi) : CE X w ms ms3 md (.Subscript e (.Slice elo ehi none p2) pos) (slm slG a lo hi) :=
  ⟨_, pe_slice sl_3 h.choose_spec.1 hl.choose_spec.1 hh.choose_spec.1, se_slm h.choose_spec.2 hl.choose_spec.2 hh.choose_spec.2 (f3_G hm) slG_pure⟩
theorem ce_slI (hm : md = .own ∨ md = .deep) (h : CE X w ms ms1 .bw e a) (hl : CO X w ms1 ms2 elo lo) (hh : CO X w ms2 ms3 ehi hi) : CE X w ms ms3 md (.Subscript e (.Slice elo ehi none p2) pos) (slm slI a lo hi) :=
  ⟨_, pe_slice sl_3 h.choose_spec.1 hl.choose_spec.1 hh.choose_spec.1, se_slm h.choose_spec.2 hl.choose_spec.2 hh.choose_spec.2 (f3_I hm) slI_pure⟩
theorem ce_list (hm : X.mg "list" = none) (h : CA X w ms ms1 .fz 1 [e] l) (hg : Gl X "list" := by rfl) (he : starEach [e] X.env = (false, eval e X.env) :: starEach [] X.env := by rfl) (hpl : (backTo pos (starEach [] X.env)).any (·.1) = false := by rfl) : CE X w ms ms1 .own (.Call (.Name "list" p2) [e] [] pos) (cll listF l) :=
  ce_ct call_list_of fc_list listF_pure hm (by decide +kernel) h hg (by decide) (by decide) he hpl
theorem ce_listI (hd : md = .own ∨ md = .deep) (hm : X.mg "list" = none) (h : CA X w ms ms1 .bw 1 [e] l) (hg : Gl X "list" := by rfl) (he : starEach [e] X.env = (false, eval e X.env) :: starEach [] X.env := by rfl) (hpl : (backTo pos (starEach [] X.env)).any (·.1) = false := by rfl) : CE X w ms ms1 md (.Call (.Name "list" p2) [e] [] pos) (cll listI l) :=
  ce_ct call_list_of (fc_listI (ma := .bw) hd) listI_pure hm (by decide +kernel) h hg (by decide) (by decide) he hpl
theorem ce_tuple (hd : okMd md = true) (hm : X.mg "tuple" = none) (h : CA X w ms ms1 md 1 [e] l) (hg : Gl X "tuple" := by rfl) (he : starEach [e] X.env = (false, eval e X.env) :: starEach [] X.env := by rfl) (hpl : (backTo pos (starEach [] X.env)).any (·.1) = false := by rfl) : CE X w ms ms1 md (.Call (.Name "tuple" p2) [e] [] pos) (cll tupF l) :=
  ⟨_, pe_callTy call_tuple_of hg hm (by decide +kernel) h.2.2.choose_spec.1 (by decide) (by decide) he hpl, se_cbD h.2.2.choose_spec.2 (fd_tup hd) tup_pure⟩
theorem ce_str1 (hm : X.mg "str" = none) (h : CA X w ms ms1 .bw 1 [e] l) (hg : Gl X "str" := by rfl) (he : starEach [e] X.env = (false, eval e X.env) :: starEach [] X.env := by rfl) (hpl : (backTo pos (starEach [] X.env)).any (·.1) = false := by rfl) : CE X w ms ms1 md (.Call (.Name "str" p2) [e] [] pos) (cll strD l) :=
  ce_ct call_str_int (fc_str (ma := .bw)) str_pure hm (by decide +kernel) h hg (by decide) (by decide) he hpl
theorem ce_sum (hc : X.calm = true) (hm : X.mg "sum" = none) (h : CA X w ms ms1 .bw 1 [e] l) (hg : Gl X "sum" := by rfl) (he : starEach [e] X.env = (false, eval e X.env) :: starEach [] X.env := by rfl) (hpl : (backTo pos (starEach [] X.env)).any (·.1) = false := by rfl) : CE X w ms ms1 md (.Call (.Name "sum" p2) [e] [] pos) (cll sumD l) :=
  ce_cb (cr_sum hc) (fc_sum (ma := .bw)) sum_pure hm (by decide +kernel) h hg (by decide) (by decide) he hpl
theorem ce_minL (hc : X.calm = true) (hm : X.mg "min" = none) (h : CA X w ms ms1 .bw 1 [e] l) (hg : Gl X "min" := by rfl) (he : starEach [e] X.env = (false, eval e X.env) :: starEach [] X.env := by rfl) (hpl : (backTo pos (starEach [] X.env)).any (·.1) = false := by rfl) : CE X w ms ms1 md (.Call (.Name "min" p2) [e] [] pos) (cll minL l) :=
  ce_cb (cr_min hc) (fc_minL (ma := .bw)) best_pure hm (by decide +kernel) h hg (by decide) (by decide) he hpl
theorem ce_maxL (hc : X.calm = true) (hm : X.mg "max" = none) (h : CA X w ms ms1 .bw 1 [e] l) (hg : Gl X "max" := by rfl) (he : starEach [e] X.env = (false, eval e X.env) :: starEach [] X.env := by rfl) (hpl : (backTo pos (starEach [] X.env)).any (·.1) = false := by rfl) : CE X w ms ms1 md (.Call (.Name "max" p2) [e] [] pos) (cll maxL l) :=
  ce_cb (cr_max hc) (fc_maxL (ma := .bw)) best_pure hm (by decide +kernel) h hg (by decide) (by decide) he hpl
theorem ce_sorted (hd : md = .own ∨ md = .deep) (hm : X.mg "sorted" = none) (h : CA X w ms ms1 .bw 1 [e] l) (hg : Gl X "sorted" := by rfl) (he : starEach [e] X.env = (false, eval e X.env) :: starEach [] X.env := by rfl) (hpl : (backTo pos (starEach [] X.env)).any (·.1) = false := by rfl) : CE X w ms ms1 md (.Call (.Name "sorted" p2) [e] [] pos) (cll sortedD l) :=
  ce_cb cr_sortedI (fc_sorted (ma := .bw) hd) sorted_pure hm (by decide +kernel) h hg (by decide) (by decide) he hpl
theorem ce_sAdd (ha : CE X w ms ms1 ma ea a) (hb : CE X w ms1 ms2 mb eb b) : CE X w ms ms2 md (.BinOp ea .Add eb pos) (o2 sAdd a b) := ce_op op_add_str f2_sAdd sAdd_pure ha hb
theorem ce_tAdd (hd : okMd md = true) (ha : CE X w ms ms1 md ea a) (hb : CE X w ms1 ms2 md eb b) : CE X w ms ms2 md (.BinOp ea .Add eb pos) (o2 tAdd a b) := ⟨_, pe_op op_catA ha.choose_spec.1 hb.choose_spec.1, se_o2D ha.choose_spec.2 hb.choose_spec.2 (fd_tAdd hd) tAdd_pure⟩
theorem ce_lAdd (hd : okMd md = true) (ha : CE X w ms ms1 md ea a) (hb : CE X w ms1 ms2 md eb b) : CE X w ms ms2 (mdC md) (.BinOp ea .Add eb pos) (o2 lAdd a b) := ⟨_, pe_op op_cat ha.choose_spec.1 hb.choose_spec.1, se_o2D ha.choose_spec.2 hb.choose_spec.2 (fd_lAdd hd) lAdd_pure⟩
theorem ce_join {ap : Pos} (ha : CE X w ms ms1 ma ea a) (hb : CE X w ms1 ms2 .bw eb b) (hs : starEach [eb] X.env = [(false, eval eb X.env)] := by rfl) (hbase : attributeBase ea "join" X.env (eval ea X.env) = eval ea X.env := by rfl) (hline : (ap.endLine == pos.line) = true := by rfl) : CE X w ms ms2 md (.Call (.Attribute ea "join" ap) [eb] [] pos) (om joinF a b) :=
  ⟨_, pe_join ha.choose_spec.1 hb.choose_spec.1 hs hbase hline, se_om ha.choose_spec.2 hb.choose_spec.2 fm_join join_pure⟩
theorem ce_split (hd : md = .own ∨ md = .deep) {ap : Pos} (ha : CE X w ms ms1 ma ea a) (hb : CE X w ms1 ms2 mb eb b) (hs : starEach [eb] X.env = [(false, eval eb X.env)] := by rfl) (hbase : attributeBase ea "split" X.env (eval ea X.env) = eval ea X.env := by rfl) (hline : (ap.endLine == pos.line) = true := by rfl) : CE X w ms ms2 md (.Call (.Attribute ea "split" ap) [eb] [] pos) (om splitF a b) :=
  ⟨_, pe_split ha.choose_spec.1 hb.choose_spec.1 hs hbase hline, se_om ha.choose_spec.2 hb.choose_spec.2 (fm_split hd) split_pure⟩
theorem ce_part {ap : Pos} (ha : CE X w ms ms1 ma ea a) (hb : CE X w ms1 ms2 mb eb b) (hs : starEach [eb] X.env = [(false, eval eb X.env)] := by rfl) (hbase : attributeBase ea "partition" X.env (eval ea X.env) = eval ea X.env := by rfl) (hline : (ap.endLine == pos.line) = true := by rfl) : CE X w ms ms2 .fz (.Call (.Attribute ea "partition" ap) [eb] [] pos) (om partF a b) :=
  ⟨_, pe_partition ha.choose_spec.1 hb.choose_spec.1 hs hbase hline, se_om ha.choose_spec.2 hb.choose_spec.2 fm_part part_pure⟩
/-- a list all of whose items are plain: its items may be handed out -/
def ckl (a : ME) : ME := fun τ => (a τ).bind fun d => match d with
  | .lst l => if imms l = true then .ok d else .no
  | _ => .no
end
end Mx

set_option Elab.async false
set_option linter.all false
set_option maxRecDepth 100000
/-! Mk: reckoning with lists, loops and comprehensions. -/
namespace Mx
open PySem PySem.Spec PyProof.Rows L2
section
variable {α β : Type} {τ : Ts} {g : MG} {t : MT} {e : ME} {b : MS} {a : ME} {l : List D} {i : MA}
@[simp] theorem bn_ok {r : α} {f : α → Rs β} : (Rs.ok r).bn f = f r := rfl
@[simp] theorem e_yes : yes τ = .ok true := rfl
@[simp] theorem e_mlc : mlc i g t e τ = (i τ).bind fun ds => if ds.length ≤ 1000000 then (lcl g t e τ ds).bn fun l => .ok (.lst l) else .no := rfl
@[simp] theorem e_lcl0 : lcl g t e τ [] = .ok [] := rfl
theorem e_lcl {d : D} {r : List D} : lcl g t e τ (d :: r) = (g d τ).bn fun τ1 => (t τ1).bn fun b => if b = true then (e τ1).bn fun x => (lcl g t e τ r).bn fun xs => .ok (x :: xs) else lcl g t e τ r := rfl
/-- each item turned -/
theorem lcl_map {F G : α → D} : ∀ {xs : List α}, (∀ x ∈ xs, ∃ τ1, g (F x) τ = .ok τ1 ∧ e τ1 = .ok (G x)) → lcl g yes e τ (xs.map F) = .ok (xs.map G)
  | [], _ => rfl
  | x :: xs, h => by
    obtain ⟨τ1, h1, h2⟩ := h x (List.mem_cons_self)
    have ih := lcl_map (xs := xs) fun y hy => h y (List.mem_cons_of_mem _ hy)
    show lcl g yes e τ (F x :: xs.map F) = _
    rw [e_lcl, h1, bn_ok, e_yes, bn_ok, if_pos rfl, h2, bn_ok, ih]
    rfl
/-- some items, turned -/
theorem lcl_some {F G : α → D} {p : α → Bool} : ∀ {xs : List α}, (∀ x ∈ xs, ∃ τ1, g (F x) τ = .ok τ1 ∧ t τ1 = .ok (p x) ∧ (p x = true → e τ1 = .ok (G x))) → lcl g t e τ (xs.map F) = .ok ((xs.filter p).map G)
  | [], _ => rfl
  | x :: xs, h => by
    obtain ⟨τ1, h1, h2, h3⟩ := h x (List.mem_cons_self)
    have ih := lcl_some (xs := xs) fun y hy => h y (List.mem_cons_of_mem _ hy)
    show lcl g t e τ (F x :: xs.map F) = _
    rw [e_lcl, h1, bn_ok, h2, bn_ok]
    by_cases c : p x = true
    · rw [if_pos c, h3 c, bn_ok, ih, List.filter_cons_of_pos c]
      rfl
    · rw [if_neg c, ih, List.filter_cons_of_neg c]
/-- each item drawn -/
theorem lcl_ex {F : α → D} {G : β → D} {P : α → β → Prop} : ∀ {xs : List α}, (∀ x ∈ xs, ∃ τ1 y, g (F x) τ = .ok τ1 ∧ e τ1 = .ok (G y) ∧ P x y) → ∃ ys : List β, lcl g yes e τ (xs.map F) = .ok (ys.map G) ∧ ys.length = xs.length ∧ ∀ (k : Nat) (x : α) (y : β), xs[k]? = some x → ys[k]? = some y → P x y
  | [], _ => ⟨[], rfl, rfl, fun k x y h => by simp at h⟩
  | x :: xs, h => by
    obtain ⟨τ1, y, h1, h2, h3⟩ := h x (List.mem_cons_self)
    obtain ⟨ys, ih, hl, hp⟩ := lcl_ex (xs := xs) fun y hy => h y (List.mem_cons_of_mem _ hy)
    refine ⟨y :: ys, ?_, by simp [hl], ?_⟩
    · show lcl g yes e τ (F x :: xs.map F) = _
      rw [e_lcl, h1, bn_ok, e_yes, bn_ok, if_pos rfl, h2, bn_ok, ih]
      rfl
    · intro k u v
      cases k with
      | zero =>
        intro e1 e2
        simp at e1 e2
        subst e1 e2
        exact h3
      | succ k =>
        intro e1 e2
        exact hp k u v (by simpa using e1) (by simpa using e2)
theorem rng_nat {n : Nat} (h : n ≤ 1000000) : rng1 [.int (n : Int)] = .ok ((List.range n).map fun (k : Nat) => D.int (k : Int)) := by
  show (if _ then _ else _) = _
  rw [if_pos ⟨by omega, by omega⟩, Int.toNat_natCast]
  unfold rngD
  congr 1
  exact List.map_congr_left fun k _ => by rw [Int.zero_add]
theorem rng_int {n : Int} (h : n ≤ 1000000) (h0 : 0 ≤ n) : rng1 [.int n] = .ok ((List.range n.toNat).map fun (k : Nat) => D.int (k : Int)) := by
  have e : n = ((n.toNat : Nat) : Int) := by omega
  rw [e, rng_nat (by omega), Int.toNat_natCast]
/-- a for, turn by turn -/
theorem fl_ind {F : α → D} {P : Nat → Ts → Prop} : ∀ {xs : List α} {k : Nat} {τ : Ts}, P k τ → (∀ j x τ, xs[j]? = some x → P (k + j) τ → ∃ τ1 τ2, g (F x) τ = .ok τ1 ∧ b τ1 = .nx τ2 ∧ P (k + j + 1) τ2) → ∃ τ', fl g b (xs.map F) τ = .nx τ' ∧ P (k + xs.length) τ'
  | [], k, τ, h0, _ => ⟨τ, rfl, h0⟩
  | x :: xs, k, τ, h0, hs => by
    obtain ⟨τ1, τ2, h1, h2, h3⟩ := hs 0 x τ rfl h0
    obtain ⟨τ', e1, e2⟩ := fl_ind (xs := xs) (k := k + 1) (P := P) h3 fun j y τ ej p => by
      have q := hs (j + 1) y τ (by simpa using ej) (by rw [show k + (j + 1) = k + 1 + j by omega]; exact p)
      rw [show k + (j + 1) + 1 = k + 1 + j + 1 by omega] at q
      exact q
    refine ⟨τ', ?_, by rw [List.length_cons, show k + (xs.length + 1) = k + 1 + xs.length by omega]; exact e2⟩
    show fl g b (F x :: xs.map F) τ = _
    rw [e_fl, h1, rn_ok, h2, ob_nx, e1]
/-- a for that changes nothing that is asked of -/
theorem fl_all {F : α → D} {P : Ts → Prop} {xs : List α} {τ : Ts} (h0 : P τ) (hs : ∀ x ∈ xs, ∀ τ, P τ → ∃ τ1 τ2, g (F x) τ = .ok τ1 ∧ b τ1 = .nx τ2 ∧ P τ2) : ∃ τ', fl g b (xs.map F) τ = .nx τ' ∧ P τ' := by
  obtain ⟨τ', h1, h2⟩ := fl_ind (F := F) (P := fun _ => P) (xs := xs) (k := 0) h0 fun j x τ ej p => hs x (List.mem_of_getElem? ej) τ p
  exact ⟨τ', h1, h2⟩
/-- a while, by a measure -/
theorem whl_ind {c : MT} {P : Nat → Ts → Prop} {Q : Ts → Prop} (hs : ∀ m τ, P m τ → (c τ = .ok false ∧ Q τ) ∨ (c τ = .ok true ∧ ∃ τ' m', b τ = .nx τ' ∧ m' < m ∧ P m' τ')) : ∀ m τ, P m τ → ∃ τ', whl c b τ = .nx τ' ∧ Q τ' := by
  intro m
  induction m using Nat.strongRecOn with
  | ind m ih =>
    intro τ p
    rw [whl_unf]
    rcases hs m τ p with ⟨h1, h2⟩ | ⟨h1, τ', m', h2, h3, h4⟩
    · exact ⟨τ, by rw [h1]; rfl, h2⟩
    · obtain ⟨τ2, e1, e2⟩ := ih m' h3 τ' h4
      exact ⟨τ2, by rw [h1]; show (b τ).bnd _ = _; rw [h2]; exact e1, e2⟩
theorem ixl_map {F : α → D} {xs : List α} {k : Nat} {x : α} (h : xs[k]? = some x) : ixD (.lst (xs.map F)) (.int (k : Int)) = .ok (F x) := e_ixl (by rw [List.getElem?_map, h]; rfl)
theorem ixl_int {F : α → D} {xs : List α} {k : Int} {x : α} (h0 : 0 ≤ k) (h : xs[k.toNat]? = some x) : ixD (.lst (xs.map F)) (.int k) = .ok (F x) := by
  have e : k = ((k.toNat : Nat) : Int) := by omega
  rw [e]
  exact ixl_map h
/-- from behind -/
theorem ixl_neg {l : List D} {k : Nat} {d : D} (h : l[l.length - k]? = some d) (h1 : 0 < k) (h2 : k ≤ l.length) : ixD (.lst l) (.int (-(k : Int))) = .ok d := by
  show (match atI l (-(k : Int)) with | some d => Rs.ok d | none => Rs.no) = _
  have e : atI l (-(k : Int)) = l[l.length - k]? := by
    unfold atI ixN
    rw [if_neg (by omega), if_pos (by omega)]
    show l[(-(k : Int) + l.length).toNat]? = _
    congr 1
    omega
  rw [e, h]
mutual
theorem eqX_refl : ∀ (n : Nat) (d : D), pu n d = true → eqX d d = true
  | n, .non, _ => rfl
  | n, .bl a, _ => by show (a == a) = true; simp
  | n, .int a, _ => by show (a == a) = true; simp
  | n, .str a, _ => by show (a == a) = true; simp
  | 0, .lst l, p => nomatch p
  | 0, .tup l, p => nomatch p
  | n + 1, .lst l, p => eqXs_refl n l p
  | n + 1, .tup l, p => eqXs_refl n l p
  | n, .dct _ _, p => by cases n <;> exact nomatch p
  | n, .exc _ _, p => by cases n <;> exact nomatch p
  | n, .scr _, p => by cases n <;> exact nomatch p
theorem eqXs_refl : ∀ (n : Nat) (l : List D), pus n l = true → eqXs l l = true
  | n, [], _ => rfl
  | n, d :: l, p => by
    have p' : (pu n d && pus n l) = true := p
    rw [Bool.and_eq_true] at p'
    show (eqX d d && eqXs l l) = true
    rw [eqX_refl n d p'.1, eqXs_refl n l p'.2]
    rfl
end
theorem pus_map {F : α → D} {n : Nat} : ∀ {xs : List α}, (∀ x ∈ xs, pu n (F x) = true) → pus n (xs.map F) = true
  | [], _ => e_pus0
  | x :: xs, h => by
    show pus n (F x :: xs.map F) = true
    rw [e_pusc, h x List.mem_cons_self, pus_map fun y hy => h y (List.mem_cons_of_mem _ hy)]
    rfl
theorem imms_map {F : α → D} : ∀ {xs : List α}, (∀ x ∈ xs, imm (F x) = true) → imms (xs.map F) = true
  | [], _ => rfl
  | x :: xs, h => by
    show (imm (F x) && imms (xs.map F)) = true
    rw [h x List.mem_cons_self, imms_map fun y hy => h y (List.mem_cons_of_mem _ hy)]
    rfl
theorem eq_self {d : D} (p : pu 60 d = true) : eqD d d = .ok (.bl true) := by
  unfold eqD eqG
  have e := eqX_refl 60 d p
  split
  · rename_i b h
    obtain ⟨u, v, h1, h2, h3, h4⟩ := eqS_inv h
    rw [h1] at h2
    cases h2
    subst h4
    simp
  · rw [p, e]
    rfl
theorem ne_self {d : D} (p : pu 60 d = true) : neD d d = .ok (.bl false) := by
  have h := eq_self p
  unfold eqD at h
  unfold neD
  cases e : eqG d d with
  | ok b =>
    rw [e] at h
    cases h
    rfl
  | no => rw [e] at h; cases h
  | ex z => rw [e] at h; cases h
@[simp] theorem e_listIl {l : List D} : listI [.lst l] = if imms l = true then .ok (.lst l) else .no := rfl
@[simp] theorem e_listIt {l : List D} : listI [.tup l] = if imms l = true then .ok (.lst l) else .no := rfl
@[simp] theorem e_listFl {l : List D} : listF [.lst l] = .ok (.lst l) := rfl
@[simp] theorem e_listFt {l : List D} : listF [.tup l] = .ok (.lst l) := rfl
@[simp] theorem e_tupF {l : List D} : tupF [.lst l] = .ok (.tup l) := rfl
@[simp] theorem e_tAdd {l m : List D} : tAdd (.tup l) (.tup m) = if l.length + m.length ≤ 1000000 then .ok (.tup (l ++ m)) else .no := rfl
@[simp] theorem e_lAdd {l m : List D} : lAdd (.lst l) (.lst m) = if l.length + m.length ≤ 1000000 then .ok (.lst (l ++ m)) else .no := rfl
@[simp] theorem e_sAdd {l m : Str} : sAdd (.str l) (.str m) = if l.length + m.length ≤ 1000000 then .ok (.str (l ++ m)) else .no := rfl
@[simp] theorem e_strD {k : Int} : strD [.int k] = if k.natAbs.log2 < 1920 then .ok (.str (toString k)) else .no := rfl
@[simp] theorem e_en {m : MA} : ien m τ = (m τ).bind enL := rfl
@[simp] theorem e_enL {l : List D} : enL [.lst l] = .ok (enumD 0 l) := rfl
@[simp] theorem e_zp {m : MA} : izp m τ = (m τ).bind zpL := rfl
@[simp] theorem e_zpL {l m : List D} : zpL [.lst l, .lst m] = .ok (zipD l m) := rfl
@[simp] theorem e_rv {m : MA} : irv m τ = (m τ).bind rvL := rfl
@[simp] theorem e_rvL {l : List D} : rvL [.lst l] = .ok l.reverse := rfl
@[simp] theorem e_om {f : Str → D → Rs D} {x y : ME} : om f x y τ = (x τ).bind fun x => match x with | .str s => (y τ).bind fun y => f s y | _ => .no := rfl
@[simp] theorem e_slm {f : D → Option Int → Option Int → Rs D} {lo hi : MO} : slm f a lo hi τ = (a τ).bind fun x => (lo τ).bind fun l => (hi τ).bind fun h => f x l h := rfl
@[simp] theorem e_pno : pno τ = .ok none := rfl
@[simp] theorem e_pso : pso a τ = (a τ).bind posD := rfl
@[simp] theorem e_pos {k : Int} : posD (.int k) = .ok (some k) := rfl
@[simp] theorem e_app {l : List D} {d : D} : appF l [d] = if l.length ≤ 1000000 then .ok (l ++ [d]) else .no := rfl
theorem enum_map {F : α → D} : ∀ {xs : List α} {k : Nat}, enumD k (xs.map F) = (xs.zipIdx k).map fun p => .tup [.int (p.2 : Int), F p.1]
  | [], _ => rfl
  | x :: xs, k => by
    show D.tup [.int (k : Int), F x] :: enumD (k + 1) (xs.map F) = _
    rw [enum_map]
    rfl
theorem e_lm {j : Nat} {f : List D → List D → Rs (List D)} {es : MA} {l l' ds : List D} (h : τ[j]? = some (.lst l)) (h2 : es τ = .ok ds) (h3 : f l ds = .ok l') : lm j f es τ = .nx (τ.set j (.lst l')) := by
  unfold lm
  rw [h]
  simp only [h2, h3]
theorem e_stx {j k : Nat} {ix : ME} {l : List D} {d : D} (h : τ[j]? = some (.lst l)) (h1 : e τ = .ok d) (h2 : ix τ = .ok (.int (k : Int))) (h3 : k < l.length) : stx j ix e τ = .nx (τ.set j (.lst (l.set k d))) := by
  unfold stx
  have e3 : ixN l.length (k : Int) = some k := by
    unfold ixN
    rw [if_pos (by omega), if_pos (by omega), Int.toNat_natCast]
  simp only [h, h1, h2, e3]
end
section
variable {s : MS} {x0 x1 x2 x3 x4 x5 x6 : D}
@[simp high] theorem e_df_1_1 : df 1 1 s [x0] = (s [x0]).fin := e_df rfl
@[simp high] theorem e_df_1_2 : df 1 2 s [x0] = (s [x0, .non]).fin := e_df rfl
@[simp high] theorem e_df_1_3 : df 1 3 s [x0] = (s [x0, .non, .non]).fin := e_df rfl
@[simp high] theorem e_df_1_4 : df 1 4 s [x0] = (s [x0, .non, .non, .non]).fin := e_df rfl
@[simp high] theorem e_df_1_5 : df 1 5 s [x0] = (s [x0, .non, .non, .non, .non]).fin := e_df rfl
@[simp high] theorem e_df_1_6 : df 1 6 s [x0] = (s [x0, .non, .non, .non, .non, .non]).fin := e_df rfl
@[simp high] theorem e_df_1_7 : df 1 7 s [x0] = (s [x0, .non, .non, .non, .non, .non, .non]).fin := e_df rfl
@[simp high] theorem e_df_1_8 : df 1 8 s [x0] = (s [x0, .non, .non, .non, .non, .non, .non, .non]).fin := e_df rfl
@[simp high] theorem e_df_1_9 : df 1 9 s [x0] = (s [x0, .non, .non, .non, .non, .non, .non, .non, .non]).fin := e_df rfl
@[simp high] theorem e_df_1_10 : df 1 10 s [x0] = (s [x0, .non, .non, .non, .non, .non, .non, .non, .non, .non]).fin := e_df rfl
@[simp high] theorem e_df_1_11 : df 1 11 s [x0] = (s [x0, .non, .non, .non, .non, .non, .non, .non, .non, .non, .non]).fin := e_df rfl
@[simp high] theorem e_df_1_12 : df 1 12 s [x0] = (s [x0, .non, .non, .non, .non, .non, .non, .non, .non, .non, .non, .non]).fin := e_df rfl
@[simp high] theorem e_df_1_13 : df 1 13 s [x0] = (s [x0, .non, .non, .non, .non, .non, .non, .non, .non, .non, .non, .non, .non]).fin := e_df rfl
@[simp high] theorem e_df_1_14 : df 1 14 s [x0] = (s [x0, .non, .non, .non, .non, .non, .non, .non, .non, .non, .non, .non, .non, .non]).fin := e_df rfl
@[simp high] theorem e_df_1_15 : df 1 15 s [x0] = (s [x0, .non, .non, .non, .non, .non, .non, .non, .non, .non, .non, .non, .non, .non, .non]).fin := e_df rfl
@[simp high] theorem e_df_1_16 : df 1 16 s [x0] = (s [x0, .non, .non, .non, .non, .non, .non, .non, .non, .non, .non, .non, .non, .non, .non, .non]).fin := e_df rfl
@[simp high] theorem e_df_1_17 : df 1 17 s [x0] = (s [x0, .non, .non, .non, .non, .non, .non, .non, .non, .non, .non, .non, .non, .non, .non, .non, .non]).fin := e_df rfl
@[simp high] theorem e_df_1_18 : df 1 18 s [x0] = (s [x0, .non, .non, .non, .non, .non, .non, .non, .non, .non, .non, .non, .non, .non, .non, .non, .non, .non]).fin := e_df rfl
@[simp high] theorem e_df_2_2 : df 2 2 s [x0, x1] = (s [x0, x1]).fin := e_df rfl
@[simp high] theorem e_df_2_3 : df 2 3 s [x0, x1] = (s [x0, x1, .non]).fin := e_df rfl
@[simp high] theorem e_df_2_4 : df 2 4 s [x0, x1] = (s [x0, x1, .non, .non]).fin := e_df rfl
@[simp high] theorem e_df_2_5 : df 2 5 s [x0, x1] = (s [x0, x1, .non, .non, .non]).fin := e_df rfl
@[simp high] theorem e_df_2_6 : df 2 6 s [x0, x1] = (s [x0, x1, .non, .non, .non, .non]).fin := e_df rfl
@[simp high] theorem e_df_2_7 : df 2 7 s [x0, x1] = (s [x0, x1, .non, .non, .non, .non, .non]).fin := e_df rfl
@[simp high] theorem e_df_2_8 : df 2 8 s [x0, x1] = (s [x0, x1, .non, .non, .non, .non, .non, .non]).fin := e_df rfl
@[simp high] theorem e_df_2_9 : df 2 9 s [x0, x1] = (s [x0, x1, .non, .non, .non, .non, .non, .non, .non]).fin := e_df rfl
@[simp high] theorem e_df_2_10 : df 2 10 s [x0, x1] = (s [x0, x1, .non, .non, .non, .non, .non, .non, .non, .non]).fin := e_df rfl
@[simp high] theorem e_df_2_11 : df 2 11 s [x0, x1] = (s [x0, x1, .non, .non, .non, .non, .non, .non, .non, .non, .non]).fin := e_df rfl
@[simp high] theorem e_df_2_12 : df 2 12 s [x0, x1] = (s [x0, x1, .non, .non, .non, .non, .non, .non, .non, .non, .non, .non]).fin := e_df rfl
@[simp high] theorem e_df_2_13 : df 2 13 s [x0, x1] = (s [x0, x1, .non, .non, .non, .non, .non, .non, .non, .non, .non, .non, .non]).fin := e_df rfl
@[simp high] theorem e_df_2_14 : df 2 14 s [x0, x1] = (s [x0, x1, .non, .non, .non, .non, .non, .non, .non, .non, .non, .non, .non, .non]).fin := e_df rfl
@[simp high] theorem e_df_2_15 : df 2 15 s [x0, x1] = (s [x0, x1, .non, .non, .non, .non, .non, .non, .non, .non, .non, .non, .non, .non, .non]).fin := e_df rfl
@[simp high] theorem e_df_2_16 : df 2 16 s [x0, x1] = (s [x0, x1, .non, .non, .non, .non, .non, .non, .non, .non, .non, .non, .non, .non, .non, .non]).fin := e_df rfl
@[simp high] theorem e_df_2_17 : df 2 17 s [x0, x1] = (s [x0, x1, .non, .non, .non, .non, .non, .non, .non, .non, .non, .non, .non, .non, .non, .non, .non]).fin := e_df rfl
@[simp high] theorem e_df_2_18 : df 2 18 s [x0, x1] = (s [x0, x1, .non, .non, .non, .non, .non, .non, .non, .non, .non, .non, .non, .non, .non, .non, .non, .non]).fin := e_df rfl
@[simp high] theorem e_df_3_3 : df 3 3 s [x0, x1, x2] = (s [x0, x1, x2]).fin := e_df rfl
@[simp high] theorem e_df_3_4 : df 3 4 s [x0, x1, x2] = (s [x0, x1, x2, .non]).fin := e_df rfl
@[simp high] theorem e_df_3_5 : df 3 5 s [x0, x1, x2] = (s [x0, x1, x2, .non, .non]).fin := e_df rfl
@[simp high] theorem e_df_3_6 : df 3 6 s [x0, x1, x2] = (s [x0, x1, x2, .non, .non, .non]).fin := e_df rfl
@[simp high] theorem e_df_3_7 : df 3 7 s [x0, x1, x2] = (s [x0, x1, x2, .non, .non, .non, .non]).fin := e_df rfl
@[simp high] theorem e_df_3_8 : df 3 8 s [x0, x1, x2] = (s [x0, x1, x2, .non, .non, .non, .non, .non]).fin := e_df rfl
@[simp high] theorem e_df_3_9 : df 3 9 s [x0, x1, x2] = (s [x0, x1, x2, .non, .non, .non, .non, .non, .non]).fin := e_df rfl
@[simp high] theorem e_df_3_10 : df 3 10 s [x0, x1, x2] = (s [x0, x1, x2, .non, .non, .non, .non, .non, .non, .non]).fin := e_df rfl
@[simp high] theorem e_df_3_11 : df 3 11 s [x0, x1, x2] = (s [x0, x1, x2, .non, .non, .non, .non, .non, .non, .non, .non]).fin := e_df rfl
@[simp high] theorem e_df_3_12 : df 3 12 s [x0, x1, x2] = (s [x0, x1, x2, .non, .non, .non, .non, .non, .non, .non, .non, .non]).fin := e_df rfl
@[simp high] theorem e_df_3_13 : df 3 13 s [x0, x1, x2] = (s [x0, x1, x2, .non, .non, .non, .non, .non, .non, .non, .non, .non, .non]).fin := e_df rfl
@[simp high] theorem e_df_3_14 : df 3 14 s [x0, x1, x2] = (s [x0, x1, x2, .non, .non, .non, .non, .non, .non, .non, .non, .non, .non, .non]).fin := e_df rfl
@[simp high] theorem e_df_3_15 : df 3 15 s [x0, x1, x2] = (s [x0, x1, x2, .non, .non, .non, .non, .non, .non, .non, .non, .non, .non, .non, .non]).fin := e_df rfl
@[simp high] theorem e_df_3_16 : df 3 16 s [x0, x1, x2] = (s [x0, x1, x2, .non, .non, .non, .non, .non, .non, .non, .non, .non, .non, .non, .non, .non]).fin := e_df rfl
@[simp high] theorem e_df_3_17 : df 3 17 s [x0, x1, x2] = (s [x0, x1, x2, .non, .non, .non, .non, .non, .non, .non, .non, .non, .non, .non, .non, .non, .non]).fin := e_df rfl
@[simp high] theorem e_df_3_18 : df 3 18 s [x0, x1, x2] = (s [x0, x1, x2, .non, .non, .non, .non, .non, .non, .non, .non, .non, .non, .non, .non, .non, .non, .non]).fin := e_df rfl
@[simp high] theorem e_df_4_4 : df 4 4 s [x0, x1, x2, x3] = (s [x0, x1, x2, x3]).fin := e_df rfl
@[simp high] theorem e_df_4_5 : df 4 5 s [x0, x1, x2, x3] = (s [x0, x1, x2, x3, .non]).fin := e_df rfl
@[simp high] theorem e_df_4_6 : df 4 6 s [x0, x1, x2, x3] = (s [x0, x1, x2, x3, .non, .non]).fin := e_df rfl
@[simp high] theorem e_df_4_7 : df 4 7 s [x0, x1, x2, x3] = (s [x0, x1, x2, x3, .non, .non, .non]).fin := e_df rfl
@[simp high] theorem e_df_4_8 : df 4 8 s [x0, x1, x2, x3] = (s [x0, x1, x2, x3, .non, .non, .non, .non]).fin := e_df rfl
@[simp high] theorem e_df_4_9 : df 4 9 s [x0, x1, x2, x3] = (s [x0, x1, x2, x3, .non, .non, .non, .non, .non]).fin := e_df rfl
@[simp high] theorem e_df_4_10 : df 4 10 s [x0, x1, x2, x3] = (s [x0, x1, x2, x3, .non, .non, .non, .non, .non, .non]).fin := e_df rfl
@[simp high] theorem e_df_4_11 : df 4 11 s [x0, x1, x2, x3] = (s [x0, x1, x2, x3, .non, .non, .non, .non, .non, .non, .non]).fin := e_df rfl
@[simp high] theorem e_df_4_12 : df 4 12 s [x0, x1, x2, x3] = (s [x0, x1, x2, x3, .non, .non, .non, .non, .non, .non, .non, .non]).fin := e_df rfl
@[simp high] theorem e_df_4_13 : df 4 13 s [x0, x1, x2, x3] = (s [x0, x1, x2, x3, .non, .non, .non, .non, .non, .non, .non, .non, .non]).fin := e_df rfl
@[simp high] theorem e_df_4_14 : df 4 14 s [x0, x1, x2, x3] = (s [x0, x1, x2, x3, .non, .non, .non, .non, .non, .non, .non, .non, .non, .non]).fin := e_df rfl
@[simp high] theorem e_df_4_15 : df 4 15 s [x0, x1, x2, x3] = (s [x0, x1, x2, x3, .non, .non, .non, .non, .non, .non, .non, .non, .non, .non, .non]).fin := e_df rfl
@[simp high] theorem e_df_4_16 : df 4 16 s [x0, x1, x2, x3] = (s [x0, x1, x2, x3, .non, .non, .non, .non, .non, .non, .non, .non, .non, .non, .non, .non]).fin := e_df rfl
@[simp high] theorem e_df_4_17 : df 4 17 s [x0, x1, x2, x3] = (s [x0, x1, x2, x3, .non, .non, .non, .non, .non, .non, .non, .non, .non, .non, .non, .non, .non]).fin := e_df rfl
@[simp high] theorem e_df_4_18 : df 4 18 s [x0, x1, x2, x3] = (s [x0, x1, x2, x3, .non, .non, .non, .non, .non, .non, .non, .non, .non, .non, .non, .non, .non, .non]).fin := e_df rfl
@[simp high] theorem e_df_5_5 : df 5 5 s [x0, x1, x2, x3, x4] = (s [x0, x1, x2, x3, x4]).fin := e_df rfl
@[simp high] theorem e_df_5_6 : df 5 6 s [x0, x1, x2, x3, x4] = (s [x0, x1, x2, x3, x4, .non]).fin := e_df rfl
@[simp high] theorem e_df_5_7 : df 5 7 s [x0, x1, x2, x3, x4] = (s [x0, x1, x2, x3, x4, .non, .non]).fin := e_df rfl
@[simp high] theorem e_df_5_8 : df 5 8 s [x0, x1, x2, x3, x4] = (s [x0, x1, x2, x3, x4, .non, .non, .non]).fin := e_df rfl
@[simp high] theorem e_df_5_9 : df 5 9 s [x0, x1, x2, x3, x4] = (s [x0, x1, x2, x3, x4, .non, .non, .non, .non]).fin := e_df rfl
@[simp high] theorem e_df_5_10 : df 5 10 s [x0, x1, x2, x3, x4] = (s [x0, x1, x2, x3, x4, .non, .non, .non, .non, .non]).fin := e_df rfl
@[simp high] theorem e_df_5_11 : df 5 11 s [x0, x1, x2, x3, x4] = (s [x0, x1, x2, x3, x4, .non, .non, .non, .non, .non, .non]).fin := e_df rfl
@[simp high] theorem e_df_5_12 : df 5 12 s [x0, x1, x2, x3, x4] = (s [x0, x1, x2, x3, x4, .non, .non, .non, .non, .non, .non, .non]).fin := e_df rfl
@[simp high] theorem e_df_5_13 : df 5 13 s [x0, x1, x2, x3, x4] = (s [x0, x1, x2, x3, x4, .non, .non, .non, .non, .non, .non, .non, .non]).fin := e_df rfl
@[simp high] theorem e_df_5_14 : df 5 14 s [x0, x1, x2, x3, x4] = (s [x0, x1, x2, x3, x4, .non, .non, .non, .non, .non, .non, .non, .non, .non]).fin := e_df rfl
@[simp high] theorem e_df_5_15 : df 5 15 s [x0, x1, x2, x3, x4] = (s [x0, x1, x2, x3, x4, .non, .non, .non, .non, .non, .non, .non, .non, .non, .non]).fin := e_df rfl
@[simp high] theorem e_df_5_16 : df 5 16 s [x0, x1, x2, x3, x4] = (s [x0, x1, x2, x3, x4, .non, .non, .non, .non, .non, .non, .non, .non, .non, .non, .non]).fin := e_df rfl
@[simp high] theorem e_df_5_17 : df 5 17 s [x0, x1, x2, x3, x4] = (s [x0, x1, x2, x3, x4, .non, .non, .non, .non, .non, .non, .non, .non, .non, .non, .non, .non]).fin := e_df rfl
@[simp high] theorem e_df_5_18 : df 5 18 s [x0, x1, x2, x3, x4] = (s [x0, x1, x2, x3, x4, .non, .non, .non, .non, .non, .non, .non, .non, .non, .non, .non, .non, .non]).fin := e_df rfl
@[simp high] theorem e_df_6_6 : df 6 6 s [x0, x1, x2, x3, x4, x5] = (s [x0, x1, x2, x3, x4, x5]).fin := e_df rfl
@[simp high] theorem e_df_6_7 : df 6 7 s [x0, x1, x2, x3, x4, x5] = (s [x0, x1, x2, x3, x4, x5, .non]).fin := e_df rfl
@[simp high] theorem e_df_6_8 : df 6 8 s [x0, x1, x2, x3, x4, x5] = (s [x0, x1, x2, x3, x4, x5, .non, .non]).fin := e_df rfl
@[simp high] theorem e_df_6_9 : df 6 9 s [x0, x1, x2, x3, x4, x5] = (s [x0, x1, x2, x3, x4, x5, .non, .non, .non]).fin := e_df rfl
@[simp high] theorem e_df_6_10 : df 6 10 s [x0, x1, x2, x3, x4, x5] = (s [x0, x1, x2, x3, x4, x5, .non, .non, .non, .non]).fin := e_df rfl
@[simp high] theorem e_df_6_11 : df 6 11 s [x0, x1, x2, x3, x4, x5] = (s [x0, x1, x2, x3, x4, x5, .non, .non, .non, .non, .non]).fin := e_df rfl
@[simp high] theorem e_df_6_12 : df 6 12 s [x0, x1, x2, x3, x4, x5] = (s [x0, x1, x2, x3, x4, x5, .non, .non, .non, .non, .non, .non]).fin := e_df rfl
@[simp high] theorem e_df_6_13 : df 6 13 s [x0, x1, x2, x3, x4, x5] = (s [x0, x1, x2, x3, x4, x5, .non, .non, .non, .non, .non, .non, .non]).fin := e_df rfl
@[simp high] theorem e_df_6_14 : df 6 14 s [x0, x1, x2, x3, x4, x5] = (s [x0, x1, x2, x3, x4, x5, .non, .non, .non, .non, .non, .non, .non, .non]).fin := e_df rfl
@[simp high] theorem e_df_6_15 : df 6 15 s [x0, x1, x2, x3, x4, x5] = (s [x0, x1, x2, x3, x4, x5, .non, .non, .non, .non, .non, .non, .non, .non, .non]).fin := e_df rfl
@[simp high] theorem e_df_6_16 : df 6 16 s [x0, x1, x2, x3, x4, x5] = (s [x0, x1, x2, x3, x4, x5, .non, .non, .non, .non, .non, .non, .non, .non, .non, .non]).fin := e_df rfl
@[simp high] theorem e_df_6_17 : df 6 17 s [x0, x1, x2, x3, x4, x5] = (s [x0, x1, x2, x3, x4, x5, .non, .non, .non, .non, .non, .non, .non, .non, .non, .non, .non]).fin := e_df rfl
@[simp high] theorem e_df_6_18 : df 6 18 s [x0, x1, x2, x3, x4, x5] = (s [x0, x1, x2, x3, x4, x5, .non, .non, .non, .non, .non, .non, .non, .non, .non, .non, .non, .non]).fin := e_df rfl
@[simp high] theorem e_df_7_7 : df 7 7 s [x0, x1, x2, x3, x4, x5, x6] = (s [x0, x1, x2, x3, x4, x5, x6]).fin := e_df rfl
@[simp high] theorem e_df_7_8 : df 7 8 s [x0, x1, x2, x3, x4, x5, x6] = (s [x0, x1, x2, x3, x4, x5, x6, .non]).fin := e_df rfl
@[simp high] theorem e_df_7_9 : df 7 9 s [x0, x1, x2, x3, x4, x5, x6] = (s [x0, x1, x2, x3, x4, x5, x6, .non, .non]).fin := e_df rfl
@[simp high] theorem e_df_7_10 : df 7 10 s [x0, x1, x2, x3, x4, x5, x6] = (s [x0, x1, x2, x3, x4, x5, x6, .non, .non, .non]).fin := e_df rfl
@[simp high] theorem e_df_7_11 : df 7 11 s [x0, x1, x2, x3, x4, x5, x6] = (s [x0, x1, x2, x3, x4, x5, x6, .non, .non, .non, .non]).fin := e_df rfl
@[simp high] theorem e_df_7_12 : df 7 12 s [x0, x1, x2, x3, x4, x5, x6] = (s [x0, x1, x2, x3, x4, x5, x6, .non, .non, .non, .non, .non]).fin := e_df rfl
@[simp high] theorem e_df_7_13 : df 7 13 s [x0, x1, x2, x3, x4, x5, x6] = (s [x0, x1, x2, x3, x4, x5, x6, .non, .non, .non, .non, .non, .non]).fin := e_df rfl
@[simp high] theorem e_df_7_14 : df 7 14 s [x0, x1, x2, x3, x4, x5, x6] = (s [x0, x1, x2, x3, x4, x5, x6, .non, .non, .non, .non, .non, .non, .non]).fin := e_df rfl
@[simp high] theorem e_df_7_15 : df 7 15 s [x0, x1, x2, x3, x4, x5, x6] = (s [x0, x1, x2, x3, x4, x5, x6, .non, .non, .non, .non, .non, .non, .non, .non]).fin := e_df rfl
@[simp high] theorem e_df_7_16 : df 7 16 s [x0, x1, x2, x3, x4, x5, x6] = (s [x0, x1, x2, x3, x4, x5, x6, .non, .non, .non, .non, .non, .non, .non, .non, .non]).fin := e_df rfl
@[simp high] theorem e_df_7_17 : df 7 17 s [x0, x1, x2, x3, x4, x5, x6] = (s [x0, x1, x2, x3, x4, x5, x6, .non, .non, .non, .non, .non, .non, .non, .non, .non, .non]).fin := e_df rfl
@[simp high] theorem e_df_7_18 : df 7 18 s [x0, x1, x2, x3, x4, x5, x6] = (s [x0, x1, x2, x3, x4, x5, x6, .non, .non, .non, .non, .non, .non, .non, .non, .non, .non, .non]).fin := e_df rfl
end
end Mx

set_option Elab.async false
set_option linter.all false
/-! Ms: shares in plain Lean. -/
namespace Mx
open PySem
def gg (t b : Int) : Nat := Nat.gcd t.natAbs b.natAbs
def num (t b : Int) : Int := (if b < 0 then -t else t) / (gg t b : Int)
def den (t b : Int) : Int := (if b < 0 then -b else b) / (gg t b : Int)
/-- in lowest terms -/
structure Low (a b : Int) : Prop where
  pos : 0 < b
  cop : Nat.gcd a.natAbs b.natAbs = 1
theorem gg_pos {t b : Int} (h : b ≠ 0) : 0 < gg t b := Nat.gcd_pos_of_pos_right _ (by omega)
theorem gg_dvd_l (t b : Int) : (gg t b : Int) ∣ t := Int.ofNat_dvd_left.mpr (Nat.gcd_dvd_left _ _)
theorem gg_dvd_r (t b : Int) : (gg t b : Int) ∣ b := Int.ofNat_dvd_left.mpr (Nat.gcd_dvd_right _ _)
theorem gg_le {t b : Int} (h : b ≠ 0) : gg t b ≤ b.natAbs := Nat.gcd_le_right _ (by omega)
theorem num_gg {t b : Int} (h : b ≠ 0) : num t b * gg t b = if b < 0 then -t else t := by
  unfold num
  refine Int.ediv_mul_cancel ?_
  split
  · exact Int.dvd_neg.mpr (gg_dvd_l t b)
  · exact gg_dvd_l t b
theorem den_gg {t b : Int} (h : b ≠ 0) : den t b * gg t b = if b < 0 then -b else b := by
  unfold den
  refine Int.ediv_mul_cancel ?_
  split
  · exact Int.dvd_neg.mpr (gg_dvd_r t b)
  · exact gg_dvd_r t b
theorem den_pos {t b : Int} (h : b ≠ 0) : 0 < den t b := by
  have e := den_gg (t := t) h
  have g := gg_pos (t := t) h
  have g' : (0 : Int) < gg t b := by omega
  have p : 0 < den t b * gg t b := by
    rw [e]
    split <;> omega
  exact Int.pos_of_mul_pos_left p g'
theorem num_den {t b : Int} (h : b ≠ 0) : num t b * b = t * den t b := by
  have e1 := num_gg (t := t) h
  have e2 := den_gg (t := t) h
  have g' : (gg t b : Int) ≠ 0 := by
    have := gg_pos (t := t) h
    omega
  refine Int.eq_of_mul_eq_mul_right g' ?_
  have l : num t b * b * gg t b = num t b * gg t b * b := by rw [Int.mul_assoc, Int.mul_comm b, ← Int.mul_assoc]
  have r : t * den t b * gg t b = t * (den t b * gg t b) := by rw [Int.mul_assoc]
  rw [l, r, e1, e2]
  split
  · rw [Int.neg_mul, Int.mul_neg]
  · rfl
theorem cop_nd {t b : Int} (h : b ≠ 0) : Nat.gcd (num t b).natAbs (den t b).natAbs = 1 := by
  have e1 := congrArg Int.natAbs (num_gg (t := t) h)
  have e2 := congrArg Int.natAbs (den_gg (t := t) h)
  rw [Int.natAbs_mul, Int.natAbs_natCast] at e1 e2
  have f1 : (if b < 0 then -t else t).natAbs = t.natAbs := by split <;> simp
  have f2 : (if b < 0 then -b else b).natAbs = b.natAbs := by split <;> simp
  rw [f1] at e1
  rw [f2] at e2
  have g0 := gg_pos (t := t) h
  have q : Nat.gcd (num t b).natAbs (den t b).natAbs * gg t b = 1 * gg t b := by
    rw [← Nat.gcd_mul_right, e1, e2, Nat.one_mul]
    rfl
  exact Nat.eq_of_mul_eq_mul_right g0 q
theorem low_nd {t b : Int} (h : b ≠ 0) : Low (num t b) (den t b) := ⟨den_pos h, cop_nd h⟩
theorem uniq {a b p q : Int} (h : Low a b) (k : Low p q) (e : p * b = a * q) : p = a ∧ q = b := by
  have hb := h.pos
  have hq := k.pos
  have e' : p.natAbs * b.natAbs = a.natAbs * q.natAbs := by rw [← Int.natAbs_mul, ← Int.natAbs_mul, e]
  have d1 : q.natAbs ∣ b.natAbs := by
    have c : Nat.Coprime q.natAbs p.natAbs := Nat.Coprime.symm k.cop
    exact c.dvd_of_dvd_mul_left ⟨a.natAbs, by rw [e', Nat.mul_comm]⟩
  have d2 : b.natAbs ∣ q.natAbs := by
    have c : Nat.Coprime b.natAbs a.natAbs := Nat.Coprime.symm h.cop
    exact c.dvd_of_dvd_mul_left ⟨p.natAbs, by rw [← e', Nat.mul_comm]⟩
  have eb : q = b := by
    have := Nat.dvd_antisymm d1 d2
    omega
  subst eb
  exact ⟨Int.eq_of_mul_eq_mul_right (by omega) e, rfl⟩
/-- the share of t and b is (a, c) where that is in lowest terms and worth the same -/
theorem nd_eq {t b a c : Int} (h : b ≠ 0) (l : Low a c) (e : t * c = a * b) : num t b = a ∧ den t b = c := by
  refine uniq l (low_nd h) ?_
  have n := num_den (t := t) h
  have : num t b * c * b = a * den t b * b := by
    rw [Int.mul_right_comm, n, Int.mul_right_comm, Int.mul_right_comm a, ← e]
  exact Int.eq_of_mul_eq_mul_right h this
theorem sz_num {t b : Int} {n : Nat} (h : b ≠ 0) (z : Sz t n) : Sz (num t b) n := by
  have g := gg_pos (t := t) h
  unfold num
  refine sz_div ?_ (by omega)
  split
  · exact sz_neg z
  · exact z
theorem sz_den {t b : Int} {n : Nat} (h : b ≠ 0) (z : Sz b n) : Sz (den t b) n := by
  have g := gg_pos (t := t) h
  unfold den
  refine sz_div ?_ (by omega)
  split
  · exact sz_neg z
  · exact z
theorem sz_gg {t b : Int} {n : Nat} (h : b ≠ 0) (z : Sz b n) : Sz (gg t b : Int) n := sz_le z (by
  have := gg_le (t := t) h
  omega)
end Mx

set_option Elab.async false
set_option linter.all false
set_option maxRecDepth 100000
namespace Lw
open PySem PySem.Spec PyProof.Rows L2 Mx
local macro_rules | `(tactic| walk_at "sz") => `(tactic| first
  | assumption
  | exact sz_item (by assumption)
  | exact sz_mul (by walk_at "sz") (by walk_at "sz")
  | exact sz_add' (by walk_at "sz") (by walk_at "sz")
  | exact sz_sub' (by walk_at "sz") (by walk_at "sz")
  | exact sz_neg (by walk_at "sz")
  | exact sz_mod (by walk_at "sz") (by omega)
  | exact sz_div (by walk_at "sz") (by omega)
  | exact sz_lit _)
local macro_rules | `(tactic| walk_at "dsz") => `(tactic| first
  | with_reducible assumption
  | omega
  | with_reducible exact Int.emod_nonneg _ (by omega)
  | with_reducible exact Int.emod_lt_of_pos _ (by omega)
  | with_reducible exact lgs (by walk_at "sz") (by walk_at "sz") (by decide +kernel)
  | with_reducible exact lgd (by walk_at "sz") (by decide +kernel))
set_option maxHeartbeats 4000000
def topS (i : Nat) : Stmt := PySem.Challenge.pw_pressluck_k22_whole_ends_come_to.main.body.getD i (.Pass ⟨0, 0, 0, 0⟩)
abbrev s_goals_of : Stmt := topS 1
theorem sc_goals_of : FnScope ["place", "pair"] ["place"] (defScope s_goals_of) := ⟨rfl, rfl, rfl, by decide +kernel, rfl, by decide +kernel, by decide +kernel⟩
def t_goals_of_2 : MS := (ret (cll listI (ac (o2 ixD (vr 0) (kc (.int 2))) an)))
def t_goals_of_1 : MS := (seq (sif (tb (o2 eqD (o2 ixD (vr 0) (kc (.int 0))) (kc (.str "throw")))) (ret (mlc (its (o2 ixD (vr 0) (kc (.int 2)))) (gn 1) yes (ck (o2 ixD (vr 1) (kc (.int 1)))))) skip) t_goals_of_2)
def t_goals_of_0 : MS := (seq (sif (tb (o2 eqD (o2 ixD (vr 0) (kc (.int 0))) (kc (.str "end")))) (ret (ls an)) skip) t_goals_of_1)
def m_goals_of : List D → Rs D := df 1 2 t_goals_of_0
abbrev s_is_ready : Stmt := topS 2
theorem sc_is_ready : FnScope ["place", "found", "goals", "known", "goal"] ["place", "found"] (defScope s_is_ready) := ⟨rfl, rfl, rfl, by decide +kernel, rfl, by decide +kernel, by decide +kernel⟩
def t_is_ready_3 : MS := (ret (o2 eqD (cll lenD (ac (vr 3) an)) (cll lenD (ac (vr 2) an))))
def t_is_ready_2 : MS := (seq (sif (tb (o2 eqD (o2 ixD (vr 0) (kc (.int 0))) (kc (.str "throw")))) (ret (o2 gtD (cll lenD (ac (vr 3) an)) (kc (.int 0)))) skip) t_is_ready_3)
def t_is_ready_1 : MS := (seq (asg (mlc (its (vr 2)) (gn 4) (tb (o2 noND (o2 ixD (vr 1) (vr 4)) (kc .non))) (ck (vr 4))) (gn 3)) t_is_ready_2)
def t_is_ready_0 : MS := (seq (asg (cll m_goals_of (ac (vr 0) an)) (gn 2)) t_is_ready_1)
def m_is_ready : List D → Rs D := df 2 5 t_is_ready_0
abbrev s_levels : Stmt := topS 3
theorem sc_levels : FnScope ["board", "found", "level", "more", "at", "ready", "place"] ["board"] (defScope s_levels) := ⟨rfl, rfl, rfl, by decide +kernel, rfl, by decide +kernel, by decide +kernel⟩
noncomputable def b_levels_0 : MS := (stx 1 (vr 4) (ck (vr 2)))
noncomputable def b_levels_1 : MT := (tb (vr 3))
noncomputable def b_levels_2 : MS := (seq (asg (o2 aD (vr 2) (kc (.int 1))) (gn 2)) (seq (asg (mlc (ir1 (ac (cll lenD (ac (vr 0) an)) an)) (gn 4) (tand (tb (o2 isND (o2 ixD (vr 1) (vr 4)) (kc .non))) (tb (cll m_is_ready (ac (o2 ixD (vr 0) (vr 4)) (ac (vr 1) an))))) (ck (vr 4))) (gn 5)) (seq (fr (its (vr 5)) (gn 4) b_levels_0) (asg (o2 gtD (cll lenD (ac (vr 5) an)) (kc (.int 0))) (gn 3)))))
noncomputable def t_levels_4 : MS := (ret (vr 1))
noncomputable def t_levels_3 : MS := (seq (whl b_levels_1 b_levels_2) t_levels_4)
noncomputable def t_levels_2 : MS := (seq (asg (kc (.bl true)) (gn 3)) t_levels_3)
noncomputable def t_levels_1 : MS := (seq (asg (kc (.int 0)) (gn 2)) t_levels_2)
noncomputable def t_levels_0 : MS := (seq (asg (mlc (its (vr 0)) (gn 6) yes (ife (tb (o2 eqD (o2 ixD (vr 6) (kc (.int 0))) (kc (.str "end")))) (kc (.int 0)) (kc .non))) (gn 1)) t_levels_1)
noncomputable def m_levels : List D → Rs D := df 1 7 t_levels_0
abbrev s_ring : Stmt := topS 4
theorem sc_ring : FnScope ["board", "found", "at"] ["board"] (defScope s_ring) := ⟨rfl, rfl, rfl, by decide +kernel, rfl, by decide +kernel, by decide +kernel⟩
noncomputable def t_ring_1 : MS := (ret (mlc (ir1 (ac (cll lenD (ac (vr 0) an)) an)) (gn 2) (tb (o2 isND (o2 ixD (vr 1) (vr 2)) (kc .non))) (ck (vr 2))))
noncomputable def t_ring_0 : MS := (seq (asg (cll m_levels (ac (vr 0) an)) (gn 1)) t_ring_1)
noncomputable def m_ring : List D → Rs D := df 1 3 t_ring_0
abbrev s_stays : Stmt := topS 5
theorem sc_stays : FnScope ["board", "found", "told", "at", "staying", "k", "goal"] ["board"] (defScope s_stays) := ⟨rfl, rfl, rfl, by decide +kernel, rfl, by decide +kernel, by decide +kernel⟩
noncomputable def b_stays_0 : MS := (seq (asg (mlc (ien (ac (cll m_goals_of (ac (o2 ixD (vr 0) (vr 3)) an)) an)) (gt [(gn 5), (gn 6)]) (tb (o2 isND (o2 ixD (vr 1) (vr 6)) (kc .non))) (ck (vr 5))) (gn 4)) (sif (tb (o2 isND (o2 ixD (vr 1) (vr 3)) (kc .non))) (lm 2 appF (ac (ck (o2 ixD (vr 4) (kc (.int 0)))) an)) (lm 2 appF (ac (kc .non) an))))
noncomputable def t_stays_3 : MS := (ret (vr 2))
noncomputable def t_stays_2 : MS := (seq (fr (ir1 (ac (cll lenD (ac (vr 0) an)) an)) (gn 3) b_stays_0) t_stays_3)
noncomputable def t_stays_1 : MS := (seq (asg (ls an) (gn 2)) t_stays_2)
noncomputable def t_stays_0 : MS := (seq (asg (cll m_levels (ac (vr 0) an)) (gn 1)) t_stays_1)
noncomputable def m_stays : List D → Rs D := df 1 7 t_stays_0
abbrev s__law_cell : Stmt := topS 7
theorem sc__law_cell : FnScope ["_law_script", "_law_k", "_law_number"] ["_law_script", "_law_k"] (defScope s__law_cell) := ⟨rfl, rfl, rfl, by decide +kernel, rfl, by decide +kernel, by decide +kernel⟩
def t__law_cell_3 : MS := (ret (o2 rD (o2 mD (vr 2) (vr 2)) (kc (.int 2147483629))))
def t__law_cell_2 : MS := (seq (sif (tb (o2 gtD (cll lenD (ac (vr 0) an)) (kc (.int 0)))) (asg (o2 aD (o2 mD (o2 rD (o2 ixD (vr 0) (o2 rD (o2 mD (vr 1) (kc (.int 7))) (cll lenD (ac (vr 0) an)))) (kc (.int 2147483647))) (kc (.int 48271))) (o2 mD (vr 1) (kc (.int 7919)))) (gn 2)) skip) t__law_cell_3)
def t__law_cell_1 : MS := (seq (asg (o2 aD (o2 mD (vr 1) (kc (.int 7919))) (kc (.int 11))) (gn 2)) t__law_cell_2)
def t__law_cell_0 : MS := (seq (sif (tb (o2 ltD (vr 1) (cll lenD (ac (vr 0) an)))) (ret (ck (o2 ixD (vr 0) (vr 1)))) skip) t__law_cell_1)
def m__law_cell : List D → Rs D := df 2 3 t__law_cell_0
abbrev s__law_mixed : Stmt := topS 8
theorem sc__law_mixed : FnScope ["_law_cell_here", "_law_many"] ["_law_cell_here", "_law_many"] (defScope s__law_mixed) := ⟨rfl, rfl, rfl, by decide +kernel, rfl, by decide +kernel, by decide +kernel⟩
def t__law_mixed_0 : MS := (ret (o2 rD (o2 qD (o2 rD (o2 mD (o2 rD (vr 0) (o2 pD (kc (.int 2)) (kc (.int 64)))) (kc (.int 11400714819323198485))) (o2 pD (kc (.int 2)) (kc (.int 64)))) (o2 pD (kc (.int 2)) (kc (.int 11)))) (vr 1)))
def m__law_mixed : List D → Rs D := df 2 2 t__law_mixed_0
abbrev s__law_goal : Stmt := topS 9
theorem sc__law_goal : FnScope ["_law_bits", "_law_k", "_law_n", "_law_mode"] ["_law_bits", "_law_k", "_law_n", "_law_mode"] (defScope s__law_goal) := ⟨rfl, rfl, rfl, by decide +kernel, rfl, by decide +kernel, by decide +kernel⟩
def t__law_goal_3 : MS := (ret (o2 rD (vr 0) (vr 2)))
def t__law_goal_2 : MS := (seq (sif (tb (o2 eqD (vr 3) (kc (.int 3)))) (ret (cll max2D (ac (o2 rD (vr 0) (vr 2)) (ac (o2 rD (o2 qD (vr 0) (kc (.int 256))) (vr 2)) an)))) skip) t__law_goal_3)
def t__law_goal_1 : MS := (seq (sif (tb (o2 eqD (vr 3) (kc (.int 2)))) (ret (o2 rD (o2 aD (o2 sD (o2 aD (vr 1) (vr 2)) (kc (.int 2))) (o2 rD (vr 0) (kc (.int 5)))) (vr 2))) skip) t__law_goal_2)
def t__law_goal_0 : MS := (seq (sif (tb (o2 eqD (vr 3) (kc (.int 1)))) (ret (o2 aD (o2 aD (vr 1) (kc (.int 1))) (o2 rD (vr 0) (o2 sD (o2 sD (vr 2) (kc (.int 1))) (vr 1))))) skip) t__law_goal_1)
def m__law_goal : List D → Rs D := df 4 4 t__law_goal_0
abbrev s__law_place : Stmt := topS 10
theorem sc__law_place : FnScope ["_law_script", "_law_k", "_law_n", "_law_mode", "_law_cell_here", "_law_bits", "_law_many", "_law_goals_here", "_law_j", "_law_goal_here"] ["_law_script", "_law_k", "_law_n", "_law_mode"] (defScope s__law_place) := ⟨rfl, rfl, rfl, by decide +kernel, rfl, by decide +kernel, by decide +kernel⟩
def t__law_place_7 : MS := (ret (tp (ac (kc (.str "throw")) (ac (tp (ac (o2 rD (o2 qD (vr 5) (kc (.int 16))) (kc (.int 5))) (ac (kc (.int 1)) an))) (ac (mlc (ien (ac (vr 7) an)) (gt [(gn 8), (gn 9)]) yes (tp (ac (o2 aD (kc (.int 1)) (o2 rD (o2 qD (vr 5) (o2 aD (kc (.int 7)) (vr 8))) (kc (.int 10000)))) (ac (ck (vr 9)) an)))) an)))))
def t__law_place_6 : MS := (seq (sif (tb (o2 gtD (o2 rD (vr 5) (kc (.int 8))) (kc (.int 4)))) (ret (tp (ac (kc (.str "pick")) (ac (o2 aD (kc (.int 1)) (o2 rD (o2 qD (vr 5) (kc (.int 64))) (kc (.int 2)))) (ac (vr 7) an))))) skip) t__law_place_7)
def t__law_place_5 : MS := (seq (asg (mlc (ir1 (ac (vr 6) an)) (gn 8) yes (cll m__law_goal (ac (cll m__law_mixed (ac (o2 aD (o2 mD (vr 4) (o2 aD (o2 mD (vr 8) (vr 8)) (kc (.int 3)))) (vr 8)) (ac (o2 pD (kc (.int 2)) (kc (.int 40))) an))) (ac (vr 1) (ac (vr 2) (ac (vr 3) an)))))) (gn 7)) t__law_place_6)
def t__law_place_4 : MS := (seq (sif (tb (o2 ltD (o2 rD (vr 5) (kc (.int 8))) (kc (.int 5)))) (seq (asg (o2 aD (kc (.int 1)) (o2 rD (o2 qD (vr 5) (kc (.int 8))) (kc (.int 3)))) (gn 6)) (sif (tb (o2 eqD (o2 rD (o2 qD (vr 5) (kc (.int 64))) (kc (.int 16))) (kc (.int 1)))) (asg (o2 aD (kc (.int 1)) (o2 rD (o2 qD (vr 5) (kc (.int 1024))) (kc (.int 100)))) (gn 6)) skip)) skip) t__law_place_5)
def t__law_place_3 : MS := (seq (asg (o2 aD (kc (.int 1)) (o2 rD (o2 qD (vr 5) (kc (.int 8))) (kc (.int 4)))) (gn 6)) t__law_place_4)
def t__law_place_2 : MS := (seq (sif (tor (tb (o2 eqD (o2 rD (vr 5) (kc (.int 8))) (kc (.int 0)))) (tand (tb (o2 eqD (vr 3) (kc (.int 1)))) (tb (o2 eqD (vr 1) (o2 sD (vr 2) (kc (.int 1))))))) (ret (tp (ac (kc (.str "end")) (ac (tp (ac (o2 sD (o2 rD (o2 qD (vr 5) (kc (.int 8))) (kc (.int 19))) (kc (.int 9))) (ac (kc (.int 1)) an))) an)))) skip) t__law_place_3)
def t__law_place_1 : MS := (seq (asg (cll m__law_mixed (ac (vr 4) (ac (o2 pD (kc (.int 2)) (kc (.int 50))) an))) (gn 5)) t__law_place_2)
def t__law_place_0 : MS := (seq (asg (o2 aD (o2 mD (cll m__law_cell (ac (vr 0) (ac (o2 aD (kc (.int 6)) (vr 1)) an))) (o2 aD (o2 mD (vr 1) (vr 1)) (kc (.int 5)))) (vr 1)) (gn 4)) t__law_place_1)
def m__law_place : List D → Rs D := df 4 10 t__law_place_0
abbrev s__law_board : Stmt := topS 11
theorem sc__law_board : FnScope ["_law_script", "_law_n", "_law_k"] ["_law_script"] (defScope s__law_board) := ⟨rfl, rfl, rfl, by decide +kernel, rfl, by decide +kernel, by decide +kernel⟩
def t__law_board_2 : MS := (ret (mlc (ir1 (ac (vr 1) an)) (gn 2) yes (cll m__law_place (ac (vr 0) (ac (vr 2) (ac (vr 1) (ac (o2 rD (cll m__law_cell (ac (vr 0) (ac (kc (.int 1)) an))) (kc (.int 4))) an)))))))
def t__law_board_1 : MS := (seq (sif (tb (o2 eqD (o2 rD (o2 qD (cll m__law_cell (ac (vr 0) (ac (kc (.int 0)) an))) (kc (.int 12))) (kc (.int 6))) (kc (.int 5)))) (asg (o2 aD (kc (.int 1)) (o2 rD (o2 qD (cll m__law_cell (ac (vr 0) (ac (kc (.int 0)) an))) (kc (.int 72))) (kc (.int 60)))) (gn 1)) skip) t__law_board_2)
def t__law_board_0 : MS := (seq (asg (o2 aD (kc (.int 1)) (o2 rD (cll m__law_cell (ac (vr 0) (ac (kc (.int 0)) an))) (kc (.int 12)))) (gn 1)) t__law_board_1)
def m__law_board : List D → Rs D := df 1 3 t__law_board_0
abbrev s__law_goals : Stmt := topS 12
theorem sc__law_goals : FnScope ["_law_place_here", "_law_pair"] ["_law_place_here"] (defScope s__law_goals) := ⟨rfl, rfl, rfl, by decide +kernel, rfl, by decide +kernel, by decide +kernel⟩
def t__law_goals_2 : MS := (ret (mlc (its (o2 ixD (vr 0) (kc (.int 2)))) (gn 1) yes (o2 ixD (vr 1) (kc (.int 1)))))
def t__law_goals_1 : MS := (seq (sif (tb (o2 eqD (o2 ixD (vr 0) (kc (.int 0))) (kc (.str "pick")))) (ret (o2 ixD (vr 0) (kc (.int 2)))) skip) t__law_goals_2)
def t__law_goals_0 : MS := (seq (sif (tb (o2 eqD (o2 ixD (vr 0) (kc (.int 0))) (kc (.str "end")))) (ret (ls an)) skip) t__law_goals_1)
def m__law_goals : List D → Rs D := df 1 2 t__law_goals_0
abbrev s__law_whole : Stmt := topS 13
theorem sc__law_whole : FnScope ["_law_found"] ["_law_found"] (defScope s__law_whole) := ⟨rfl, rfl, rfl, by decide +kernel, rfl, by decide +kernel, by decide +kernel⟩
def t__law_whole_0 : MS := (ret (vand (o1 (isTD "int") (vr 0)) (vnot (o1 (isTD "bool") (vr 0)))))
def m__law_whole : List D → Rs D := df 1 1 t__law_whole_0
abbrev s__law_ends_from : Stmt := topS 14
theorem sc__law_ends_from : FnScope ["_law_script", "_law_board_here", "_law_found", "_law_at", "_law_step", "_law_goals_here", "_law_goal_here", "_law_known", "_law_other"] ["_law_script", "_law_board_here", "_law_found", "_law_at"] (defScope s__law_ends_from) := ⟨rfl, rfl, rfl, by decide +kernel, rfl, by decide +kernel, by decide +kernel⟩
def b__law_ends_from_0 : MS := (seq (asg (cll m__law_goals (ac (o2 ixD (vr 1) (vr 3)) an)) (gn 5)) (seq (sif (tb (o2 eqD (vr 5) (ls an))) (ret (kc (.bl true))) skip) (seq (sif (tb (o2 eqD (o2 ixD (o2 ixD (vr 1) (vr 3)) (kc (.int 0))) (kc (.str "pick")))) (asg (o2 ixD (vr 5) (o2 rD (cll m__law_mixed (ac (o2 aD (cll m__law_cell (ac (vr 0) (ac (o2 aD (kc (.int 3)) (vr 4)) an))) (vr 3)) (ac (o2 pD (kc (.int 2)) (kc (.int 40))) an))) (cll lenD (ac (vr 5) an)))) (gn 6)) (seq (asg (mlc (its (vr 5)) (gn 8) (tb (o2 noND (o2 ixD (vr 2) (vr 8)) (kc .non))) (ck (o2 ixD (vr 2) (vr 8)))) (gn 7)) (seq (sif (tb (o2 eqD (vr 7) (ls an))) (ret (kc (.bl false))) skip) (asg (o2 ixD (mlc (its (vr 5)) (gn 8) (tb (o2 eqD (o2 ixD (vr 2) (vr 8)) (cll minL (ac (vr 7) an)))) (vr 8)) (kc (.int 0))) (gn 6))))) (seq (sif (tor (tnot (tb (cll m__law_whole (ac (o2 ixD (vr 2) (vr 6)) an)))) (tb (o2 geD (o2 ixD (vr 2) (vr 6)) (o2 ixD (vr 2) (vr 3))))) (ret (kc (.bl false))) skip) (asg (vr 6) (gn 3))))))
def t__law_ends_from_1 : MS := (ret (o2 eqD (o2 ixD (o2 ixD (vr 1) (vr 3)) (kc (.int 0))) (kc (.str "end"))))
def t__law_ends_from_0 : MS := (seq (fr (ir1 (ac (o2 ixD (vr 2) (vr 3)) an)) (gn 4) b__law_ends_from_0) t__law_ends_from_1)
def m__law_ends_from : List D → Rs D := df 4 9 t__law_ends_from_0
abbrev s__law_stays_from : Stmt := topS 15
theorem sc__law_stays_from : FnScope ["_law_script", "_law_board_here", "_law_left", "_law_staying", "_law_at", "_law_step", "_law_goals_here", "_law_way"] ["_law_script", "_law_board_here", "_law_left", "_law_staying", "_law_at"] (defScope s__law_stays_from) := ⟨rfl, rfl, rfl, by decide +kernel, rfl, by decide +kernel, by decide +kernel⟩
def b__law_stays_from_0 : MS := (seq (asg (cll m__law_goals (ac (o2 ixD (vr 1) (vr 4)) an)) (gn 6)) (seq (sif (tor (tb (o2 ninD (vr 4) (vr 2))) (tb (o2 eqD (vr 6) (ls an)))) (ret (kc (.bl false))) skip) (seq (asg (o2 rD (cll m__law_mixed (ac (o2 aD (o2 mD (cll m__law_cell (ac (vr 0) (ac (o2 aD (kc (.int 2)) (vr 5)) an))) (kc (.int 3))) (vr 4)) (ac (o2 pD (kc (.int 2)) (kc (.int 40))) an))) (cll lenD (ac (vr 6) an))) (gn 7)) (seq (sif (tb (o2 eqD (o2 ixD (o2 ixD (vr 1) (vr 4)) (kc (.int 0))) (kc (.str "pick")))) (asg (o2 ixD (vr 3) (vr 4)) (gn 7)) skip) (seq (sif (tor (tnot (tb (cll m__law_whole (ac (vr 7) an)))) (tor (tb (o2 ltD (vr 7) (kc (.int 0)))) (tb (o2 geD (vr 7) (cll lenD (ac (vr 6) an)))))) (ret (kc (.bl false))) skip) (asg (o2 ixD (vr 6) (vr 7)) (gn 4)))))))
def t__law_stays_from_1 : MS := (ret (o2 inD (vr 4) (vr 2)))
def t__law_stays_from_0 : MS := (seq (fr (ir1 (ac (o2 aD (kc (.int 40)) (cll lenD (ac (slm slG (vr 0) pno (pso (kc (.int 60)))) an))) an)) (gn 5) b__law_stays_from_0) t__law_stays_from_1)
def m__law_stays_from : List D → Rs D := df 5 8 t__law_stays_from_0
abbrev s_law : Stmt := topS 16
theorem sc_law : FnScope ["_law_script", "_law_board_here", "_law_found", "_law_left", "_law_staying", "_law_at", "_law_place_here", "_law_goal_here"] ["_law_script"] (defScope s_law) := ⟨rfl, rfl, rfl, by decide +kernel, rfl, by decide +kernel, by decide +kernel⟩
noncomputable def b_law_0 : MS := (seq (asg (o2 ixD (vr 1) (vr 5)) (gn 6)) (sif (tb (cll m__law_whole (ac (o2 ixD (vr 2) (vr 5)) an))) (seq (sif (tor (tb (o2 inD (vr 5) (vr 3))) (tnot (tb (cll m__law_ends_from (ac (vr 0) (ac (vr 1) (ac (vr 2) (ac (vr 5) an)))))))) (ret (kc (.bl false))) skip) (sif (tand (tb (o2 eqD (o2 ixD (vr 6) (kc (.int 0))) (kc (.str "pick")))) (tb (o2 neD (mlc (its (o2 ixD (vr 6) (kc (.int 2)))) (gn 7) (tb (o2 inD (vr 7) (vr 3))) (vr 7)) (ls an)))) (ret (kc (.bl false))) skip)) (sif (tor (tb (o2 ninD (vr 5) (vr 3))) (tnot (tb (cll m__law_stays_from (ac (vr 0) (ac (vr 1) (ac (vr 3) (ac (vr 4) (ac (vr 5) an))))))))) (ret (kc (.bl false))) skip)))
noncomputable def t_law_7 : MS := (ret (kc (.bl true)))
noncomputable def t_law_6 : MS := (seq (fr (ir1 (ac (cll lenD (ac (vr 1) an)) an)) (gn 5) b_law_0) t_law_7)
noncomputable def t_law_5 : MS := (seq (sif (tor (tb (o2 neD (cll lenD (ac (vr 2) an)) (cll lenD (ac (vr 1) an)))) (tb (o2 neD (cll lenD (ac (vr 4) an)) (cll lenD (ac (vr 1) an))))) (ret (kc (.bl false))) skip) t_law_6)
noncomputable def t_law_4 : MS := (seq (sif (tor (tnot (tb (o1 (isTD "list") (vr 2)))) (tor (tnot (tb (o1 (isTD "list") (vr 3)))) (tnot (tb (o1 (isTD "list") (vr 4)))))) (ret (kc (.bl false))) skip) t_law_5)
noncomputable def t_law_3 : MS := (seq (asg (cll m_stays (ac (cll listF (ac (vr 1) an)) an)) (gn 4)) t_law_4)
noncomputable def t_law_2 : MS := (seq (asg (cll m_ring (ac (cll listF (ac (vr 1) an)) an)) (gn 3)) t_law_3)
noncomputable def t_law_1 : MS := (seq (asg (cll m_levels (ac (cll listF (ac (vr 1) an)) an)) (gn 2)) t_law_2)
noncomputable def t_law_0 : MS := (seq (asg (cll m__law_board (ac (vr 0) an)) (gn 1)) t_law_1)
noncomputable def m_law : List D → Rs D := df 1 8 t_law_0
section
variable {P : Program} {w : World} {K : PySem.W.Frag} {mg : Str → Option Value} {base : Heap} {cl : String → Option Value}
theorem ok_goals_of {f : Addr} {fd : FuncData} (F : DefAt K mg "goals_of" ["place"] s_goals_of f fd) (z_list : mg "list" = none) : Worth P w K mg base cl "goals_of" 1 1 .deep m_goals_of := worth_of F sc_goals_of (by decide) fun cdv A outer s H E hr => by
  have nd := sc_goals_of.nd
  exact ⟨_, (css_cons (cs_if (ms2 := [some .fz, none]) (ct_eq (ma := .bw) (mb := .bw) hr (ce_ix (ma := .bw) (mb := .bw) (by decide) (ce_bw 0) ce_int) ce_str) (css_one (cs_ret (ms2 := [some .fz, none]) (ce_lsD ca_nil))) css_nil) (css_cons (cs_if (ms2 := [some .fz, none]) (ct_eq (ma := .bw) (mb := .bw) hr (ce_ix (ma := .bw) (mb := .bw) (by decide) (ce_bw 0) ce_int) ce_str) (css_one (cs_ret (ms2 := [some .fz, none]) (ce_lc (n := 2) (md := .deep) (mi := .fz) rfl nd (cix_seq (md := .fz) rfl (ce_ix (ma := .fz) (mb := .bw) (by decide) (ce_var 0) ce_int)) (blkOk_by (N := ["place", "pair"]) (sc := defScope s_goals_of) (own := [("pair", 1)]) (by first | decide +kernel | rfl)) (bg_name 1 nd) bt_nil (be_of fun _ _ _ _ _ => (ce_ck (md := .fz) (ce_ix (ma := .fz) (mb := .bw) (by decide) (ce_var 1) ce_int)))))) css_nil) (css_one (cs_ret (ms2 := []) (ce_listI (md := .deep) (by first | exact Or.inl rfl | exact Or.inr rfl) z_list (ca_cons (ce_ix (ma := .bw) (mb := .bw) (by decide) (ce_bw 0) ce_int) ca_nil))))))⟩
theorem ok_is_ready {f : Addr} {fd : FuncData} (F : DefAt K mg "is_ready" ["place", "found"] s_is_ready f fd) (c_goals_of : Worth P w K mg base cl "goals_of" 1 1 .deep m_goals_of) (z_len : mg "len" = none) : Worth P w K mg base cl "is_ready" 2 2 .deep m_is_ready := worth_of F sc_is_ready (by decide) fun cdv A outer s H E hr => by
  have nd := sc_is_ready.nd
  exact ⟨_, (css_cons (cs_set (md := .deep) 2 nd (ce_cd c_goals_of hr tk_of (ca_cons (ce_bw 0) ca_nil))) (css_cons (cs_setLc (n := 5) (md := .deep) (mi := .fz) 3 rfl nd (cix_seq (md := .fz) rfl (ce_frz (md := .deep) 2)) (blkOk_by (N := ["place", "found", "goals", "known", "goal"]) (sc := defScope s_is_ready) (own := [("goal", 4)]) (by first | decide +kernel | rfl)) (bg_name 4 nd) (bt_of fun _ _ _ _ _ => (ct_noN (ma := .bw) (mb := .bw) (ce_ix (ma := .bw) (mb := .bw) (by decide) (ce_bw 1) (ce_bw 4)) ce_non)) (be_of fun _ _ _ _ _ => (ce_ck (md := .fz) (ce_var 4)))) (css_cons (cs_if (ms2 := [some .fz, some .fz, some .fz, some .deep, none]) (ct_eq (ma := .bw) (mb := .bw) hr (ce_ix (ma := .bw) (mb := .bw) (by decide) (ce_bw 0) ce_int) ce_str) (css_one (cs_ret (ms2 := [some .fz, some .fz, some .fz, some .deep, none]) (ce_gt (ma := .bw) (mb := .bw) (ce_len z_len (ca_cons (ce_bw 3) ca_nil)) ce_int))) css_nil) (css_one (cs_ret (ms2 := []) (ce_eq (ma := .bw) (mb := .bw) hr (ce_len z_len (ca_cons (ce_bw 3) ca_nil)) (ce_len z_len (ca_cons (ce_bw 2) ca_nil))))))))⟩
theorem ok_levels {f : Addr} {fd : FuncData} (F : DefAt K mg "levels" ["board"] s_levels f fd) (c_is_ready : Worth P w K mg base cl "is_ready" 2 2 .deep m_is_ready) (z_len : mg "len" = none) (z_range : mg "range" = none) : Worth P w K mg base cl "levels" 3 1 .deep m_levels := worth_of F sc_levels (by decide) fun cdv A outer s H E hr => by
  have nd := sc_levels.nd
  exact ⟨_, (css_cons (cs_set (md := .deep) 1 nd (ce_lc (n := 7) (md := .deep) (mi := .fz) rfl nd (cix_seq (md := .fz) rfl (ce_var 0)) (blkOk_by (N := ["board", "found", "level", "more", "at", "ready", "place"]) (sc := defScope s_levels) (own := [("place", 6)]) (by first | decide +kernel | rfl)) (bg_name 6 nd) bt_nil (be_of fun _ _ _ _ _ => (ce_ife (ct_eq (ma := .bw) (mb := .bw) hr (ce_ix (ma := .bw) (mb := .bw) (by decide) (ce_bw 6) ce_int) ce_str) ce_int ce_non)))) (css_cons (cs_set (md := .fz) 2 nd ce_int) (css_cons (cs_set (md := .fz) 3 nd ce_bl) (css_cons (cs_while (ms := [some .fz, some .deep, some .fz, some .fz, none, none, none]) (ms2 := [some .fz, some .deep, some .fz, some .fz, none, none, none]) po_of (ct_val (md := .bw) (ce_bw 3)) (css_weak (ms2 := [some .fz, some .deep, some .fz, some .fz, none, none, none]) (css_cons (cs_set (md := .fz) 2 nd (ce_add (ma := .bw) (mb := .bw) (ce_bw 2) ce_int)) (css_cons (cs_setLc (n := 7) (md := .deep) (mi := .fz) 5 rfl nd (cix_r1 (md := .fz) z_range (ca_cons (ce_len z_len (ca_cons (ce_bw 0) ca_nil)) ca_nil)) (blkOk_by (N := ["board", "found", "level", "more", "at", "ready", "place"]) (sc := defScope s_levels) (own := [("at", 4)]) (by first | decide +kernel | rfl)) (bg_name 4 nd) (bt_of fun _ _ _ _ _ => (ct_w (cw_and (ct_isN (ma := .bw) (mb := .bw) (ce_ix (ma := .bw) (mb := .bw) (by decide) (ce_bw 1) (ce_bw 4)) ce_non) (cw_and1 (ct_val (md := .bw) (ce_tobw (md := .deep) (ce_cd c_is_ready hr tk0 (ca_cons (ce_ix (ma := .bw) (mb := .bw) (by decide) (ce_bw 0) (ce_bw 4)) (ca_cons (ce_bw 1) ca_nil))))))))) (be_of fun _ _ _ _ _ => (ce_ck (md := .fz) (ce_var 4)))) (css_cons (cs_for (ms1 := [some .fz, some .deep, some .fz, some .fz, none, some .fz, none]) (ms3 := [some .fz, some .deep, some .fz, some .fz, none, some .fz, none]) po_of rfl (ci_of (cix_seq (md := .fz) rfl (ce_frz (md := .deep) 5))) (cg_name 4 nd) (css_weak (ms2 := [some .fz, some .deep, some .fz, some .fz, none, some .fz, none]) (css_one (cs_stx (ma := .deep) 1 (by first | exact Or.inl rfl | exact Or.inr rfl) (ce_ck (md := .fz) (ce_var 2)) (ce_bw 4) nx_vr)))) (css_one (cs_set (md := .fz) 3 nd (ce_gt (ma := .bw) (mb := .bw) (ce_len z_len (ca_cons (ce_bw 5) ca_nil)) ce_int)))))))) (css_one (cs_ret (ms2 := []) (ce_mv 1)))))))⟩
theorem ok_ring {f : Addr} {fd : FuncData} (F : DefAt K mg "ring" ["board"] s_ring f fd) (c_levels : Worth P w K mg base cl "levels" 3 1 .deep m_levels) (z_len : mg "len" = none) (z_range : mg "range" = none) : Worth P w K mg base cl "ring" 4 1 .deep m_ring := worth_of F sc_ring (by decide) fun cdv A outer s H E hr => by
  have nd := sc_ring.nd
  exact ⟨_, (css_cons (cs_set (md := .deep) 1 nd (ce_cd c_levels hr tk_of (ca_cons (ce_bw 0) ca_nil))) (css_one (cs_ret (ms2 := []) (ce_lc (n := 3) (md := .deep) (mi := .fz) rfl nd (cix_r1 (md := .fz) z_range (ca_cons (ce_len z_len (ca_cons (ce_bw 0) ca_nil)) ca_nil)) (blkOk_by (N := ["board", "found", "at"]) (sc := defScope s_ring) (own := [("at", 2)]) (by first | decide +kernel | rfl)) (bg_name 2 nd) (bt_of fun _ _ _ _ _ => (ct_isN (ma := .bw) (mb := .bw) (ce_ix (ma := .bw) (mb := .bw) (by decide) (ce_bw 1) (ce_bw 2)) ce_non)) (be_of fun _ _ _ _ _ => (ce_ck (md := .fz) (ce_var 2)))))))⟩
theorem ok_stays {f : Addr} {fd : FuncData} (F : DefAt K mg "stays" ["board"] s_stays f fd) (c_goals_of : Worth P w K mg base cl "goals_of" 1 1 .deep m_goals_of) (c_levels : Worth P w K mg base cl "levels" 3 1 .deep m_levels) (z_enumerate : mg "enumerate" = none) (z_len : mg "len" = none) (z_range : mg "range" = none) : Worth P w K mg base cl "stays" 4 1 .deep m_stays := worth_of F sc_stays (by decide) fun cdv A outer s H E hr => by
  have nd := sc_stays.nd
  exact ⟨_, (css_cons (cs_set (md := .deep) 1 nd (ce_cd c_levels hr tk_of (ca_cons (ce_bw 0) ca_nil))) (css_cons (cs_set (md := .deep) 2 nd (ce_lsD ca_nil)) (css_cons (cs_for (ms1 := [some .fz, some .deep, some .deep, none, none, none, none]) (ms3 := [some .fz, some .deep, some .deep, none, none, none, none]) po_of rfl (ci_r1 z_range (ca_cons (ce_len z_len (ca_cons (ce_bw 0) ca_nil)) ca_nil)) (cg_name 3 nd) (css_weak (ms2 := [some .fz, some .deep, some .deep, none, none, none, none]) (css_cons (cs_setLc (n := 7) (md := .deep) (mi := .fz) 4 rfl nd (cix_en (md := .fz) z_enumerate rfl (ca_cons (ce_deep (ce_cd c_goals_of hr tk_of (ca_cons (ce_ix (ma := .bw) (mb := .bw) (by decide) (ce_bw 0) (ce_bw 3)) ca_nil))) ca_nil)) (blkOk_by (N := ["board", "found", "told", "at", "staying", "k", "goal"]) (sc := defScope s_stays) (own := [("k", 5), ("goal", 6)]) (by first | decide +kernel | rfl)) (bg_tup rfl (bgs_cons (bg_name 5 nd) (bgs_cons (bg_name 6 nd) bgs_nil))) (bt_of fun _ _ _ _ _ => (ct_isN (ma := .bw) (mb := .bw) (ce_ix (ma := .bw) (mb := .bw) (by decide) (ce_bw 1) (ce_bw 6)) ce_non)) (be_of fun _ _ _ _ _ => (ce_ck (md := .fz) (ce_var 5)))) (css_one (cs_if (ms2 := [some .fz, some .deep, some .deep, some .fz, some .deep, none, none]) (ct_isN (ma := .bw) (mb := .bw) (ce_ix (ma := .bw) (mb := .bw) (by decide) (ce_bw 1) (ce_bw 3)) ce_non) (css_one (cs_lm (ma := .deep) 2 PySem.F.slot_list_append PySem.F.type_list_append mt_append (lst_app (by first | exact Or.inl rfl | exact Or.inr rfl)) (by first | exact Or.inl rfl | exact Or.inr rfl) (ca_cons (ce_ck (md := .bw) (ce_ix (ma := .bw) (mb := .bw) (by decide) (ce_bw 4) ce_int)) ca_nil))) (css_one (cs_lm (ma := .deep) 2 PySem.F.slot_list_append PySem.F.type_list_append mt_append (lst_app (by first | exact Or.inl rfl | exact Or.inr rfl)) (by first | exact Or.inl rfl | exact Or.inr rfl) (ca_cons ce_non ca_nil)))))))) (css_one (cs_ret (ms2 := []) (ce_mv 2))))))⟩
theorem ok__law_cell {f : Addr} {fd : FuncData} (F : DefAt K mg "_law_cell" ["_law_script", "_law_k"] s__law_cell f fd) (z_len : mg "len" = none) : Worth P w K mg base cl "_law_cell" 1 2 .deep m__law_cell := worth_of F sc__law_cell (by decide) fun cdv A outer s H E hr => by
  have nd := sc__law_cell.nd
  exact ⟨_, (css_cons (cs_if (ms2 := [some .fz, some .fz, none]) (ct_lt (ma := .bw) (mb := .bw) (ce_bw 1) (ce_len z_len (ca_cons (ce_bw 0) ca_nil))) (css_one (cs_ret (ms2 := [some .fz, some .fz, none]) (ce_ck (md := .fz) (ce_ix (ma := .fz) (mb := .bw) (by decide) (ce_var 0) (ce_bw 1))))) css_nil) (css_cons (cs_set (md := .fz) 2 nd (ce_add (ma := .bw) (mb := .bw) (ce_mul (ma := .bw) (mb := .bw) (ce_bw 1) ce_int) ce_int)) (css_cons (cs_if (ms2 := [some .fz, some .fz, some .fz]) (ct_gt (ma := .bw) (mb := .bw) (ce_len z_len (ca_cons (ce_bw 0) ca_nil)) ce_int) (css_one (cs_set (md := .fz) 2 nd (ce_add (ma := .bw) (mb := .bw) (ce_mul (ma := .bw) (mb := .bw) (ce_mod (ma := .bw) (mb := .bw) (ce_ix (ma := .bw) (mb := .bw) (by decide) (ce_bw 0) (ce_mod (ma := .bw) (mb := .bw) (ce_mul (ma := .bw) (mb := .bw) (ce_bw 1) ce_int) (ce_len z_len (ca_cons (ce_bw 0) ca_nil)))) ce_int) ce_int) (ce_mul (ma := .bw) (mb := .bw) (ce_bw 1) ce_int)))) css_nil) (css_one (cs_ret (ms2 := []) (ce_mod (ma := .bw) (mb := .bw) (ce_mul (ma := .bw) (mb := .bw) (ce_bw 2) (ce_bw 2)) ce_int))))))⟩
theorem ok__law_mixed {f : Addr} {fd : FuncData} (F : DefAt K mg "_law_mixed" ["_law_cell_here", "_law_many"] s__law_mixed f fd)  : Worth P w K mg base cl "_law_mixed" 1 2 .deep m__law_mixed := worth_of F sc__law_mixed (by decide) fun cdv A outer s H E hr => by
  have nd := sc__law_mixed.nd
  exact ⟨_, (css_one (cs_ret (ms2 := []) (ce_mod (ma := .bw) (mb := .bw) (ce_div (ma := .bw) (mb := .bw) (ce_mod (ma := .bw) (mb := .bw) (ce_mul (ma := .bw) (mb := .bw) (ce_mod (ma := .bw) (mb := .bw) (ce_bw 0) (ce_pow (ma := .bw) (mb := .bw) ce_int ce_int)) ce_int) (ce_pow (ma := .bw) (mb := .bw) ce_int ce_int)) (ce_pow (ma := .bw) (mb := .bw) ce_int ce_int)) (ce_bw 1))))⟩
theorem ok__law_goal {f : Addr} {fd : FuncData} (F : DefAt K mg "_law_goal" ["_law_bits", "_law_k", "_law_n", "_law_mode"] s__law_goal f fd) (z_max : mg "max" = none) : Worth P w K mg base cl "_law_goal" 1 4 .deep m__law_goal := worth_of F sc__law_goal (by decide) fun cdv A outer s H E hr => by
  have nd := sc__law_goal.nd
  exact ⟨_, (css_cons (cs_if (ms2 := [some .fz, some .fz, some .fz, some .fz]) (ct_eq (ma := .bw) (mb := .bw) hr (ce_bw 3) ce_int) (css_one (cs_ret (ms2 := [some .fz, some .fz, some .fz, some .fz]) (ce_add (ma := .bw) (mb := .bw) (ce_add (ma := .bw) (mb := .bw) (ce_bw 1) ce_int) (ce_mod (ma := .bw) (mb := .bw) (ce_bw 0) (ce_sub (ma := .bw) (mb := .bw) (ce_sub (ma := .bw) (mb := .bw) (ce_bw 2) ce_int) (ce_bw 1)))))) css_nil) (css_cons (cs_if (ms2 := [some .fz, some .fz, some .fz, some .fz]) (ct_eq (ma := .bw) (mb := .bw) hr (ce_bw 3) ce_int) (css_one (cs_ret (ms2 := [some .fz, some .fz, some .fz, some .fz]) (ce_mod (ma := .bw) (mb := .bw) (ce_add (ma := .bw) (mb := .bw) (ce_sub (ma := .bw) (mb := .bw) (ce_add (ma := .bw) (mb := .bw) (ce_bw 1) (ce_bw 2)) ce_int) (ce_mod (ma := .bw) (mb := .bw) (ce_bw 0) ce_int)) (ce_bw 2)))) css_nil) (css_cons (cs_if (ms2 := [some .fz, some .fz, some .fz, some .fz]) (ct_eq (ma := .bw) (mb := .bw) hr (ce_bw 3) ce_int) (css_one (cs_ret (ms2 := [some .fz, some .fz, some .fz, some .fz]) (ce_max2 rfl z_max (ca_cons (ce_mod (ma := .bw) (mb := .bw) (ce_bw 0) (ce_bw 2)) (ca_cons (ce_mod (ma := .bw) (mb := .bw) (ce_div (ma := .bw) (mb := .bw) (ce_bw 0) ce_int) (ce_bw 2)) ca_nil))))) css_nil) (css_one (cs_ret (ms2 := []) (ce_mod (ma := .bw) (mb := .bw) (ce_bw 0) (ce_bw 2)))))))⟩
theorem ok__law_place {f : Addr} {fd : FuncData} (F : DefAt K mg "_law_place" ["_law_script", "_law_k", "_law_n", "_law_mode"] s__law_place f fd) (c__law_cell : Worth P w K mg base cl "_law_cell" 1 2 .deep m__law_cell) (c__law_goal : Worth P w K mg base cl "_law_goal" 1 4 .deep m__law_goal) (c__law_mixed : Worth P w K mg base cl "_law_mixed" 1 2 .deep m__law_mixed) (z_enumerate : mg "enumerate" = none) (z_range : mg "range" = none) : Worth P w K mg base cl "_law_place" 2 4 .deep m__law_place := worth_of F sc__law_place (by decide) fun cdv A outer s H E hr => by
  have nd := sc__law_place.nd
  exact ⟨_, (css_cons (cs_set (md := .fz) 4 nd (ce_add (ma := .bw) (mb := .bw) (ce_mul (ma := .bw) (mb := .bw) (ce_tobw (md := .deep) (ce_cd c__law_cell hr tk_of (ca_cons (ce_bw 0) (ca_cons (ce_add (ma := .bw) (mb := .bw) ce_int (ce_bw 1)) ca_nil)))) (ce_add (ma := .bw) (mb := .bw) (ce_mul (ma := .bw) (mb := .bw) (ce_bw 1) (ce_bw 1)) ce_int)) (ce_bw 1))) (css_cons (cs_set (md := .deep) 5 nd (ce_cd c__law_mixed hr tk_of (ca_cons (ce_bw 4) (ca_cons (ce_pow (ma := .bw) (mb := .bw) ce_int ce_int) ca_nil)))) (css_cons (cs_if (ms2 := [some .fz, some .fz, some .fz, some .fz, some .fz, some .deep, none, none, none, none]) (ct_w (cw_or (ct_eq (ma := .bw) (mb := .bw) hr (ce_mod (ma := .bw) (mb := .bw) (ce_bw 5) ce_int) ce_int) (cw_or1 (ct_w (cw_and (ct_eq (ma := .bw) (mb := .bw) hr (ce_bw 3) ce_int) (cw_and1 (ct_eq (ma := .bw) (mb := .bw) hr (ce_bw 1) (ce_sub (ma := .bw) (mb := .bw) (ce_bw 2) ce_int)))))))) (css_one (cs_ret (ms2 := [some .fz, some .fz, some .fz, some .fz, some .fz, some .deep, none, none, none, none]) (ce_tp (md := .deep) (ca_cons ce_str (ca_cons (ce_tp (md := .deep) (ca_cons (ce_sub (ma := .bw) (mb := .bw) (ce_mod (ma := .bw) (mb := .bw) (ce_div (ma := .bw) (mb := .bw) (ce_bw 5) ce_int) ce_int) ce_int) (ca_cons ce_int ca_nil))) ca_nil))))) css_nil) (css_cons (cs_set (md := .fz) 6 nd (ce_add (ma := .bw) (mb := .bw) ce_int (ce_mod (ma := .bw) (mb := .bw) (ce_div (ma := .bw) (mb := .bw) (ce_bw 5) ce_int) ce_int))) (css_cons (cs_if (ms2 := [some .fz, some .fz, some .fz, some .fz, some .fz, some .deep, some .fz, none, none, none]) (ct_lt (ma := .bw) (mb := .bw) (ce_mod (ma := .bw) (mb := .bw) (ce_bw 5) ce_int) ce_int) (css_cons (cs_set (md := .fz) 6 nd (ce_add (ma := .bw) (mb := .bw) ce_int (ce_mod (ma := .bw) (mb := .bw) (ce_div (ma := .bw) (mb := .bw) (ce_bw 5) ce_int) ce_int))) (css_one (cs_if (ms2 := [some .fz, some .fz, some .fz, some .fz, some .fz, some .deep, some .fz, none, none, none]) (ct_eq (ma := .bw) (mb := .bw) hr (ce_mod (ma := .bw) (mb := .bw) (ce_div (ma := .bw) (mb := .bw) (ce_bw 5) ce_int) ce_int) ce_int) (css_one (cs_set (md := .fz) 6 nd (ce_add (ma := .bw) (mb := .bw) ce_int (ce_mod (ma := .bw) (mb := .bw) (ce_div (ma := .bw) (mb := .bw) (ce_bw 5) ce_int) ce_int)))) css_nil))) css_nil) (css_cons (cs_setLc (n := 10) (md := .deep) (mi := .fz) 7 rfl nd (cix_r1 (md := .fz) z_range (ca_cons (ce_bw 6) ca_nil)) (blkOk_by (N := ["_law_script", "_law_k", "_law_n", "_law_mode", "_law_cell_here", "_law_bits", "_law_many", "_law_goals_here", "_law_j", "_law_goal_here"]) (sc := defScope s__law_place) (own := [("_law_j", 8)]) (by first | decide +kernel | rfl)) (bg_name 8 nd) bt_nil (be_of fun _ _ _ _ _ => (ce_cd c__law_goal hr tk0 (ca_cons (ce_tobw (md := .deep) (ce_cd c__law_mixed hr tk0 (ca_cons (ce_add (ma := .bw) (mb := .bw) (ce_mul (ma := .bw) (mb := .bw) (ce_bw 4) (ce_add (ma := .bw) (mb := .bw) (ce_mul (ma := .bw) (mb := .bw) (ce_bw 8) (ce_bw 8)) ce_int)) (ce_bw 8)) (ca_cons (ce_pow (ma := .bw) (mb := .bw) ce_int ce_int) ca_nil)))) (ca_cons (ce_bw 1) (ca_cons (ce_bw 2) (ca_cons (ce_bw 3) ca_nil))))))) (css_cons (cs_if (ms2 := [some .fz, some .fz, some .fz, some .fz, some .fz, some .deep, some .fz, some .deep, none, none]) (ct_gt (ma := .bw) (mb := .bw) (ce_mod (ma := .bw) (mb := .bw) (ce_bw 5) ce_int) ce_int) (css_one (cs_ret (ms2 := [some .fz, some .fz, some .fz, some .fz, some .fz, some .deep, some .fz, some .deep, none, none]) (ce_tp (md := .deep) (ca_cons ce_str (ca_cons (ce_add (ma := .bw) (mb := .bw) ce_int (ce_mod (ma := .bw) (mb := .bw) (ce_div (ma := .bw) (mb := .bw) (ce_bw 5) ce_int) ce_int)) (ca_cons (ce_mv 7) ca_nil)))))) css_nil) (css_one (cs_ret (ms2 := []) (ce_tp (md := .deep) (ca_cons ce_str (ca_cons (ce_tp (md := .deep) (ca_cons (ce_mod (ma := .bw) (mb := .bw) (ce_div (ma := .bw) (mb := .bw) (ce_bw 5) ce_int) ce_int) (ca_cons ce_int ca_nil))) (ca_cons (ce_lc (n := 10) (md := .deep) (mi := .fz) rfl nd (cix_en (md := .fz) z_enumerate rfl (ca_cons (ce_frz (md := .deep) 7) ca_nil)) (blkOk_by (N := ["_law_script", "_law_k", "_law_n", "_law_mode", "_law_cell_here", "_law_bits", "_law_many", "_law_goals_here", "_law_j", "_law_goal_here"]) (sc := defScope s__law_place) (own := [("_law_j", 8), ("_law_goal_here", 9)]) (by first | decide +kernel | rfl)) (bg_tup rfl (bgs_cons (bg_name 8 nd) (bgs_cons (bg_name 9 nd) bgs_nil))) bt_nil (be_of fun _ _ _ _ _ => (ce_tp (md := .deep) (ca_cons (ce_add (ma := .bw) (mb := .bw) ce_int (ce_mod (ma := .bw) (mb := .bw) (ce_div (ma := .bw) (mb := .bw) (ce_bw 5) (ce_add (ma := .bw) (mb := .bw) ce_int (ce_bw 8))) ce_int)) (ca_cons (ce_ck (md := .fz) (ce_var 9)) ca_nil))))) ca_nil)))))))))))))⟩
theorem ok__law_board {f : Addr} {fd : FuncData} (F : DefAt K mg "_law_board" ["_law_script"] s__law_board f fd) (c__law_cell : Worth P w K mg base cl "_law_cell" 1 2 .deep m__law_cell) (c__law_place : Worth P w K mg base cl "_law_place" 2 4 .deep m__law_place) (z_range : mg "range" = none) : Worth P w K mg base cl "_law_board" 3 1 .deep m__law_board := worth_of F sc__law_board (by decide) fun cdv A outer s H E hr => by
  have nd := sc__law_board.nd
  exact ⟨_, (css_cons (cs_set (md := .fz) 1 nd (ce_add (ma := .bw) (mb := .bw) ce_int (ce_mod (ma := .bw) (mb := .bw) (ce_tobw (md := .deep) (ce_cd c__law_cell hr tk_of (ca_cons (ce_bw 0) (ca_cons ce_int ca_nil)))) ce_int))) (css_cons (cs_if (ms2 := [some .fz, some .fz, none]) (ct_eq (ma := .bw) (mb := .bw) hr (ce_mod (ma := .bw) (mb := .bw) (ce_div (ma := .bw) (mb := .bw) (ce_tobw (md := .deep) (ce_cd c__law_cell hr tk_of (ca_cons (ce_bw 0) (ca_cons ce_int ca_nil)))) ce_int) ce_int) ce_int) (css_one (cs_set (md := .fz) 1 nd (ce_add (ma := .bw) (mb := .bw) ce_int (ce_mod (ma := .bw) (mb := .bw) (ce_div (ma := .bw) (mb := .bw) (ce_tobw (md := .deep) (ce_cd c__law_cell hr tk_of (ca_cons (ce_bw 0) (ca_cons ce_int ca_nil)))) ce_int) ce_int)))) css_nil) (css_one (cs_ret (ms2 := []) (ce_lc (n := 3) (md := .deep) (mi := .fz) rfl nd (cix_r1 (md := .fz) z_range (ca_cons (ce_bw 1) ca_nil)) (blkOk_by (N := ["_law_script", "_law_n", "_law_k"]) (sc := defScope s__law_board) (own := [("_law_k", 2)]) (by first | decide +kernel | rfl)) (bg_name 2 nd) bt_nil (be_of fun _ _ _ _ _ => (ce_cd c__law_place hr tk0 (ca_cons (ce_bw 0) (ca_cons (ce_bw 2) (ca_cons (ce_bw 1) (ca_cons (ce_mod (ma := .bw) (mb := .bw) (ce_tobw (md := .deep) (ce_cd c__law_cell hr tk0 (ca_cons (ce_bw 0) (ca_cons ce_int ca_nil)))) ce_int) ca_nil)))))))))))⟩
theorem ok__law_goals {f : Addr} {fd : FuncData} (F : DefAt K mg "_law_goals" ["_law_place_here"] s__law_goals f fd)  : Worth P w K mg base cl "_law_goals" 1 1 .fz m__law_goals := worth_of F sc__law_goals (by decide) fun cdv A outer s H E hr => by
  have nd := sc__law_goals.nd
  exact ⟨_, (css_cons (cs_if (ms2 := [some .fz, none]) (ct_eq (ma := .bw) (mb := .bw) hr (ce_ix (ma := .bw) (mb := .bw) (by decide) (ce_bw 0) ce_int) ce_str) (css_one (cs_ret (ms2 := [some .fz, none]) (ce_own (ce_ls ca_nil)))) css_nil) (css_cons (cs_if (ms2 := [some .fz, none]) (ct_eq (ma := .bw) (mb := .bw) hr (ce_ix (ma := .bw) (mb := .bw) (by decide) (ce_bw 0) ce_int) ce_str) (css_one (cs_ret (ms2 := [some .fz, none]) (ce_ix (ma := .fz) (mb := .bw) (by decide) (ce_var 0) ce_int))) css_nil) (css_one (cs_ret (ms2 := []) (ce_own (ce_lc (n := 2) (md := .fz) (mi := .fz) rfl nd (cix_seq (md := .fz) rfl (ce_ix (ma := .fz) (mb := .bw) (by decide) (ce_var 0) ce_int)) (blkOk_by (N := ["_law_place_here", "_law_pair"]) (sc := defScope s__law_goals) (own := [("_law_pair", 1)]) (by first | decide +kernel | rfl)) (bg_name 1 nd) bt_nil (be_of fun _ _ _ _ _ => (ce_ix (ma := .fz) (mb := .bw) (by decide) (ce_var 1) ce_int))))))))⟩
theorem ok__law_whole {f : Addr} {fd : FuncData} (F : DefAt K mg "_law_whole" ["_law_found"] s__law_whole f fd) (z_bool : mg "bool" = none) (z_int : mg "int" = none) (z_isinstance : mg "isinstance" = none) : Worth P w K mg base cl "_law_whole" 1 1 .deep m__law_whole := worth_of F sc__law_whole (by decide) fun cdv A outer s H E hr => by
  have nd := sc__law_whole.nd
  exact ⟨_, (css_one (cs_ret (ms2 := []) (ce_and (ma := .bw) (ce_isT (ma := .bw) z_isinstance z_int (ce_bw 0)) (ce_and1 (ce_not (ma := .bw) (ce_isT (ma := .bw) z_isinstance z_bool (ce_bw 0)))))))⟩
theorem ok__law_ends_from {f : Addr} {fd : FuncData} (F : DefAt K mg "_law_ends_from" ["_law_script", "_law_board_here", "_law_found", "_law_at"] s__law_ends_from f fd) (c__law_cell : Worth P w K mg base cl "_law_cell" 1 2 .deep m__law_cell) (c__law_goals : Worth P w K mg base cl "_law_goals" 1 1 .fz m__law_goals) (c__law_mixed : Worth P w K mg base cl "_law_mixed" 1 2 .deep m__law_mixed) (c__law_whole : Worth P w K mg base cl "_law_whole" 1 1 .deep m__law_whole) (z_len : mg "len" = none) (z_min : mg "min" = none) (z_range : mg "range" = none) : Worth P w K mg base cl "_law_ends_from" 2 4 .deep m__law_ends_from := worth_of F sc__law_ends_from (by decide) fun cdv A outer s H E hr => by
  have nd := sc__law_ends_from.nd
  exact ⟨_, (css_cons (cs_for (ms1 := [some .fz, some .fz, some .fz, some .fz, none, none, none, none, none]) (ms3 := [some .fz, some .fz, some .fz, some .fz, none, none, none, none, none]) po_of rfl (ci_r1 z_range (ca_cons (ce_ix (ma := .bw) (mb := .bw) (by decide) (ce_bw 2) (ce_bw 3)) ca_nil)) (cg_name 4 nd) (css_weak (ms2 := [some .fz, some .fz, some .fz, some .fz, none, none, none, none, none]) (css_cons (cs_set (md := .fz) 5 nd (ce_cw c__law_goals hr tk_of (ca_cons (ce_ix (ma := .fz) (mb := .bw) (by decide) (ce_var 1) (ce_bw 3)) ca_nil))) (css_cons (cs_if (ms2 := [some .fz, some .fz, some .fz, some .fz, some .fz, some .fz, none, none, none]) (ct_eq (ma := .bw) (mb := .bw) hr (ce_bw 5) (ce_tobw (md := .own) (ce_ls ca_nil))) (css_one (cs_ret (ms2 := [some .fz, some .fz, some .fz, some .fz, some .fz, some .fz, none, none, none]) ce_bl)) css_nil) (css_cons (cs_if (ms2 := [some .fz, some .fz, some .fz, some .fz, some .fz, some .fz, some .fz, none, none]) (ct_eq (ma := .bw) (mb := .bw) hr (ce_ix (ma := .bw) (mb := .bw) (by decide) (ce_ix (ma := .bw) (mb := .bw) (by decide) (ce_bw 1) (ce_bw 3)) ce_int) ce_str) (css_one (cs_set (md := .fz) 6 nd (ce_ix (ma := .fz) (mb := .bw) (by decide) (ce_var 5) (ce_mod (ma := .bw) (mb := .bw) (ce_tobw (md := .deep) (ce_cd c__law_mixed hr tk_of (ca_cons (ce_add (ma := .bw) (mb := .bw) (ce_tobw (md := .deep) (ce_cd c__law_cell hr tk_of (ca_cons (ce_bw 0) (ca_cons (ce_add (ma := .bw) (mb := .bw) ce_int (ce_bw 4)) ca_nil)))) (ce_bw 3)) (ca_cons (ce_pow (ma := .bw) (mb := .bw) ce_int ce_int) ca_nil)))) (ce_len z_len (ca_cons (ce_bw 5) ca_nil)))))) (css_weak (ms2 := [some .fz, some .fz, some .fz, some .fz, some .fz, some .fz, some .fz, none, none]) (css_cons (cs_set (md := .deep) 7 nd (ce_lc (n := 9) (md := .deep) (mi := .fz) rfl nd (cix_seq (md := .fz) rfl (ce_var 5)) (blkOk_by (N := ["_law_script", "_law_board_here", "_law_found", "_law_at", "_law_step", "_law_goals_here", "_law_goal_here", "_law_known", "_law_other"]) (sc := defScope s__law_ends_from) (own := [("_law_other", 8)]) (by first | decide +kernel | rfl)) (bg_name 8 nd) (bt_of fun _ _ _ _ _ => (ct_noN (ma := .bw) (mb := .bw) (ce_ix (ma := .bw) (mb := .bw) (by decide) (ce_bw 2) (ce_bw 8)) ce_non)) (be_of fun _ _ _ _ _ => (ce_ck (md := .fz) (ce_ix (ma := .fz) (mb := .bw) (by decide) (ce_var 2) (ce_bw 8)))))) (css_cons (cs_if (ms2 := [some .fz, some .fz, some .fz, some .fz, some .fz, some .fz, none, some .deep, none]) (ct_eq (ma := .bw) (mb := .bw) hr (ce_bw 7) (ce_tobw (md := .own) (ce_ls ca_nil))) (css_one (cs_ret (ms2 := [some .fz, some .fz, some .fz, some .fz, some .fz, some .fz, none, some .deep, none]) ce_bl)) css_nil) (css_one (cs_set (md := .fz) 6 nd (ce_ix (ma := .fz) (mb := .bw) (by decide) (ce_own (ce_lc (n := 9) (md := .fz) (mi := .fz) rfl nd (cix_seq (md := .fz) rfl (ce_var 5)) (blkOk_by (N := ["_law_script", "_law_board_here", "_law_found", "_law_at", "_law_step", "_law_goals_here", "_law_goal_here", "_law_known", "_law_other"]) (sc := defScope s__law_ends_from) (own := [("_law_other", 8)]) (by first | decide +kernel | rfl)) (bg_name 8 nd) (bt_of fun _ _ _ _ _ => (ct_eq (ma := .bw) (mb := .bw) hr (ce_ix (ma := .bw) (mb := .bw) (by decide) (ce_bw 2) (ce_bw 8)) (ce_minL rfl z_min (ca_cons (ce_bw 7) ca_nil)))) (be_of fun _ _ _ _ _ => (ce_var 8)))) ce_int))))))) (css_cons (cs_if (ms2 := [some .fz, some .fz, some .fz, some .fz, some .fz, some .fz, some .fz, none, none]) (ct_w (cw_or (ct_not (ct_val (md := .bw) (ce_tobw (md := .deep) (ce_cd c__law_whole hr tk_of (ca_cons (ce_ix (ma := .bw) (mb := .bw) (by decide) (ce_bw 2) (ce_bw 6)) ca_nil))))) (cw_or1 (ct_ge (ma := .bw) (mb := .bw) (ce_ix (ma := .bw) (mb := .bw) (by decide) (ce_bw 2) (ce_bw 6)) (ce_ix (ma := .bw) (mb := .bw) (by decide) (ce_bw 2) (ce_bw 3)))))) (css_one (cs_ret (ms2 := [some .fz, some .fz, some .fz, some .fz, some .fz, some .fz, some .fz, none, none]) ce_bl)) css_nil) (css_one (cs_set (md := .fz) 3 nd (ce_var 6))))))))) (css_one (cs_ret (ms2 := []) (ce_eq (ma := .bw) (mb := .bw) hr (ce_ix (ma := .bw) (mb := .bw) (by decide) (ce_ix (ma := .bw) (mb := .bw) (by decide) (ce_bw 1) (ce_bw 3)) ce_int) ce_str))))⟩
theorem ok__law_stays_from {f : Addr} {fd : FuncData} (F : DefAt K mg "_law_stays_from" ["_law_script", "_law_board_here", "_law_left", "_law_staying", "_law_at"] s__law_stays_from f fd) (c__law_cell : Worth P w K mg base cl "_law_cell" 1 2 .deep m__law_cell) (c__law_goals : Worth P w K mg base cl "_law_goals" 1 1 .fz m__law_goals) (c__law_mixed : Worth P w K mg base cl "_law_mixed" 1 2 .deep m__law_mixed) (c__law_whole : Worth P w K mg base cl "_law_whole" 1 1 .deep m__law_whole) (z_len : mg "len" = none) (z_range : mg "range" = none) : Worth P w K mg base cl "_law_stays_from" 2 5 .deep m__law_stays_from := worth_of F sc__law_stays_from (by decide) fun cdv A outer s H E hr => by
  have nd := sc__law_stays_from.nd
  exact ⟨_, (css_cons (cs_for (ms1 := [some .fz, some .fz, some .fz, some .fz, some .fz, none, none, none]) (ms3 := [some .fz, some .fz, some .fz, some .fz, some .fz, none, none, none]) po_of rfl (ci_r1 z_range (ca_cons (ce_add (ma := .bw) (mb := .bw) ce_int (ce_len z_len (ca_cons (ce_slG (md := .bw) (by first | exact Or.inl rfl | exact Or.inr rfl) (ce_bw 0) co_no (co_so ce_int)) ca_nil))) ca_nil)) (cg_name 5 nd) (css_weak (ms2 := [some .fz, some .fz, some .fz, some .fz, some .fz, none, none, none]) (css_cons (cs_set (md := .fz) 6 nd (ce_cw c__law_goals hr tk_of (ca_cons (ce_ix (ma := .fz) (mb := .bw) (by decide) (ce_var 1) (ce_bw 4)) ca_nil))) (css_cons (cs_if (ms2 := [some .fz, some .fz, some .fz, some .fz, some .fz, some .fz, some .fz, none]) (ct_w (cw_or (ct_nin (ma := .bw) (mb := .bw) (ce_bw 4) (ce_bw 2)) (cw_or1 (ct_eq (ma := .bw) (mb := .bw) hr (ce_bw 6) (ce_tobw (md := .own) (ce_ls ca_nil)))))) (css_one (cs_ret (ms2 := [some .fz, some .fz, some .fz, some .fz, some .fz, some .fz, some .fz, none]) ce_bl)) css_nil) (css_cons (cs_set (md := .fz) 7 nd (ce_mod (ma := .bw) (mb := .bw) (ce_tobw (md := .deep) (ce_cd c__law_mixed hr tk_of (ca_cons (ce_add (ma := .bw) (mb := .bw) (ce_mul (ma := .bw) (mb := .bw) (ce_tobw (md := .deep) (ce_cd c__law_cell hr tk_of (ca_cons (ce_bw 0) (ca_cons (ce_add (ma := .bw) (mb := .bw) ce_int (ce_bw 5)) ca_nil)))) ce_int) (ce_bw 4)) (ca_cons (ce_pow (ma := .bw) (mb := .bw) ce_int ce_int) ca_nil)))) (ce_len z_len (ca_cons (ce_bw 6) ca_nil)))) (css_cons (cs_if (ms2 := [some .fz, some .fz, some .fz, some .fz, some .fz, some .fz, some .fz, some .fz]) (ct_eq (ma := .bw) (mb := .bw) hr (ce_ix (ma := .bw) (mb := .bw) (by decide) (ce_ix (ma := .bw) (mb := .bw) (by decide) (ce_bw 1) (ce_bw 4)) ce_int) ce_str) (css_one (cs_set (md := .fz) 7 nd (ce_ix (ma := .fz) (mb := .bw) (by decide) (ce_var 3) (ce_bw 4)))) css_nil) (css_cons (cs_if (ms2 := [some .fz, some .fz, some .fz, some .fz, some .fz, some .fz, some .fz, some .fz]) (ct_w (cw_or (ct_not (ct_val (md := .bw) (ce_tobw (md := .deep) (ce_cd c__law_whole hr tk_of (ca_cons (ce_bw 7) ca_nil))))) (cw_or (ct_lt (ma := .bw) (mb := .bw) (ce_bw 7) ce_int) (cw_or1 (ct_ge (ma := .bw) (mb := .bw) (ce_bw 7) (ce_len z_len (ca_cons (ce_bw 6) ca_nil))))))) (css_one (cs_ret (ms2 := [some .fz, some .fz, some .fz, some .fz, some .fz, some .fz, some .fz, some .fz]) ce_bl)) css_nil) (css_one (cs_set (md := .fz) 4 nd (ce_ix (ma := .fz) (mb := .bw) (by decide) (ce_var 6) (ce_bw 7))))))))))) (css_one (cs_ret (ms2 := []) (ce_in (ma := .bw) (mb := .bw) (ce_bw 4) (ce_bw 2)))))⟩
theorem ok_law {f : Addr} {fd : FuncData} (F : DefAt K mg "law" ["_law_script"] s_law f fd) (c__law_board : Worth P w K mg base cl "_law_board" 3 1 .deep m__law_board) (c__law_ends_from : Worth P w K mg base cl "_law_ends_from" 2 4 .deep m__law_ends_from) (c__law_stays_from : Worth P w K mg base cl "_law_stays_from" 2 5 .deep m__law_stays_from) (c__law_whole : Worth P w K mg base cl "_law_whole" 1 1 .deep m__law_whole) (c_levels : Worth P w K mg base cl "levels" 3 1 .deep m_levels) (c_ring : Worth P w K mg base cl "ring" 4 1 .deep m_ring) (c_stays : Worth P w K mg base cl "stays" 4 1 .deep m_stays) (z_isinstance : mg "isinstance" = none) (z_len : mg "len" = none) (z_list : mg "list" = none) (z_range : mg "range" = none) : FnOk P w K mg base (L2.CX P w) 5 f fd ["_law_script"] (spM K cl 1 .deep m_law) := def_ok F.1 sc_law (by decide) fun cdv A outer s H E hr => by
  have nd := sc_law.nd
  exact ⟨_, (css_cons (cs_set (md := .deep) 1 nd (ce_cd c__law_board hr tk_of (ca_cons (ce_bw 0) ca_nil))) (css_cons (cs_set (md := .deep) 2 nd (ce_cd c_levels hr tk_of (ca_cons (ce_tobw (md := .own) (ce_list z_list (ca_cons (ce_frz (md := .deep) 1) ca_nil))) ca_nil))) (css_cons (cs_set (md := .deep) 3 nd (ce_cd c_ring hr tk_of (ca_cons (ce_tobw (md := .own) (ce_list z_list (ca_cons (ce_var 1) ca_nil))) ca_nil))) (css_cons (cs_set (md := .deep) 4 nd (ce_cd c_stays hr tk_of (ca_cons (ce_tobw (md := .own) (ce_list z_list (ca_cons (ce_var 1) ca_nil))) ca_nil))) (css_cons (cs_if (ms2 := [some .fz, some .fz, some .deep, some .deep, some .deep, none, none, none]) (ct_w (cw_or (ct_not (ct_val (md := .bw) (ce_isT (ma := .bw) z_isinstance z_list (ce_bw 2)))) (cw_or (ct_not (ct_val (md := .bw) (ce_isT (ma := .bw) z_isinstance z_list (ce_bw 3)))) (cw_or1 (ct_not (ct_val (md := .bw) (ce_isT (ma := .bw) z_isinstance z_list (ce_bw 4)))))))) (css_one (cs_ret (ms2 := [some .fz, some .fz, some .deep, some .deep, some .deep, none, none, none]) ce_bl)) css_nil) (css_cons (cs_if (ms2 := [some .fz, some .fz, some .deep, some .deep, some .deep, none, none, none]) (ct_w (cw_or (ct_ne (ma := .bw) (mb := .bw) hr (ce_len z_len (ca_cons (ce_bw 2) ca_nil)) (ce_len z_len (ca_cons (ce_bw 1) ca_nil))) (cw_or1 (ct_ne (ma := .bw) (mb := .bw) hr (ce_len z_len (ca_cons (ce_bw 4) ca_nil)) (ce_len z_len (ca_cons (ce_bw 1) ca_nil)))))) (css_one (cs_ret (ms2 := [some .fz, some .fz, some .deep, some .deep, some .deep, none, none, none]) ce_bl)) css_nil) (css_cons (cs_for (ms1 := [some .fz, some .fz, some .deep, some .deep, some .deep, none, none, none]) (ms3 := [some .fz, some .fz, some .deep, some .deep, some .deep, none, none, none]) po_of rfl (ci_r1 z_range (ca_cons (ce_len z_len (ca_cons (ce_bw 1) ca_nil)) ca_nil)) (cg_name 5 nd) (css_weak (ms2 := [some .fz, some .fz, some .deep, some .deep, some .deep, none, none, none]) (css_cons (cs_set (md := .fz) 6 nd (ce_ix (ma := .fz) (mb := .bw) (by decide) (ce_var 1) (ce_bw 5))) (css_one (cs_if (ms2 := [some .fz, some .fz, some .deep, some .deep, some .deep, some .fz, some .fz, none]) (ct_val (md := .bw) (ce_tobw (md := .deep) (ce_cd c__law_whole hr tk_of (ca_cons (ce_ix (ma := .bw) (mb := .bw) (by decide) (ce_bw 2) (ce_bw 5)) ca_nil)))) (css_cons (cs_if (ms2 := [some .fz, some .fz, some .deep, some .deep, some .deep, some .fz, some .fz, none]) (ct_w (cw_or (ct_in (ma := .bw) (mb := .bw) (ce_bw 5) (ce_bw 3)) (cw_or1 (ct_not (ct_val (md := .bw) (ce_tobw (md := .deep) (ce_cd c__law_ends_from hr tk_of (ca_cons (ce_bw 0) (ca_cons (ce_bw 1) (ca_cons (ce_bw 2) (ca_cons (ce_bw 5) ca_nil))))))))))) (css_one (cs_ret (ms2 := [some .fz, some .fz, some .deep, some .deep, some .deep, some .fz, some .fz, none]) ce_bl)) css_nil) (css_one (cs_if (ms2 := [some .fz, some .fz, some .deep, some .deep, some .deep, some .fz, some .fz, none]) (ct_w (cw_and (ct_eq (ma := .bw) (mb := .bw) hr (ce_ix (ma := .bw) (mb := .bw) (by decide) (ce_bw 6) ce_int) ce_str) (cw_and1 (ct_ne (ma := .bw) (mb := .bw) hr (ce_tobw (md := .own) (ce_lc (n := 8) (md := .fz) (mi := .fz) rfl nd (cix_seq (md := .fz) rfl (ce_ix (ma := .fz) (mb := .bw) (by decide) (ce_var 6) ce_int)) (blkOk_by (N := ["_law_script", "_law_board_here", "_law_found", "_law_left", "_law_staying", "_law_at", "_law_place_here", "_law_goal_here"]) (sc := defScope s_law) (own := [("_law_goal_here", 7)]) (by first | decide +kernel | rfl)) (bg_name 7 nd) (bt_of fun _ _ _ _ _ => (ct_in (ma := .bw) (mb := .bw) (ce_bw 7) (ce_bw 3))) (be_of fun _ _ _ _ _ => (ce_var 7)))) (ce_tobw (md := .own) (ce_ls ca_nil)))))) (css_one (cs_ret (ms2 := [some .fz, some .fz, some .deep, some .deep, some .deep, some .fz, some .fz, none]) ce_bl)) css_nil))) (css_one (cs_if (ms2 := [some .fz, some .fz, some .deep, some .deep, some .deep, some .fz, some .fz, none]) (ct_w (cw_or (ct_nin (ma := .bw) (mb := .bw) (ce_bw 5) (ce_bw 3)) (cw_or1 (ct_not (ct_val (md := .bw) (ce_tobw (md := .deep) (ce_cd c__law_stays_from hr tk_of (ca_cons (ce_bw 0) (ca_cons (ce_bw 1) (ca_cons (ce_bw 3) (ca_cons (ce_bw 4) (ca_cons (ce_bw 5) ca_nil)))))))))))) (css_one (cs_ret (ms2 := [some .fz, some .fz, some .deep, some .deep, some .deep, some .fz, some .fz, none]) ce_bl)) css_nil))))))) (css_one (cs_ret (ms2 := []) ce_bl)))))))))⟩
theorem all_mk {h : Heap} {fa : Addr} (X : K.In h) (G : h.Ns mainGlobals mg) (hfa : mg "law" = some (.ref fa))
    {f0 : Addr} {oc0 kV0 dc0 pm0 cd0 ct0 : Value} {od0 an0 : Option Addr} {sl0 : Array (Option Value)}
    {f1 : Addr} {oc1 kV1 dc1 pm1 cd1 ct1 : Value} {od1 an1 : Option Addr} {sl1 : Array (Option Value)}
    {f2 : Addr} {oc2 kV2 dc2 pm2 cd2 ct2 : Value} {od2 an2 : Option Addr} {sl2 : Array (Option Value)}
    {f3 : Addr} {oc3 kV3 dc3 pm3 cd3 ct3 : Value} {od3 an3 : Option Addr} {sl3 : Array (Option Value)}
    {f4 : Addr} {oc4 kV4 dc4 pm4 cd4 ct4 : Value} {od4 an4 : Option Addr} {sl4 : Array (Option Value)}
    {f5 : Addr} {oc5 kV5 dc5 pm5 cd5 ct5 : Value} {od5 an5 : Option Addr} {sl5 : Array (Option Value)}
    {f6 : Addr} {oc6 kV6 dc6 pm6 cd6 ct6 : Value} {od6 an6 : Option Addr} {sl6 : Array (Option Value)}
    {f7 : Addr} {oc7 kV7 dc7 pm7 cd7 ct7 : Value} {od7 an7 : Option Addr} {sl7 : Array (Option Value)}
    {f8 : Addr} {oc8 kV8 dc8 pm8 cd8 ct8 : Value} {od8 an8 : Option Addr} {sl8 : Array (Option Value)}
    {f9 : Addr} {oc9 kV9 dc9 pm9 cd9 ct9 : Value} {od9 an9 : Option Addr} {sl9 : Array (Option Value)}
    {f10 : Addr} {oc10 kV10 dc10 pm10 cd10 ct10 : Value} {od10 an10 : Option Addr} {sl10 : Array (Option Value)}
    {f11 : Addr} {oc11 kV11 dc11 pm11 cd11 ct11 : Value} {od11 an11 : Option Addr} {sl11 : Array (Option Value)}
    {f12 : Addr} {oc12 kV12 dc12 pm12 cd12 ct12 : Value} {od12 an12 : Option Addr} {sl12 : Array (Option Value)}
    {f13 : Addr} {oc13 kV13 dc13 pm13 cd13 ct13 : Value} {od13 an13 : Option Addr} {sl13 : Array (Option Value)}
    {f14 : Addr} {oc14 kV14 dc14 pm14 cd14 ct14 : Value} {od14 an14 : Option Addr} {sl14 : Array (Option Value)}
    (a0 : PySem.W.nsIn K mainGlobals "goals_of" = some (some (.ref f0))) (l0 : K.lookup f0 = some ⟨oc0, od0, .func (PySem.W.fnOf "goals_of" "goals_of" (defArgs s_goals_of) (defBody s_goals_of) (defScope s_goals_of) .none kV0 dc0 pm0 an0 cd0 ct0), sl0⟩) (q0 : PySem.W.codeIn K cd0 "goals_of" = true) (k0 : PySem.W.keepIn K (.ref f0) = true)
    (a1 : PySem.W.nsIn K mainGlobals "is_ready" = some (some (.ref f1))) (l1 : K.lookup f1 = some ⟨oc1, od1, .func (PySem.W.fnOf "is_ready" "is_ready" (defArgs s_is_ready) (defBody s_is_ready) (defScope s_is_ready) .none kV1 dc1 pm1 an1 cd1 ct1), sl1⟩) (q1 : PySem.W.codeIn K cd1 "is_ready" = true) (k1 : PySem.W.keepIn K (.ref f1) = true)
    (a2 : PySem.W.nsIn K mainGlobals "levels" = some (some (.ref f2))) (l2 : K.lookup f2 = some ⟨oc2, od2, .func (PySem.W.fnOf "levels" "levels" (defArgs s_levels) (defBody s_levels) (defScope s_levels) .none kV2 dc2 pm2 an2 cd2 ct2), sl2⟩) (q2 : PySem.W.codeIn K cd2 "levels" = true) (k2 : PySem.W.keepIn K (.ref f2) = true)
    (a3 : PySem.W.nsIn K mainGlobals "ring" = some (some (.ref f3))) (l3 : K.lookup f3 = some ⟨oc3, od3, .func (PySem.W.fnOf "ring" "ring" (defArgs s_ring) (defBody s_ring) (defScope s_ring) .none kV3 dc3 pm3 an3 cd3 ct3), sl3⟩) (q3 : PySem.W.codeIn K cd3 "ring" = true) (k3 : PySem.W.keepIn K (.ref f3) = true)
    (a4 : PySem.W.nsIn K mainGlobals "stays" = some (some (.ref f4))) (l4 : K.lookup f4 = some ⟨oc4, od4, .func (PySem.W.fnOf "stays" "stays" (defArgs s_stays) (defBody s_stays) (defScope s_stays) .none kV4 dc4 pm4 an4 cd4 ct4), sl4⟩) (q4 : PySem.W.codeIn K cd4 "stays" = true) (k4 : PySem.W.keepIn K (.ref f4) = true)
    (a5 : PySem.W.nsIn K mainGlobals "_law_cell" = some (some (.ref f5))) (l5 : K.lookup f5 = some ⟨oc5, od5, .func (PySem.W.fnOf "_law_cell" "_law_cell" (defArgs s__law_cell) (defBody s__law_cell) (defScope s__law_cell) .none kV5 dc5 pm5 an5 cd5 ct5), sl5⟩) (q5 : PySem.W.codeIn K cd5 "_law_cell" = true) (k5 : PySem.W.keepIn K (.ref f5) = true)
    (a6 : PySem.W.nsIn K mainGlobals "_law_mixed" = some (some (.ref f6))) (l6 : K.lookup f6 = some ⟨oc6, od6, .func (PySem.W.fnOf "_law_mixed" "_law_mixed" (defArgs s__law_mixed) (defBody s__law_mixed) (defScope s__law_mixed) .none kV6 dc6 pm6 an6 cd6 ct6), sl6⟩) (q6 : PySem.W.codeIn K cd6 "_law_mixed" = true) (k6 : PySem.W.keepIn K (.ref f6) = true)
    (a7 : PySem.W.nsIn K mainGlobals "_law_goal" = some (some (.ref f7))) (l7 : K.lookup f7 = some ⟨oc7, od7, .func (PySem.W.fnOf "_law_goal" "_law_goal" (defArgs s__law_goal) (defBody s__law_goal) (defScope s__law_goal) .none kV7 dc7 pm7 an7 cd7 ct7), sl7⟩) (q7 : PySem.W.codeIn K cd7 "_law_goal" = true) (k7 : PySem.W.keepIn K (.ref f7) = true)
    (a8 : PySem.W.nsIn K mainGlobals "_law_place" = some (some (.ref f8))) (l8 : K.lookup f8 = some ⟨oc8, od8, .func (PySem.W.fnOf "_law_place" "_law_place" (defArgs s__law_place) (defBody s__law_place) (defScope s__law_place) .none kV8 dc8 pm8 an8 cd8 ct8), sl8⟩) (q8 : PySem.W.codeIn K cd8 "_law_place" = true) (k8 : PySem.W.keepIn K (.ref f8) = true)
    (a9 : PySem.W.nsIn K mainGlobals "_law_board" = some (some (.ref f9))) (l9 : K.lookup f9 = some ⟨oc9, od9, .func (PySem.W.fnOf "_law_board" "_law_board" (defArgs s__law_board) (defBody s__law_board) (defScope s__law_board) .none kV9 dc9 pm9 an9 cd9 ct9), sl9⟩) (q9 : PySem.W.codeIn K cd9 "_law_board" = true) (k9 : PySem.W.keepIn K (.ref f9) = true)
    (a10 : PySem.W.nsIn K mainGlobals "_law_goals" = some (some (.ref f10))) (l10 : K.lookup f10 = some ⟨oc10, od10, .func (PySem.W.fnOf "_law_goals" "_law_goals" (defArgs s__law_goals) (defBody s__law_goals) (defScope s__law_goals) .none kV10 dc10 pm10 an10 cd10 ct10), sl10⟩) (q10 : PySem.W.codeIn K cd10 "_law_goals" = true) (k10 : PySem.W.keepIn K (.ref f10) = true)
    (a11 : PySem.W.nsIn K mainGlobals "_law_whole" = some (some (.ref f11))) (l11 : K.lookup f11 = some ⟨oc11, od11, .func (PySem.W.fnOf "_law_whole" "_law_whole" (defArgs s__law_whole) (defBody s__law_whole) (defScope s__law_whole) .none kV11 dc11 pm11 an11 cd11 ct11), sl11⟩) (q11 : PySem.W.codeIn K cd11 "_law_whole" = true) (k11 : PySem.W.keepIn K (.ref f11) = true)
    (a12 : PySem.W.nsIn K mainGlobals "_law_ends_from" = some (some (.ref f12))) (l12 : K.lookup f12 = some ⟨oc12, od12, .func (PySem.W.fnOf "_law_ends_from" "_law_ends_from" (defArgs s__law_ends_from) (defBody s__law_ends_from) (defScope s__law_ends_from) .none kV12 dc12 pm12 an12 cd12 ct12), sl12⟩) (q12 : PySem.W.codeIn K cd12 "_law_ends_from" = true) (k12 : PySem.W.keepIn K (.ref f12) = true)
    (a13 : PySem.W.nsIn K mainGlobals "_law_stays_from" = some (some (.ref f13))) (l13 : K.lookup f13 = some ⟨oc13, od13, .func (PySem.W.fnOf "_law_stays_from" "_law_stays_from" (defArgs s__law_stays_from) (defBody s__law_stays_from) (defScope s__law_stays_from) .none kV13 dc13 pm13 an13 cd13 ct13), sl13⟩) (q13 : PySem.W.codeIn K cd13 "_law_stays_from" = true) (k13 : PySem.W.keepIn K (.ref f13) = true)
    (a14 : PySem.W.nsIn K mainGlobals "law" = some (some (.ref f14))) (l14 : K.lookup f14 = some ⟨oc14, od14, .func (PySem.W.fnOf "law" "law" (defArgs s_law) (defBody s_law) (defScope s_law) .none kV14 dc14 pm14 an14 cd14 ct14), sl14⟩) (q14 : PySem.W.codeIn K cd14 "law" = true) (k14 : PySem.W.keepIn K (.ref f14) = true)
    (y_bool : PySem.W.nsIn K mainGlobals "bool" = some none)
    (y_enumerate : PySem.W.nsIn K mainGlobals "enumerate" = some none)
    (y_int : PySem.W.nsIn K mainGlobals "int" = some none)
    (y_isinstance : PySem.W.nsIn K mainGlobals "isinstance" = some none)
    (y_len : PySem.W.nsIn K mainGlobals "len" = some none)
    (y_list : PySem.W.nsIn K mainGlobals "list" = some none)
    (y_max : PySem.W.nsIn K mainGlobals "max" = some none)
    (y_min : PySem.W.nsIn K mainGlobals "min" = some none)
    (y_range : PySem.W.nsIn K mainGlobals "range" = some none) :
    ∃ fd : FuncData, (∀ (s : Shared) (v : Value), BindsTo s fd ⟨[v], []⟩ [("_law_script", v)]) ∧ ∀ base : Heap, K.In base → base.Ns mainGlobals mg → FnOk P w K mg base (L2.CX P w) 5 fa fd ["_law_script"] (spL K m_law) := by
  have e := hfa.symm.trans (PySem.W.mg_of X G a14)
  cases e
  have D0 := defAt_of (ps := ["place"]) (st := s_goals_of) X G a0 l0 q0 k0 fun _ _ _ _ _ _ us hl => match us, hl with | [_], _ => rfl
  have D1 := defAt_of (ps := ["place", "found"]) (st := s_is_ready) X G a1 l1 q1 k1 fun _ _ _ _ _ _ us hl => match us, hl with | [_, _], _ => rfl
  have D2 := defAt_of (ps := ["board"]) (st := s_levels) X G a2 l2 q2 k2 fun _ _ _ _ _ _ us hl => match us, hl with | [_], _ => rfl
  have D3 := defAt_of (ps := ["board"]) (st := s_ring) X G a3 l3 q3 k3 fun _ _ _ _ _ _ us hl => match us, hl with | [_], _ => rfl
  have D4 := defAt_of (ps := ["board"]) (st := s_stays) X G a4 l4 q4 k4 fun _ _ _ _ _ _ us hl => match us, hl with | [_], _ => rfl
  have D5 := defAt_of (ps := ["_law_script", "_law_k"]) (st := s__law_cell) X G a5 l5 q5 k5 fun _ _ _ _ _ _ us hl => match us, hl with | [_, _], _ => rfl
  have D6 := defAt_of (ps := ["_law_cell_here", "_law_many"]) (st := s__law_mixed) X G a6 l6 q6 k6 fun _ _ _ _ _ _ us hl => match us, hl with | [_, _], _ => rfl
  have D7 := defAt_of (ps := ["_law_bits", "_law_k", "_law_n", "_law_mode"]) (st := s__law_goal) X G a7 l7 q7 k7 fun _ _ _ _ _ _ us hl => match us, hl with | [_, _, _, _], _ => rfl
  have D8 := defAt_of (ps := ["_law_script", "_law_k", "_law_n", "_law_mode"]) (st := s__law_place) X G a8 l8 q8 k8 fun _ _ _ _ _ _ us hl => match us, hl with | [_, _, _, _], _ => rfl
  have D9 := defAt_of (ps := ["_law_script"]) (st := s__law_board) X G a9 l9 q9 k9 fun _ _ _ _ _ _ us hl => match us, hl with | [_], _ => rfl
  have D10 := defAt_of (ps := ["_law_place_here"]) (st := s__law_goals) X G a10 l10 q10 k10 fun _ _ _ _ _ _ us hl => match us, hl with | [_], _ => rfl
  have D11 := defAt_of (ps := ["_law_found"]) (st := s__law_whole) X G a11 l11 q11 k11 fun _ _ _ _ _ _ us hl => match us, hl with | [_], _ => rfl
  have D12 := defAt_of (ps := ["_law_script", "_law_board_here", "_law_found", "_law_at"]) (st := s__law_ends_from) X G a12 l12 q12 k12 fun _ _ _ _ _ _ us hl => match us, hl with | [_, _, _, _], _ => rfl
  have D13 := defAt_of (ps := ["_law_script", "_law_board_here", "_law_left", "_law_staying", "_law_at"]) (st := s__law_stays_from) X G a13 l13 q13 k13 fun _ _ _ _ _ _ us hl => match us, hl with | [_, _, _, _, _], _ => rfl
  have D14 := defAt_of (ps := ["_law_script"]) (st := s_law) X G a14 l14 q14 k14 fun _ _ _ _ _ _ us hl => match us, hl with | [_], _ => rfl
  have z_bool := PySem.W.mg_none_of X G y_bool
  have z_enumerate := PySem.W.mg_none_of X G y_enumerate
  have z_int := PySem.W.mg_none_of X G y_int
  have z_isinstance := PySem.W.mg_none_of X G y_isinstance
  have z_len := PySem.W.mg_none_of X G y_len
  have z_list := PySem.W.mg_none_of X G y_list
  have z_max := PySem.W.mg_none_of X G y_max
  have z_min := PySem.W.mg_none_of X G y_min
  have z_range := PySem.W.mg_none_of X G y_range
  have c_goals_of := fun base => ok_goals_of (P := P) (w := w) (base := base) (cl := fun _ => none) D0 z_list
  have c_is_ready := fun base => ok_is_ready (P := P) (w := w) (base := base) (cl := fun _ => none) D1 (c_goals_of base) z_len
  have c_levels := fun base => ok_levels (P := P) (w := w) (base := base) (cl := fun _ => none) D2 (c_is_ready base) z_len z_range
  have c_ring := fun base => ok_ring (P := P) (w := w) (base := base) (cl := fun _ => none) D3 (c_levels base) z_len z_range
  have c_stays := fun base => ok_stays (P := P) (w := w) (base := base) (cl := fun _ => none) D4 (c_goals_of base) (c_levels base) z_enumerate z_len z_range
  have c__law_cell := fun base => ok__law_cell (P := P) (w := w) (base := base) (cl := fun _ => none) D5 z_len
  have c__law_mixed := fun base => ok__law_mixed (P := P) (w := w) (base := base) (cl := fun _ => none) D6 
  have c__law_goal := fun base => ok__law_goal (P := P) (w := w) (base := base) (cl := fun _ => none) D7 z_max
  have c__law_place := fun base => ok__law_place (P := P) (w := w) (base := base) (cl := fun _ => none) D8 (c__law_cell base) (c__law_goal base) (c__law_mixed base) z_enumerate z_range
  have c__law_board := fun base => ok__law_board (P := P) (w := w) (base := base) (cl := fun _ => none) D9 (c__law_cell base) (c__law_place base) z_range
  have c__law_goals := fun base => ok__law_goals (P := P) (w := w) (base := base) (cl := fun _ => none) D10 
  have c__law_whole := fun base => ok__law_whole (P := P) (w := w) (base := base) (cl := fun _ => none) D11 z_bool z_int z_isinstance
  have c__law_ends_from := fun base => ok__law_ends_from (P := P) (w := w) (base := base) (cl := fun _ => none) D12 (c__law_cell base) (c__law_goals base) (c__law_mixed base) (c__law_whole base) z_len z_min z_range
  have c__law_stays_from := fun base => ok__law_stays_from (P := P) (w := w) (base := base) (cl := fun _ => none) D13 (c__law_cell base) (c__law_goals base) (c__law_mixed base) (c__law_whole base) z_len z_range
  have c_law := fun base => ok_law (P := P) (w := w) (base := base) (cl := fun _ => none) D14 (c__law_board base) (c__law_ends_from base) (c__law_stays_from base) (c__law_whole base) (c_levels base) (c_ring base) (c_stays base) z_isinstance z_len z_list z_range
  exact ⟨_, fun s v => .of_eq rfl, fun base _ _ => (c_law base).imp spL_of⟩
end
inductive Pl where
  | fin (t b : Int) | pick (w : Int) (gs : List Nat) | thr (t b : Int) (ps : List (Int × Nat))
def iD (g : Nat) : D := .int (g : Int)
def prD (p : Int × Nat) : D := .tup [.int p.1, .int (p.2 : Int)]
def Pl.d : Pl → D
  | .fin t b => .tup [.str "end", .tup [.int t, .int b]]
  | .pick w gs => .tup [.str "pick", .int w, .lst (gs.map iD)]
  | .thr t b ps => .tup [.str "throw", .tup [.int t, .int b], .lst (ps.map prD)]
def Pl.goals : Pl → List Nat
  | .fin _ _ => []
  | .pick _ gs => gs
  | .thr _ _ ps => ps.map (·.2)
def Pl.isT : Pl → Bool
  | .thr _ _ _ => true
  | _ => false
def Pl.isE : Pl → Bool
  | .fin _ _ => true
  | _ => false
structure Pl.Ok (N : Nat) (p : Pl) : Prop where
  lt : ∀ g ∈ p.goals, g < N
  ne : p.isE = false → p.goals ≠ []
  sm : p.goals.length ≤ 1000
def boardD (B : List Pl) : D := .lst (B.map Pl.d)
def fD : Option Nat → D
  | none => .non
  | some k => .int (k : Int)
def foundD (F : List (Option Nat)) : D := .lst (F.map fD)
theorem imms_i (gs : List Nat) : imms (gs.map iD) = true := imms_map fun _ _ => rfl
theorem goals_ok {N : Nat} {p : Pl} (h : p.Ok N) : m_goals_of [p.d] = .ok (.lst (p.goals.map iD)) := by
  have c1 : ¬ ("pick" : Str) = "end" := by decide
  have c2 : ¬ ("pick" : Str) = "throw" := by decide
  have c3 : ¬ ("throw" : Str) = "end" := by decide
  cases p with
  | fin t b => simp [m_goals_of, t_goals_of_0, Pl.d, Pl.goals]
  | pick w gs => simp [m_goals_of, t_goals_of_0, t_goals_of_1, t_goals_of_2, Pl.d, Pl.goals, c1, c2, imms_i]
  | thr t b ps =>
    have hs : ps.length ≤ 1000000 := by
      have := h.sm
      simp only [Pl.goals, List.length_map] at this
      omega
    have e := lcl_map (g := gn 1) (e := ck (o2 ixD (vr 1) (kc (.int 1)))) (τ := [(Pl.thr t b ps).d, .non]) (F := prD) (G := fun p => iD p.2) (xs := ps) fun p hp => ⟨[(Pl.thr t b ps).d, prD p], rfl, by simp [prD, iD]⟩
    simp only [Pl.d] at e
    simp [m_goals_of, t_goals_of_0, t_goals_of_1, Pl.d, Pl.goals, c3, e, hs]
/-- a goal that has a level -/
def kn (F : List (Option Nat)) (g : Nat) : Bool := match F[g]? with
  | some (some _) => true
  | _ => false
def rdy (F : List (Option Nat)) (p : Pl) : Bool := if p.isT = true then decide (0 < (p.goals.filter (kn F)).length) else decide ((p.goals.filter (kn F)).length = p.goals.length)
theorem ixf {F : List (Option Nat)} {g : Nat} (h : g < F.length) : ixD (foundD F) (iD g) = .ok (fD F[g]) := ixl_map (List.getElem?_eq_getElem h)
theorem isn_f {F : List (Option Nat)} {g : Nat} (h : g < F.length) : isnB (fD F[g]) = !kn F g := by
  unfold kn
  rw [List.getElem?_eq_getElem h]
  cases F[g] <;> rfl
theorem ready_ok {F : List (Option Nat)} {p : Pl} (h : p.Ok F.length) : m_is_ready [p.d, foundD F] = .ok (.bl (rdy F p)) := by
  have hs := h.sm
  have e := lcl_some (g := gn 4) (t := tb (o2 noND (o2 ixD (vr 1) (vr 4)) (kc .non))) (e := ck (vr 4)) (τ := [p.d, foundD F, .lst (p.goals.map iD), .non, .non]) (F := iD) (G := iD) (p := kn F) (xs := p.goals) fun g hg => ⟨[p.d, foundD F, .lst (p.goals.map iD), .non, iD g], rfl, by
    simp [ixf (h.lt g hg), isn_f (h.lt g hg)], fun _ => by simp [iD]⟩
  have q : ∀ x y z : D, (ixD p.d (.int 0)) = .ok (.str (match p with | .fin _ _ => "end" | .pick _ _ => "pick" | .thr _ _ _ => "throw")) := fun _ _ _ => by cases p <;> simp [Pl.d]
  have q := q .non .non .non
  have c1 : ¬ ("end" : Str) = "throw" := by decide
  have c2 : ¬ ("pick" : Str) = "throw" := by decide
  cases p with
  | fin t b => simp [m_is_ready, t_is_ready_0, t_is_ready_1, t_is_ready_2, t_is_ready_3, goals_ok h, e, q, c1, rdy, Pl.isT, Pl.goals] at e ⊢
  | pick w gs =>
    have hs' : (Pl.pick w gs).goals.length ≤ 1000000 := by omega
    simp [m_is_ready, t_is_ready_0, t_is_ready_1, t_is_ready_2, t_is_ready_3, goals_ok h, e, q, c2, rdy, Pl.isT, hs']
    rw [Int.ofNat_inj]
    exact List.length_filter_eq_length_iff
  | thr t b ps =>
    have hs' : (Pl.thr t b ps).goals.length ≤ 1000000 := by omega
    simp [m_is_ready, t_is_ready_0, t_is_ready_1, t_is_ready_2, goals_ok h, e, q, rdy, Pl.isT, hs']

def setAll (l : Nat) (rs : List Nat) (F : List (Option Nat)) : List (Option Nat) := rs.foldl (fun F k => F.set k (some l)) F
theorem setAll_len {l : Nat} : ∀ {rs : List Nat} {F : List (Option Nat)}, (setAll l rs F).length = F.length
  | [], F => rfl
  | r :: rs, F => by
    show (setAll l rs (F.set r (some l))).length = _
    rw [setAll_len, List.length_set]
theorem setAll_get {l : Nat} {k : Nat} : ∀ {rs : List Nat} {F : List (Option Nat)}, k < F.length → (setAll l rs F)[k]? = if k ∈ rs then some (some l) else F[k]?
  | [], F, _ => by simp [setAll]
  | r :: rs, F, h => by
    show (setAll l rs (F.set r (some l)))[k]? = _
    rw [setAll_get (by rw [List.length_set]; exact h)]
    by_cases c : k ∈ rs
    · rw [if_pos c, if_pos (List.mem_cons_of_mem _ c)]
    · rw [if_neg c]
      by_cases e : r = k
      · subst e
        rw [List.getElem?_set_self h, if_pos List.mem_cons_self]
      · rw [List.getElem?_set_ne e, if_neg]
        intro q
        rcases List.mem_cons.mp q with z | z
        · exact e z.symm
        · exact c z
theorem map_set {F : List (Option Nat)} {k : Nat} {x : Option Nat} : (F.map fD).set k (fD x) = (F.set k x).map fD := by
  rw [List.map_set]
/-- storing the round's number -/
theorem store_ok {l : Nat} {x0 x3 x4 x5 x6 : D} {rs : List Nat} {F : List (Option Nat)} (h : ∀ r ∈ rs, r < F.length) : ∃ y, fl (gn 4) b_levels_0 (rs.map iD) [x0, foundD F, .int (l : Int), x3, x4, x5, x6] = .nx [x0, foundD (setAll l rs F), .int (l : Int), x3, y, x5, x6] := by
  obtain ⟨τ', e1, e2⟩ := fl_ind (g := gn 4) (b := b_levels_0) (F := iD) (xs := rs) (k := 0) (τ := [x0, foundD F, .int (l : Int), x3, x4, x5, x6])
    (P := fun j τ => ∃ y, τ = [x0, foundD (setAll l (rs.take j) F), .int (l : Int), x3, y, x5, x6]) ⟨_, rfl⟩ (by
    intro j r τ ej q
    obtain ⟨y, rfl⟩ := q
    have hr := h r (List.mem_of_getElem? ej)
    refine ⟨[x0, foundD (setAll l (rs.take (0 + j)) F), .int (l : Int), x3, iD r, x5, x6], [x0, foundD ((setAll l (rs.take (0 + j)) F).set r (some l)), .int (l : Int), x3, iD r, x5, x6], rfl, ?_, iD r, ?_⟩
    · have e := e_stx (τ := [x0, foundD (setAll l (rs.take (0 + j)) F), .int (l : Int), x3, iD r, x5, x6]) (j := 1) (k := r) (ix := vr 4) (e := ck (vr 2)) (l := (setAll l (rs.take (0 + j)) F).map fD) (d := .int (l : Int)) rfl (by simp) (by simp [iD]) (by rw [List.length_map, setAll_len]; exact hr)
      rw [show D.int (l : Int) = fD (some l) from rfl, map_set] at e
      exact e
    · rw [Nat.zero_add, List.take_add_one, ej]
      show [x0, foundD ((setAll l (rs.take j) F).set r (some l)), .int (l : Int), x3, iD r, x5, x6] = [x0, foundD (setAll l (rs.take j ++ [r]) F), .int (l : Int), x3, iD r, x5, x6]
      unfold setAll
      rw [List.foldl_append]
      rfl)
  obtain ⟨y, rfl⟩ := e2
  rw [Nat.zero_add, List.take_length] at e1
  exact ⟨y, e1⟩
/-- who gets a level now -/
def isRdy (B : List Pl) (F : List (Option Nat)) (k : Nat) : Bool := !kn F k && (match B[k]? with | some p => rdy F p | none => false)
def rdys (B : List Pl) (F : List (Option Nat)) : List Nat := (List.range B.length).filter (isRdy B F)
structure BOk (B : List Pl) : Prop where
  sm : B.length ≤ 1000
  ok : ∀ p ∈ B, p.Ok B.length
theorem turn_ok {B : List Pl} (hB : BOk B) {F : List (Option Nat)} (hF : F.length = B.length) {l : Nat} {x3 x4 x5 x6 : D} : ∃ y z, b_levels_2 [boardD B, foundD F, .int (l : Int), x3, x4, x5, x6] = .nx [boardD B, foundD (setAll (l + 1) (rdys B F) F), .int ((l + 1 : Nat) : Int), .bl (decide (0 < (rdys B F).length)), y, z, x6] := by
  have er := rng_nat (n := B.length) (by have := hB.sm; omega)
  have e := lcl_some (g := gn 4) (t := tand (tb (o2 isND (o2 ixD (vr 1) (vr 4)) (kc .non))) (tb (cll m_is_ready (ac (o2 ixD (vr 0) (vr 4)) (ac (vr 1) an))))) (e := ck (vr 4)) (τ := [boardD B, foundD F, .int ((l + 1 : Nat) : Int), x3, x4, x5, x6]) (F := iD) (G := iD) (p := isRdy B F) (xs := List.range B.length) fun k hk => by
    have hk : k < B.length := by simpa using hk
    have hk2 : k < F.length := by omega
    have ep : ixD (boardD B) (iD k) = .ok B[k].d := ixl_map (List.getElem?_eq_getElem hk)
    have eq := ready_ok (F := F) (p := B[k]) (hF ▸ hB.ok _ (List.getElem_mem hk))
    refine ⟨[boardD B, foundD F, .int ((l + 1 : Nat) : Int), x3, iD k, x5, x6], rfl, ?_, fun _ => by simp [iD]⟩
    unfold isRdy
    rw [List.getElem?_eq_getElem hk]
    cases c : kn F k <;> simp [ixf hk2, isn_f hk2, ep, eq, c]
  have hr : ∀ r ∈ rdys B F, r < F.length := fun r hr => by
    have := (List.mem_filter.mp hr).1
    simp at this
    omega
  obtain ⟨y, es⟩ := store_ok (l := l + 1) (x0 := boardD B) (x3 := x3) (x4 := x4) (x5 := .lst ((rdys B F).map iD)) (x6 := x6) hr
  refine ⟨y, .lst ((rdys B F).map iD), ?_⟩
  have hl : B.length ≤ 1000000 := by have := hB.sm; omega
  have e' : lcl (gn 4) _ (ck (vr 4)) _ ((List.range B.length).map fun (k : Nat) => D.int (k : Int)) = _ := e
  simp only [boardD, foundD] at e' es ⊢
  simp [b_levels_2, er, hl] at e' es ⊢
  rw [e']
  simp [rdys] at es ⊢
  rw [es]
  simp
def Lv (F : List (Option Nat)) (p : Pl) (m : Nat) : Prop := 1 ≤ m ∧
  (p.isT = true → (∃ g ∈ p.goals, F[g]? = some (some (m - 1))) ∧ ∀ g ∈ p.goals, ∀ j, F[g]? = some (some j) → m - 1 ≤ j) ∧
  (p.isT = false → (∀ g ∈ p.goals, ∃ j, F[g]? = some (some j) ∧ j ≤ m - 1) ∧ ∃ g ∈ p.goals, F[g]? = some (some (m - 1)))
structure IV (B : List Pl) (F : List (Option Nat)) (l : Nat) : Prop where
  len : F.length = B.length
  fin : ∀ (k : Nat) (p : Pl), B[k]? = some p → p.isE = true → F[k]? = some (some 0)
  lo : ∀ (k m : Nat), F[k]? = some (some m) → m ≤ l
  pos : ∀ (k : Nat) (p : Pl) (m : Nat), B[k]? = some p → p.isE = false → F[k]? = some (some m) → Lv F p m
  frT : ∀ (k : Nat) (p : Pl), B[k]? = some p → p.isT = true → F[k]? = some none → ∀ g ∈ p.goals, ∀ j, F[g]? = some (some j) → l ≤ j
  frP : ∀ (k : Nat) (p : Pl), B[k]? = some p → p.isE = false → p.isT = false → F[k]? = some none → ∃ g ∈ p.goals, ∀ j, F[g]? = some (some j) → l ≤ j
theorem kn_iff {F : List (Option Nat)} {g : Nat} : kn F g = true ↔ ∃ j, F[g]? = some (some j) := by
  unfold kn
  cases e : F[g]? with
  | none => exact ⟨(fun q => nomatch q), fun ⟨j, q⟩ => nomatch q⟩
  | some x =>
    cases x with
    | none => exact ⟨(fun q => nomatch q), fun ⟨j, q⟩ => nomatch q⟩
    | some j => exact ⟨fun _ => ⟨j, rfl⟩, fun _ => rfl⟩
theorem get_kn {F : List (Option Nat)} {g : Nat} (h : g < F.length) (k : kn F g = false) : F[g]? = some none := by
  cases e : F[g] with
  | none => rw [List.getElem?_eq_getElem h, e]
  | some j =>
    have : kn F g = true := kn_iff.mpr ⟨j, by rw [List.getElem?_eq_getElem h, e]⟩
    rw [k] at this
    cases this
theorem mem_rdys {B : List Pl} {F : List (Option Nat)} {k : Nat} : k ∈ rdys B F ↔ kn F k = false ∧ ∃ p, B[k]? = some p ∧ rdy F p = true := by
  unfold rdys isRdy
  rw [List.mem_filter]
  constructor
  · rintro ⟨h1, h2⟩
    have h1 : k < B.length := by simpa using h1
    rw [List.getElem?_eq_getElem h1] at h2 ⊢
    simp at h2
    exact ⟨h2.1, _, rfl, h2.2⟩
  · rintro ⟨h1, p, h2, h3⟩
    obtain ⟨hk, _⟩ := List.getElem?_eq_some_iff.mp h2
    refine ⟨by simpa using hk, ?_⟩
    rw [h1, h2]
    simpa using h3
theorem rdy_T {F : List (Option Nat)} {p : Pl} (h : p.isT = true) : rdy F p = true ↔ ∃ g ∈ p.goals, kn F g = true := by
  unfold rdy
  rw [if_pos h, decide_eq_true_iff, List.length_pos_iff_exists_mem]
  constructor
  · rintro ⟨g, q⟩
    exact ⟨g, (List.mem_filter.mp q).1, (List.mem_filter.mp q).2⟩
  · rintro ⟨g, a, b⟩
    exact ⟨g, List.mem_filter.mpr ⟨a, b⟩⟩
theorem rdy_P {F : List (Option Nat)} {p : Pl} (h : p.isT = false) : rdy F p = true ↔ ∀ g ∈ p.goals, kn F g = true := by
  unfold rdy
  rw [if_neg (by rw [h]; decide), decide_eq_true_iff]
  exact List.length_filter_eq_length_iff
theorem isT_E {p : Pl} (h : p.isT = true) : p.isE = false := by cases p <;> first | rfl | cases h
theorem step_inv {B : List Pl} (hB : BOk B) {F : List (Option Nat)} {l : Nat} (I : IV B F l) : IV B (setAll (l + 1) (rdys B F) F) (l + 1) := by
  have gt : ∀ k, k < B.length → (setAll (l + 1) (rdys B F) F)[k]? = if k ∈ rdys B F then some (some (l + 1)) else F[k]? := fun k hk => setAll_get (by rw [I.len]; exact hk)
  have old : ∀ k j, F[k]? = some (some j) → (setAll (l + 1) (rdys B F) F)[k]? = some (some j) := fun k j e => by
    obtain ⟨hk, _⟩ := List.getElem?_eq_some_iff.mp e
    rw [gt k (by rw [← I.len]; exact hk), if_neg]
    · exact e
    · intro q
      have := (mem_rdys.mp q).1
      rw [kn_iff.mpr ⟨j, e⟩] at this
      cases this
  have new : ∀ k j, (setAll (l + 1) (rdys B F) F)[k]? = some (some j) → F[k]? = some (some j) ∨ (k ∈ rdys B F ∧ j = l + 1) := fun k j e => by
    obtain ⟨hk, _⟩ := List.getElem?_eq_some_iff.mp e
    rw [setAll_len, I.len] at hk
    rw [gt k hk] at e
    split at e
    · rename_i q
      cases e
      exact .inr ⟨q, rfl⟩
    · exact .inl e
  have non : ∀ k, (setAll (l + 1) (rdys B F) F)[k]? = some none → F[k]? = some none ∧ k ∉ rdys B F := fun k e => by
    obtain ⟨hk, _⟩ := List.getElem?_eq_some_iff.mp e
    rw [setAll_len, I.len] at hk
    rw [gt k hk] at e
    split at e
    · cases e
    · rename_i q
      exact ⟨e, q⟩
  have unk : ∀ k, F[k]? = some none → kn F k = false := fun k e => by
    cases c : kn F k with
    | false => rfl
    | true =>
      obtain ⟨j, e'⟩ := kn_iff.mp c
      rw [e] at e'
      cases e'
  refine ⟨by rw [setAll_len, I.len], fun k p h e => old k 0 (I.fin k p h e), fun k m e => ?_, fun k p m h e em => ?_, fun k p h e en g hg j ej => ?_, fun k p h e e2 en => ?_⟩
  · rcases new k m e with q | q
    · exact Nat.le_succ_of_le (I.lo k m q)
    · omega
  · rcases new k m em with q | ⟨q, rfl⟩
    · obtain ⟨h1, h2, h3⟩ := I.pos k p m h e q
      have hm := I.lo k m q
      refine ⟨h1, fun t => ?_, fun t => ?_⟩
      · obtain ⟨⟨g, a, b⟩, c⟩ := h2 t
        refine ⟨⟨g, a, old g _ b⟩, fun g hg j ej => ?_⟩
        rcases new g j ej with z | z
        · exact c g hg j z
        · omega
      · obtain ⟨a, g, b, c⟩ := h3 t
        exact ⟨fun g hg => by
          obtain ⟨j, x, y⟩ := a g hg
          exact ⟨j, old g j x, y⟩, g, b, old g _ c⟩
    · obtain ⟨u, p', h', r⟩ := mem_rdys.mp q
      rw [h] at h'
      cases h'
      have hk := (List.getElem?_eq_some_iff.mp h).1
      have en := get_kn (F := F) (g := k) (by rw [I.len]; exact hk) u
      refine ⟨by omega, fun t => ?_, fun t => ?_⟩
      · obtain ⟨g, hg, hk⟩ := (rdy_T t).mp r
        obtain ⟨j, ej⟩ := kn_iff.mp hk
        have f := I.frT k p h t en
        have e1 := f g hg j ej
        have e2 := I.lo g j ej
        have e3 : j = l + 1 - 1 := by omega
        refine ⟨⟨g, hg, by rw [← e3]; exact old g j ej⟩, fun g' hg' j' ej' => ?_⟩
        rcases new g' j' ej' with z | z
        · have := f g' hg' j' z
          omega
        · omega
      · have all := (rdy_P t).mp r
        obtain ⟨g, hg, f⟩ := I.frP k p h e t en
        obtain ⟨j, ej⟩ := kn_iff.mp (all g hg)
        have e1 := f j ej
        have e2 := I.lo g j ej
        have e3 : j = l + 1 - 1 := by omega
        refine ⟨fun g' hg' => ?_, g, hg, by rw [← e3]; exact old g j ej⟩
        obtain ⟨j', ej'⟩ := kn_iff.mp (all g' hg')
        have := I.lo g' j' ej'
        exact ⟨j', old g' j' ej', by omega⟩
  · obtain ⟨en', nr⟩ := non k en
    rcases new g j ej with z | z
    · exact (nr (mem_rdys.mpr ⟨unk k en', p, h, (rdy_T e).mpr ⟨g, hg, kn_iff.mpr ⟨j, z⟩⟩⟩)).elim
    · omega
  · obtain ⟨en', nr⟩ := non k en
    have nr2 : ¬ rdy F p = true := fun r => nr (mem_rdys.mpr ⟨unk k en', p, h, r⟩)
    rw [rdy_P e2] at nr2
    obtain ⟨g, hg⟩ := Classical.not_forall.mp nr2
    obtain ⟨hg, hk⟩ := Classical.not_imp.mp hg
    refine ⟨g, hg, fun j ej => ?_⟩
    rcases new g j ej with z | z
    · exact (hk (kn_iff.mpr ⟨j, z⟩)).elim
    · omega
def unk (B : List Pl) (F : List (Option Nat)) : List Nat := (List.range B.length).filter fun k => !kn F k
theorem unk_less {B : List Pl} {F : List (Option Nat)} {l : Nat} (hl : F.length = B.length) (h : rdys B F ≠ []) : (unk B (setAll l (rdys B F) F)).length < (unk B F).length := by
  have e : unk B (setAll l (rdys B F) F) = (unk B F).filter fun k => decide (k ∉ rdys B F) := by
    unfold unk
    rw [List.filter_filter]
    refine List.filter_congr fun k hk => ?_
    have hk : k < B.length := by simpa using hk
    have g := setAll_get (l := l) (k := k) (rs := rdys B F) (F := F) (by omega)
    have e2 : kn (setAll l (rdys B F) F) k = if k ∈ rdys B F then true else kn F k := by
      unfold kn
      rw [g]
      by_cases c : k ∈ rdys B F
      · rw [if_pos c, if_pos c]
      · rw [if_neg c, if_neg c]
    rw [e2]
    by_cases c : k ∈ rdys B F
    · rw [if_pos c, decide_eq_false (not_not_intro c)]
      rfl
    · rw [if_neg c, decide_eq_true c]
      rfl
  rw [e, List.length_filter_lt_length_iff_exists]
  obtain ⟨r, hr⟩ := List.exists_mem_of_ne_nil _ h
  have hr0 := hr
  have m := mem_rdys.mp hr
  obtain ⟨u, p, hp, _⟩ := m
  refine ⟨r, List.mem_filter.mpr ⟨?_, by rw [u]; rfl⟩, by simpa using hr0⟩
  have := (List.getElem?_eq_some_iff.mp hp).1
  simpa using this
def F0 (B : List Pl) : List (Option Nat) := B.map fun p => if p.isE = true then some 0 else none
theorem inv0 {B : List Pl} (hB : BOk B) : IV B (F0 B) 0 := by
  have g : ∀ (k : Nat) (p : Pl), B[k]? = some p → (F0 B)[k]? = some (if p.isE = true then some 0 else none) := fun k p h => by
    unfold F0
    rw [List.getElem?_map, h]
    rfl
  refine ⟨List.length_map _, fun k p h e => ?_, fun k m e => ?_, fun k p m h e em => ?_, fun _ _ _ _ _ _ _ _ _ => Nat.zero_le _, fun k p h e _ _ => ?_⟩
  · rw [g k p h, if_pos e]
  · obtain ⟨hk, _⟩ := List.getElem?_eq_some_iff.mp e
    have hk : k < B.length := by simpa [F0] using hk
    rw [g k _ (List.getElem?_eq_getElem hk)] at e
    split at e <;> cases e
    exact Nat.le_refl _
  · rw [g k p h, if_neg (by rw [e]; decide)] at em
    cases em
  · obtain ⟨x, hx⟩ := List.exists_mem_of_ne_nil _ ((hB.ok p (List.mem_of_getElem? h)).ne e)
    exact ⟨x, hx, fun _ _ => Nat.zero_le _⟩
theorem levels_ok {B : List Pl} (hB : BOk B) : ∃ F l, m_levels [boardD B] = .ok (foundD F) ∧ IV B F l ∧ rdys B F = [] ∧ l ≤ B.length + 1 := by
  have e0 := lcl_map (g := gn 6) (e := ife (tb (o2 eqD (o2 ixD (vr 6) (kc (.int 0))) (kc (.str "end")))) (kc (.int 0)) (kc .non)) (τ := [boardD B, .non, .non, .non, .non, .non, .non]) (F := Pl.d) (G := fun p => fD (if p.isE = true then some 0 else none)) (xs := B) fun p hp => ⟨[boardD B, .non, .non, .non, .non, .non, p.d], rfl, by
    have c1 : ¬ ("pick" : Str) = "end" := by decide
    have c3 : ¬ ("throw" : Str) = "end" := by decide
    cases p <;> simp [Pl.d, Pl.isE, fD, c1, c3]⟩
  have e1 : (B.map fun p => fD (if p.isE = true then some 0 else none)) = (F0 B).map fD := by unfold F0; rw [List.map_map]; rfl
  rw [e1] at e0
  have w := whl_ind (c := b_levels_1) (b := b_levels_2) (P := fun m τ => ∃ F l k y z, τ = [boardD B, foundD F, .int ((l : Nat) : Int), .bl k, y, z, .non] ∧ IV B F l ∧ (k = false → rdys B F = []) ∧ m = 2 * (unk B F).length + (if k = true then 1 else 0) ∧ l + (unk B F).length ≤ B.length + (if k = true then 0 else 1))
    (Q := fun τ => ∃ F l y z, τ = [boardD B, foundD F, .int ((l : Nat) : Int), .bl false, y, z, .non] ∧ IV B F l ∧ rdys B F = [] ∧ l ≤ B.length + 1) (by
    intro m τ p
    obtain ⟨F, l, k, y, z, rfl, I, hk, rfl, hle⟩ := p
    cases k with
    | false => exact .inl ⟨by simp [b_levels_1], F, l, y, z, rfl, I, hk rfl, by simp at hle; omega⟩
    | true =>
      refine .inr ⟨by simp [b_levels_1], ?_⟩
      obtain ⟨y', z', e⟩ := turn_ok hB I.len (l := l) (x3 := .bl true) (x4 := y) (x5 := z) (x6 := .non)
      by_cases c : rdys B F = []
      · have e' : setAll (l + 1) (rdys B F) F = F := by rw [c]; rfl
        have I' := step_inv hB I
        rw [e'] at e I'
        rw [c] at e
        refine ⟨_, 2 * (unk B F).length + 0, e, by simp, F, l + 1, false, y', z', rfl, I', fun _ => c, by simp, by simp at hle ⊢; omega⟩
      · have h1 : decide (0 < (rdys B F).length) = true := by
          rw [decide_eq_true_iff]
          exact List.length_pos_iff.mpr c
        rw [h1] at e
        have less := unk_less (l := l + 1) I.len c
        exact ⟨_, _, e, by simp; omega, _, l + 1, true, y', z', rfl, step_inv hB I, (fun q => nomatch q), rfl, by simp at hle ⊢; omega⟩)
  obtain ⟨τ', ew, F, l, y, z, rfl, I, h, hll⟩ := w _ [boardD B, foundD (F0 B), .int ((0 : Nat) : Int), .bl true, .non, .non, .non] ⟨F0 B, 0, true, _, _, rfl, inv0 hB, (fun q => nomatch q), rfl, by
    have := List.length_filter_le (fun k => !kn (F0 B) k) (List.range B.length)
    rw [List.length_range] at this
    simp [unk]
    simpa using this⟩
  refine ⟨F, l, ?_, I, h, hll⟩
  have hl : B.length ≤ 1000000 := by have := hB.sm; omega
  simp only [boardD, foundD] at e0 ew ⊢
  simp [m_levels, t_levels_0, t_levels_1, t_levels_2, t_levels_3, t_levels_4, hl] at e0 ew ⊢
  rw [e0]
  simp [F0, hl] at ew ⊢
  rw [ew]
  simp

theorem lgoals_ok {N : Nat} {p : Pl} (h : p.Ok N) : m__law_goals [p.d] = .ok (.lst (p.goals.map iD)) := by
  have c1 : ¬ ("pick" : Str) = "end" := by decide
  have c2 : ¬ ("throw" : Str) = "pick" := by decide
  have c3 : ¬ ("throw" : Str) = "end" := by decide
  cases p with
  | fin t b => simp [m__law_goals, t__law_goals_0, Pl.d, Pl.goals]
  | pick w gs => simp [m__law_goals, t__law_goals_0, t__law_goals_1, Pl.d, Pl.goals, c1]
  | thr t b ps =>
    have hs : ps.length ≤ 1000000 := by
      have := h.sm
      simp only [Pl.goals, List.length_map] at this
      omega
    have e := lcl_map (g := gn 1) (e := o2 ixD (vr 1) (kc (.int 1))) (τ := [(Pl.thr t b ps).d, .non]) (F := prD) (G := fun p => iD p.2) (xs := ps) fun p hp => ⟨[(Pl.thr t b ps).d, prD p], rfl, by simp [prD, iD]⟩
    simp only [Pl.d] at e
    simp [m__law_goals, t__law_goals_0, t__law_goals_1, t__law_goals_2, Pl.d, Pl.goals, c2, c3, e, hs]
def fv (F : List (Option Nat)) (g : Nat) : Option Nat := (F[g]?).join
theorem fv_get {F : List (Option Nat)} {g : Nat} (h : g < F.length) : F[g]? = some (fv F g) := by
  unfold fv
  rw [List.getElem?_eq_getElem h]
  rfl
theorem ixfv {F : List (Option Nat)} {g : Nat} (h : g < F.length) : ixD (foundD F) (iD g) = .ok (fD (fv F g)) := ixl_map (fv_get h)
def nums (S : List (Option Nat)) : List Nat := S.filterMap id
theorem nums_map : ∀ (S : List (Option Nat)), (S.filter (·.isSome)).map fD = (nums S).map iD
  | [] => rfl
  | none :: S => nums_map S
  | some k :: S => by
    show fD (some k) :: (S.filter (·.isSome)).map fD = iD k :: (nums S).map iD
    rw [nums_map S]
    rfl
theorem nums_len : ∀ (S : List (Option Nat)), (S.filter (·.isSome)).length = (nums S).length := fun S => by
  have h := congrArg List.length (nums_map S)
  rwa [List.length_map, List.length_map] at h
theorem ints_nums (l : List Nat) : intsOf (l.map iD) = some (l.map fun (n : Nat) => (n : Int)) := by
  have e : l.map iD = (l.map fun (n : Nat) => (n : Int)).map D.int := by rw [List.map_map]; rfl
  rw [e, intsOf_map]
theorem mem_nums {F : List (Option Nat)} {gs : List Nat} {j : Nat} : j ∈ nums (gs.map (fv F)) ↔ ∃ g ∈ gs, F[g]? = some (some j) := by
  unfold nums
  rw [List.mem_filterMap]
  constructor
  · rintro ⟨o, ho, e⟩
    obtain ⟨g, hg, rfl⟩ := List.mem_map.mp ho
    refine ⟨g, hg, ?_⟩
    have e : fv F g = some j := e
    unfold fv at e
    cases q : F[g]? with
    | none => rw [q] at e; cases e
    | some x => rw [q] at e; exact congrArg some e
  · rintro ⟨g, hg, e⟩
    refine ⟨some j, List.mem_map.mpr ⟨g, hg, ?_⟩, rfl⟩
    unfold fv
    rw [e]
    rfl
theorem min_ok {l : List Nat} {m : Nat} (h : m ∈ l) (q : ∀ j ∈ l, m ≤ j) : minL [.lst (l.map iD)] = .ok (.int (m : Int)) := by
  have e : (l.map fun (n : Nat) => (n : Int)).min? = some (m : Int) := by
    rw [List.min?_eq_some_iff]
    refine ⟨List.mem_map.mpr ⟨m, h, rfl⟩, fun b hb => ?_⟩
    obtain ⟨j, hj, rfl⟩ := List.mem_map.mp hb
    exact Int.ofNat_le.mpr (q j hj)
  unfold minL bestD
  show (match (some (l.map iD)).bind intsOf with | some ns => _ | none => _) = _
  simp only [Option.bind, ints_nums, e]
theorem max_ok {l : List Nat} {m : Nat} (h : m ∈ l) (q : ∀ j ∈ l, j ≤ m) : maxL [.lst (l.map iD)] = .ok (.int (m : Int)) := by
  have e : (l.map fun (n : Nat) => (n : Int)).max? = some (m : Int) := by
    rw [List.max?_eq_some_iff]
    refine ⟨List.mem_map.mpr ⟨m, h, rfl⟩, fun b hb => ?_⟩
    obtain ⟨j, hj, rfl⟩ := List.mem_map.mp hb
    exact Int.ofNat_le.mpr (q j hj)
  unfold maxL bestD
  show (match (some (l.map iD)).bind intsOf with | some ns => _ | none => _) = _
  simp only [Option.bind, ints_nums, e]
theorem nums_full {F : List (Option Nat)} {gs : List Nat} (hl : ∀ g ∈ gs, g < F.length) : (nums (gs.map (fv F))).length < gs.length ↔ ∃ g ∈ gs, kn F g = false := by
  rw [← nums_len]
  have e : (gs.map (fv F)).length = gs.length := List.length_map _
  rw [← e, List.length_filter_lt_length_iff_exists]
  constructor
  · rintro ⟨o, ho, q⟩
    obtain ⟨g, hg, rfl⟩ := List.mem_map.mp ho
    refine ⟨g, hg, ?_⟩
    cases c : kn F g with
    | false => rfl
    | true =>
      obtain ⟨j, ej⟩ := kn_iff.mp c
      have : fv F g = some j := by unfold fv; rw [ej]; rfl
      rw [this] at q
      exact (q rfl).elim
  · rintro ⟨g, hg, c⟩
    refine ⟨fv F g, List.mem_map.mpr ⟨g, hg, rfl⟩, ?_⟩
    have := get_kn (hl g hg) c
    have e : fv F g = none := by unfold fv; rw [this]; rfl
    rw [e]
    decide
theorem pu_nums (l : List Nat) : pu 60 (.lst (l.map iD)) = true := pus_map fun _ _ => by simp [iD]
theorem pu_board (B : List Pl) : pu 60 (boardD B) = true := pus_map fun p _ => by
  have k1 : PyData.strOk "end" = true := by decide +kernel
  have k2 : PyData.strOk "pick" = true := by decide +kernel
  have k3 : PyData.strOk "throw" = true := by decide +kernel
  cases p with
  | fin t b => simp [Pl.d, k1]
  | pick w gs =>
    have : pus 57 (gs.map iD) = true := pus_map fun _ _ => by simp [iD]
    simp [Pl.d, k2, this]
  | thr t b ps =>
    have : pus 57 (ps.map prD) = true := pus_map fun _ _ => by simp [prD]
    simp [Pl.d, k3, this]
theorem pu_found (F : List (Option Nat)) : pu 60 (foundD F) = true := pus_map fun o _ => by cases o <;> simp [fD]
theorem imms_found (F : List (Option Nat)) : imms (F.map fD) = true := imms_map fun o _ => by cases o <;> rfl
theorem cell_t {ns : List Int} (hb : ∀ z ∈ ns, Builtin.Int.intBits z ≤ 1048576) {k : Int} (hk : 0 ≤ k) (hk2 : k < 1024) : ∃ c, m__law_cell [.scr (ns.map D.int), .int k] = .ok (.int c) ∧ Sz c (BB + 10) := by
  have zk : Sz k 10 := sz_of hk hk2
  have fin : ∀ n : Int, Sz n 100 → (t__law_cell_3 [.scr (ns.map D.int), .int k, .int n]).fin = .ok (.int (n * n % 2147483629)) := fun n zn => by
    have m1 := mD_ok zn zn (by decide)
    have r1 := rD_ok (x := n * n) (y := 2147483629) (by decide)
    simp [t__law_cell_3, m1, r1, -e_mD]
  have zr : ∀ n : Int, Sz (n * n % 2147483629) (BB + 10) := fun n => Sz.up (sz_mod (sz_lit _) (by decide)) (by decide +kernel)
  have m0 := mD_ok zk (sz_lit 7919) (by decide +kernel)
  have m7 := mD_ok zk (sz_lit 7) (by decide +kernel)
  by_cases h1 : k < ns.length
  · exact ⟨ns.getD k.toNat 0, by simp [m__law_cell, t__law_cell_0, h1, e_ixi hk h1], (sz_item hb).up (by decide)⟩
  · by_cases h2 : ns = []
    · subst h2
      have h1 : ¬ k < 0 := by omega
      have f := fin (k * 7919 + 11) (Sz.up (by walk_at "sz") (by decide +kernel))
      simp only [List.map_nil] at f ⊢
      exact ⟨_, by simp [m__law_cell, t__law_cell_0, t__law_cell_1, t__law_cell_2, h1, m0, -e_mD, f]; rfl, zr _⟩
    · have h3 : 0 < (ns.length : Int) := by
        have := List.length_pos_iff.mpr h2
        omega
      have h4 := List.length_pos_iff.mpr h2
      have r7 := rD_ok (x := k * 7) h3
      have g0 := Int.emod_nonneg (k * 7) (show (ns.length : Int) ≠ 0 by omega)
      have g1 := Int.emod_lt_of_pos (k * 7) h3
      have ix := e_ixi g0 g1
      generalize hx : ns.getD (k * 7 % ns.length).toNat 0 = x at ix
      have rx := rD_ok (x := x) (y := 2147483647) (by decide)
      have zx : Sz (x % 2147483647) 32 := sz_of (Int.emod_nonneg _ (by decide)) (Int.lt_trans (Int.emod_lt_of_pos _ (by decide)) (by decide))
      have mx := mD_ok zx (sz_lit 48271) (by decide +kernel)
      have f := fin (x % 2147483647 * 48271 + k * 7919) (Sz.up (by walk_at "sz") (by decide +kernel))
      exact ⟨_, by simp [m__law_cell, t__law_cell_0, t__law_cell_1, t__law_cell_2, h1, h4, m0, m7, r7, ix, rx, mx, -e_mD, -e_rD, f]; rfl, zr _⟩
theorem mixed_t (c : Int) {m : Int} (hm : 0 < m) : ∃ r, m__law_mixed [.int c, .int m] = .ok (.int r) ∧ 0 ≤ r ∧ r < m := by
  have p64 : pD (.int 2) (.int 64) = .ok (.int 18446744073709551616) := by
    rw [e_pD (by decide) (by decide) (by decide)]
    rfl
  have p11 : pD (.int 2) (.int 11) = .ok (.int 2048) := by
    rw [e_pD (by decide) (by decide) (by decide)]
    rfl
  have r64 : ∀ x, rD (.int x) (.int 18446744073709551616) = .ok (.int (x % 18446744073709551616)) := fun x => rD_ok (by decide)
  have q11 : ∀ x, qD (.int x) (.int 2048) = .ok (.int (x / 2048)) := fun x => qD_ok (by decide) (sz_lit 2048) (by decide +kernel)
  have zc : Sz (c % 18446744073709551616) 64 := sz_of (Int.emod_nonneg _ (by decide)) (Int.emod_lt_of_pos _ (by decide))
  have m1 := mD_ok zc (sz_lit 11400714819323198485) (by decide +kernel)
  have rm : ∀ x, rD (.int x) (.int m) = .ok (.int (x % m)) := fun x => rD_ok hm
  exact ⟨_, by simp [m__law_mixed, t__law_mixed_0, p64, p11, r64, q11, m1, rm, -e_mD, -e_rD, -e_qD, -e_pD]; rfl, Int.emod_nonneg _ (by omega), Int.emod_lt_of_pos _ hm⟩
theorem nat_of {x : Int} {b : Nat} (h0 : 0 ≤ x) (h1 : x < b) : ∃ n : Nat, x = n ∧ n < b := ⟨x.toNat, by omega, by omega⟩
theorem goal_t {x k m : Int} {n : Nat} (h0 : 0 ≤ k) (h1 : k < n) (hm : m = 1 → k < n - 1) : ∃ g : Nat, m__law_goal [.int x, .int k, .int (n : Int), .int m] = .ok (iD g) ∧ g < n := by
  have hn : (0 : Int) < n := by omega
  have q256 : ∀ y, qD (.int y) (.int 256) = .ok (.int (y / 256)) := fun y => qD_ok (by decide) (sz_lit 256) (by decide +kernel)
  have rn : ∀ y, rD (.int y) (.int (n : Int)) = .ok (.int (y % n)) := fun y => rD_ok hn
  have r5 : ∀ y, rD (.int y) (.int 5) = .ok (.int (y % 5)) := fun y => rD_ok (by decide)
  have a0 := fun y => Int.emod_nonneg y (show (n : Int) ≠ 0 by omega)
  have a1 := fun y => Int.emod_lt_of_pos y hn
  by_cases c1 : m = 1
  · have hk := hm c1
    have hd : (0 : Int) < n - 1 - k := by omega
    have rk := rD_ok (x := x) hd
    have b0 := Int.emod_nonneg x (show (n : Int) - 1 - k ≠ 0 by omega)
    have b1 := Int.emod_lt_of_pos x hd
    obtain ⟨g, eg, hg⟩ := nat_of (x := k + 1 + x % (n - 1 - k)) (b := n) (by omega) (by omega)
    refine ⟨g, ?_, hg⟩
    simp [m__law_goal, t__law_goal_0, c1, rk, eg, -e_rD, iD]
  · by_cases c2 : m = 2
    · obtain ⟨g, eg, hg⟩ := nat_of (x := (k + n - 2 + x % 5) % n) (b := n) (a0 _) (a1 _)
      refine ⟨g, ?_, hg⟩
      simp [m__law_goal, t__law_goal_0, t__law_goal_1, c1, c2, rn, r5, eg, -e_rD, iD]
    · by_cases c3 : m = 3
      · have b0 := a0 x
        have b1 := a1 x
        have b2 := a0 (x / 256)
        have b3 := a1 (x / 256)
        obtain ⟨g, eg, hg⟩ := nat_of (x := if x % n < x / 256 % n then x / 256 % n else x % n) (b := n) (by split <;> omega) (by split <;> omega)
        refine ⟨g, ?_, hg⟩
        simp [m__law_goal, t__law_goal_0, t__law_goal_1, t__law_goal_2, c1, c2, c3, rn, q256, -e_rD, -e_qD, iD]
        exact eg
      · obtain ⟨g, eg, hg⟩ := nat_of (x := x % n) (b := n) (a0 _) (a1 _)
        refine ⟨g, ?_, hg⟩
        simp [m__law_goal, t__law_goal_0, t__law_goal_1, t__law_goal_2, t__law_goal_3, c1, c2, c3, rn, eg, -e_rD, iD]
theorem place_tail {S x9 x8 x7 : D} {c bits k m : Int} {n M : Nat} (h0 : 0 ≤ k) (h1 : k < n) (hm : m = 1 → k < n - 1) (zc : Sz c 2000000) (b0 : 0 ≤ bits) (b1 : bits < 2 ^ 50) (m0 : 0 < M) (m1 : M ≤ 100) :
    ∃ p : Pl, (t__law_place_5 [S, .int k, .int (n : Int), .int m, .int c, .int bits, .int (M : Int), x7, x8, x9]).fin = .ok p.d ∧ p.Ok n := by
  have er := rng_nat (n := M) (by omega)
  have p40 : pD (.int 2) (.int 40) = .ok (.int 1099511627776) := by
    rw [e_pD (by decide) (by decide) (by decide)]
    rfl
  obtain ⟨gs, eg, lg, hg⟩ := lcl_ex (g := gn 8) (e := cll m__law_goal (ac (cll m__law_mixed (ac (o2 aD (o2 mD (vr 4) (o2 aD (o2 mD (vr 8) (vr 8)) (kc (.int 3)))) (vr 8)) (ac (o2 pD (kc (.int 2)) (kc (.int 40))) an))) (ac (vr 1) (ac (vr 2) (ac (vr 3) an)))))
    (τ := [S, .int k, .int (n : Int), .int m, .int c, .int bits, .int (M : Int), x7, x8, x9]) (F := fun (j : Nat) => D.int (j : Int)) (G := iD) (P := fun _ g => g < n) (xs := List.range M) (by
    intro j hj
    have hj : j < M := by simpa using hj
    have zj : Sz (j : Int) 7 := by unfold Sz; omega
    have q1 := mD_ok zj zj (by decide)
    have q2 := mD_ok zc (sz_add' (sz_mul zj zj) (sz_lit 3)) (by decide +kernel)
    obtain ⟨r, e1, _, _⟩ := mixed_t (c * (j * j + 3) + j) (m := 1099511627776) (by decide)
    obtain ⟨g, e2, hg⟩ := goal_t (x := r) h0 h1 hm
    exact ⟨[S, .int k, .int (n : Int), .int m, .int c, .int bits, .int (M : Int), x7, .int (j : Int), x9], g, rfl, by simp [q1, q2, p40, e1, e2, -e_mD, -e_pD], hg⟩)
  rw [List.length_range] at lg
  have hl : M ≤ 1000000 := by omega
  have lt : ∀ g ∈ gs, g < n := fun g hg' => by
    obtain ⟨i, hi, e⟩ := List.mem_iff_getElem.mp hg'
    exact hg i i g (List.getElem?_range (by omega)) (by rw [List.getElem?_eq_getElem hi, e])
  have ne : gs ≠ [] := fun z => by rw [z] at lg; simp at lg; omega
  have r8 : ∀ y, rD (.int y) (.int 8) = .ok (.int (y % 8)) := fun y => rD_ok (by decide)
  have r2 : ∀ y, rD (.int y) (.int 2) = .ok (.int (y % 2)) := fun y => rD_ok (by decide)
  have q64 : ∀ y, qD (.int y) (.int 64) = .ok (.int (y / 64)) := fun y => qD_ok (by decide) (sz_lit 64) (by decide +kernel)
  have q16 : ∀ y, qD (.int y) (.int 16) = .ok (.int (y / 16)) := fun y => qD_ok (by decide) (sz_lit 16) (by decide +kernel)
  have rw4 : ∀ y, rD (.int y) (.int 10000) = .ok (.int (y % 10000)) := fun y => rD_ok (by decide)
  by_cases cc : 4 < bits % 8
  · refine ⟨.pick (1 + bits / 64 % 2) gs, ?_, lt, fun _ => ne, by simp only [Pl.goals]; omega⟩
    simp [t__law_place_5, t__law_place_6, er, hl, eg, r8, r2, q64, cc, -e_rD, -e_qD, Pl.d]
  · have r5 : ∀ y, rD (.int y) (.int 5) = .ok (.int (y % 5)) := fun y => rD_ok (by decide)
    have ez := enum_map (F := iD) (xs := gs) (k := 0)
    have ep := lcl_map (g := gt [gn 8, gn 9]) (e := tp (ac (o2 aD (kc (.int 1)) (o2 rD (o2 qD (vr 5) (o2 aD (kc (.int 7)) (vr 8))) (kc (.int 10000)))) (ac (ck (vr 9)) an))) (τ := [S, .int k, .int (n : Int), .int m, .int c, .int bits, .int (M : Int), .lst (gs.map iD), x8, x9])
      (F := fun (p : Nat × Nat) => D.tup [.int (p.2 : Int), iD p.1]) (G := fun p => prD (1 + bits / (7 + (p.2 : Int)) % 10000, p.1)) (xs := gs.zipIdx 0) (by
      rintro ⟨g, j⟩ hp
      have hj := List.mem_zipIdx_iff_getElem?.mp hp
      obtain ⟨hj, _⟩ := List.getElem?_eq_some_iff.mp hj
      have hj : j < gs.length := hj
      have qj : qD (.int bits) (.int (7 + (j : Int))) = .ok (.int (bits / (7 + (j : Int)))) := qD_ok (b := 8) (by omega) (by unfold Sz; omega) (by decide)
      exact ⟨[S, .int k, .int (n : Int), .int m, .int c, .int bits, .int (M : Int), .lst (gs.map iD), .int (j : Int), iD g], rfl, by simp [qj, rw4, -e_qD, -e_rD, prD, iD]⟩)
    have lz : (gs.zipIdx 0).length ≤ 1000000 := by rw [List.length_zipIdx]; omega
    refine ⟨.thr (bits / 16 % 5) 1 ((gs.zipIdx 0).map fun p => (1 + bits / (7 + (p.2 : Int)) % 10000, p.1)), ?_, ?_, fun _ => ?_, ?_⟩
    · simp [t__law_place_5, t__law_place_6, t__law_place_7, er, hl, eg, r8, cc, q16, r5, ez, ep, show gs.length ≤ 1000000 by omega, -e_rD, -e_qD, Pl.d]
      try rfl
    · intro g hg'
      simp only [Pl.goals, List.map_map] at hg'
      obtain ⟨⟨g', j⟩, hp, rfl⟩ := List.mem_map.mp hg'
      exact lt _ (List.mem_of_getElem? (List.mem_zipIdx_iff_getElem?.mp hp))
    · intro z
      simp [Pl.goals] at z
      exact ne z
    · simp only [Pl.goals, List.length_map, List.length_zipIdx]
      omega
theorem place_t {ns : List Int} (hb : ∀ z ∈ ns, Builtin.Int.intBits z ≤ 1048576) {k m : Int} {n : Nat} (h0 : 0 ≤ k) (h1 : k < n) (hn : n ≤ 120) : ∃ p : Pl, m__law_place [.scr (ns.map D.int), .int k, .int (n : Int), .int m] = .ok p.d ∧ p.Ok n := by
  obtain ⟨c, ec, zc⟩ := cell_t hb (k := 6 + k) (by omega) (by omega)
  have zk : Sz k 10 := sz_of h0 (by omega)
  have q1 := mD_ok zk zk (by decide)
  have q2 := mD_ok zc (sz_add' (sz_mul zk zk) (sz_lit 5)) (by decide +kernel)
  have p50 : pD (.int 2) (.int 50) = .ok (.int 1125899906842624) := by
    rw [e_pD (by decide) (by decide) (by decide)]
    rfl
  obtain ⟨bits, eb, b0, b1⟩ := mixed_t (c * (k * k + 5) + k) (m := 1125899906842624) (by decide)
  have zx : Sz (c * (k * k + 5) + k) 2000000 := Sz.up (sz_add' (sz_mul zc (sz_add' (sz_mul zk zk) (sz_lit 5))) zk) (by decide +kernel)
  generalize hX : c * (k * k + 5) + k = X at eb zx
  have r8 : ∀ y, rD (.int y) (.int 8) = .ok (.int (y % 8)) := fun y => rD_ok (by decide)
  have r4 : ∀ y, rD (.int y) (.int 4) = .ok (.int (y % 4)) := fun y => rD_ok (by decide)
  have r3 : ∀ y, rD (.int y) (.int 3) = .ok (.int (y % 3)) := fun y => rD_ok (by decide)
  have r16 : ∀ y, rD (.int y) (.int 16) = .ok (.int (y % 16)) := fun y => rD_ok (by decide)
  have r100 : ∀ y, rD (.int y) (.int 100) = .ok (.int (y % 100)) := fun y => rD_ok (by decide)
  have q8 : ∀ y, qD (.int y) (.int 8) = .ok (.int (y / 8)) := fun y => qD_ok (by decide) (sz_lit 8) (by decide +kernel)
  have q64 : ∀ y, qD (.int y) (.int 64) = .ok (.int (y / 64)) := fun y => qD_ok (by decide) (sz_lit 64) (by decide +kernel)
  have q1024 : ∀ y, qD (.int y) (.int 1024) = .ok (.int (y / 1024)) := fun y => qD_ok (by decide) (sz_lit 1024) (by decide +kernel)
  have fin : ∃ p : Pl, (Pl.fin 0 0).Ok n ∧ True := ⟨.fin 0 0, ⟨(fun g hg => nomatch hg), (fun q => nomatch q), by decide⟩, trivial⟩
  have go : ∀ Y : Int, 1 ≤ Y → Y ≤ 100 → (m = 1 → k < n - 1) → ∃ p : Pl, (t__law_place_5 [.scr (ns.map D.int), .int k, .int (n : Int), .int m, .int X, .int bits, .int Y, .non, .non, .non]).fin = .ok p.d ∧ p.Ok n := fun Y y0 y1 hm => by
    obtain ⟨M, eM, hM⟩ := nat_of (x := Y) (b := 101) (by omega) (by omega)
    subst eM
    exact place_tail h0 h1 hm zx b0 (by omega) (by omega) (by omega)
  have hd : m__law_place [.scr (ns.map D.int), .int k, .int (n : Int), .int m] = (t__law_place_2 [.scr (ns.map D.int), .int k, .int (n : Int), .int m, .int X, .int bits, .non, .non, .non, .non]).fin := by
    rw [← hX] at eb ⊢
    simp [m__law_place, t__law_place_0, t__law_place_1, ec, q1, q2, p50, eb, -e_mD, -e_pD]
  rw [hd]
  by_cases ce : bits % 8 = 0 ∨ (m = 1 ∧ k = n - 1)
  · have r19 : ∀ y, rD (.int y) (.int 19) = .ok (.int (y % 19)) := fun y => rD_ok (by decide)
    refine ⟨.fin (bits / 8 % 19 - 9) 1, ?_, (fun g hg => nomatch hg), (fun q => nomatch q), Nat.zero_le _⟩
    rcases ce with ce | ⟨ce, cf⟩
    · simp [t__law_place_2, r8, q8, r19, ce, -e_rD, -e_qD, Pl.d]
    · simp [t__law_place_2, r8, q8, r19, ce, cf, -e_rD, -e_qD, Pl.d]
  · have hc : ¬ bits % 8 = 0 := fun z => ce (.inl z)
    have hm : m = 1 → k < n - 1 := fun z => by
      have : ¬ k = n - 1 := fun q => ce (.inr ⟨z, q⟩)
      omega
    have hmm : ¬ (m = 1 ∧ k = n - 1) := fun z => ce (.inr z)
    have hmb : (decide (m = 1) && decide (k = n - 1)) = false := by
      by_cases z : m = 1
      · have : ¬ k = n - 1 := fun q => ce (.inr ⟨z, q⟩)
        simp [this]
      · simp [z]
    by_cases c5 : bits % 8 < 5
    · by_cases c16 : bits / 64 % 16 = 1
      · obtain ⟨p, e, o⟩ := go (1 + bits / 1024 % 100) (by omega) (by omega) hm
        refine ⟨p, ?_, o⟩
        by_cases z : m = 1
        · have zz : ¬ k = n - 1 := fun q => ce (.inr ⟨z, q⟩)
          subst z
          simp [t__law_place_2, t__law_place_3, t__law_place_4, r8, r4, r3, r16, r100, q8, q64, q1024, hc, zz, c5, c16, -e_rD, -e_qD]
          exact e
        · simp [t__law_place_2, t__law_place_3, t__law_place_4, r8, r4, r3, r16, r100, q8, q64, q1024, hc, z, c5, c16, -e_rD, -e_qD]
          exact e
      · obtain ⟨p, e, o⟩ := go (1 + bits / 8 % 3) (by omega) (by omega) hm
        refine ⟨p, ?_, o⟩
        by_cases z : m = 1
        · have zz : ¬ k = n - 1 := fun q => ce (.inr ⟨z, q⟩)
          subst z
          simp [t__law_place_2, t__law_place_3, t__law_place_4, r8, r4, r3, r16, r100, q8, q64, q1024, hc, zz, c5, c16, -e_rD, -e_qD]
          exact e
        · simp [t__law_place_2, t__law_place_3, t__law_place_4, r8, r4, r3, r16, r100, q8, q64, q1024, hc, z, c5, c16, -e_rD, -e_qD]
          exact e
    · obtain ⟨p, e, o⟩ := go (1 + bits / 8 % 4) (by omega) (by omega) hm
      refine ⟨p, ?_, o⟩
      by_cases z : m = 1
      · have zz : ¬ k = n - 1 := fun q => ce (.inr ⟨z, q⟩)
        subst z
        simp [t__law_place_2, t__law_place_3, t__law_place_4, r8, r4, q8, hc, zz, c5, -e_rD, -e_qD]
        exact e
      · simp [t__law_place_2, t__law_place_3, t__law_place_4, r8, r4, q8, hc, z, c5, -e_rD, -e_qD]
        exact e

theorem board_t {ns : List Int} (hb : ∀ z ∈ ns, Builtin.Int.intBits z ≤ 1048576) : ∃ B : List Pl, m__law_board [.scr (ns.map D.int)] = .ok (boardD B) ∧ BOk B ∧ 0 < B.length := by
  obtain ⟨c0, e0, _⟩ := cell_t hb (k := 0) (by omega) (by omega)
  obtain ⟨c1, e1, _⟩ := cell_t hb (k := 1) (by omega) (by omega)
  have r12 : ∀ y, rD (.int y) (.int 12) = .ok (.int (y % 12)) := fun y => rD_ok (by decide)
  have r6 : ∀ y, rD (.int y) (.int 6) = .ok (.int (y % 6)) := fun y => rD_ok (by decide)
  have r4 : ∀ y, rD (.int y) (.int 4) = .ok (.int (y % 4)) := fun y => rD_ok (by decide)
  have r60 : ∀ y, rD (.int y) (.int 60) = .ok (.int (y % 60)) := fun y => rD_ok (by decide)
  have q12 : ∀ y, qD (.int y) (.int 12) = .ok (.int (y / 12)) := fun y => qD_ok (by decide) (sz_lit 12) (by decide +kernel)
  have q72 : ∀ y, qD (.int y) (.int 72) = .ok (.int (y / 72)) := fun y => qD_ok (by decide) (sz_lit 72) (by decide +kernel)
  have fin : ∀ Y : Int, 1 ≤ Y → Y ≤ 120 → ∃ B : List Pl, (t__law_board_2 [.scr (ns.map D.int), .int Y, .non]).fin = .ok (boardD B) ∧ BOk B ∧ 0 < B.length := fun Y y0 y1 => by
    obtain ⟨n, en, hn⟩ := nat_of (x := Y) (b := 121) (by omega) (by omega)
    subst en
    have er := rng_nat (n := n) (by omega)
    obtain ⟨B, eB, lB, hB⟩ := lcl_ex (g := gn 2) (e := cll m__law_place (ac (vr 0) (ac (vr 2) (ac (vr 1) (ac (o2 rD (cll m__law_cell (ac (vr 0) (ac (kc (.int 1)) an))) (kc (.int 4))) an)))))
      (τ := [.scr (ns.map D.int), .int (n : Int), .non]) (F := fun (j : Nat) => D.int (j : Int)) (G := Pl.d) (P := fun _ p => p.Ok n) (xs := List.range n) (by
      intro j hj
      have hj : j < n := by simpa using hj
      obtain ⟨p, ep, op⟩ := place_t hb (k := (j : Int)) (m := c1 % 4) (n := n) (by omega) (by omega) (by omega)
      exact ⟨[.scr (ns.map D.int), .int (n : Int), .int (j : Int)], p, rfl, by simp [e1, r4, ep, -e_rD], op⟩)
    rw [List.length_range] at lB
    refine ⟨B, ?_, ⟨by omega, fun p hp => ?_⟩, by omega⟩
    · simp [t__law_board_2, er, eB, show n ≤ 1000000 by omega, boardD]
    · obtain ⟨i, hi, e⟩ := List.mem_iff_getElem.mp hp
      rw [lB]
      exact hB i i p (List.getElem?_range (by omega)) (by rw [List.getElem?_eq_getElem hi, e])
  by_cases c : c0 / 12 % 6 = 5
  · obtain ⟨B, e, o⟩ := fin (1 + c0 / 72 % 60) (by omega) (by omega)
    refine ⟨B, ?_, o⟩
    simp [m__law_board, t__law_board_0, t__law_board_1, e0, r12, r6, r60, q12, q72, c, -e_rD, -e_qD]
    exact e
  · obtain ⟨B, e, o⟩ := fin (1 + c0 % 12) (by omega) (by omega)
    refine ⟨B, ?_, o⟩
    simp [m__law_board, t__law_board_0, t__law_board_1, e0, r12, r6, r60, q12, q72, c, -e_rD, -e_qD]
    exact e
/-- a for that may end in a return -/
theorem fl_ret {α : Type} {g : MG} {b : MS} {F : α → D} {P : Nat → Ts → Prop} {R : D → Prop} : ∀ {xs : List α} {k : Nat} {τ : Ts}, P k τ → (∀ j x τ, xs[j]? = some x → P (k + j) τ → ∃ τ1, g (F x) τ = .ok τ1 ∧ ((∃ τ2, b τ1 = .nx τ2 ∧ P (k + j + 1) τ2) ∨ ∃ d, b τ1 = .rt d ∧ R d)) → (∃ τ', fl g b (xs.map F) τ = .nx τ' ∧ P (k + xs.length) τ') ∨ ∃ d, fl g b (xs.map F) τ = .rt d ∧ R d
  | [], k, τ, h0, _ => .inl ⟨τ, rfl, h0⟩
  | x :: xs, k, τ, h0, hs => by
    obtain ⟨τ1, h1, h2⟩ := hs 0 x τ rfl h0
    have e : fl g b ((x :: xs).map F) τ = (b τ1).bnd (fl g b (xs.map F)) := by
      show fl g b (F x :: xs.map F) τ = _
      rw [e_fl, h1, rn_ok]
    rw [e]
    rcases h2 with ⟨τ2, h2, h3⟩ | ⟨d, h2, h3⟩
    · rw [h2, ob_nx, List.length_cons, show k + (xs.length + 1) = k + 1 + xs.length by omega]
      exact fl_ret (xs := xs) (k := k + 1) (P := P) h3 fun j y τ ej p => by
        have q := hs (j + 1) y τ (by simpa using ej) (by rw [show k + (j + 1) = k + 1 + j by omega]; exact p)
        rw [show k + (j + 1) + 1 = k + 1 + j + 1 by omega] at q
        exact q
    · exact .inr ⟨d, by rw [h2, ob_rt], h3⟩
/-- the places without a level -/
def ringN (B : List Pl) (F : List (Option Nat)) : List Nat := (List.range B.length).filter fun k => !kn F k
theorem ring_ok {B : List Pl} (hB : BOk B) {F : List (Option Nat)} (hF : F.length = B.length) (e : m_levels [boardD B] = .ok (foundD F)) : m_ring [boardD B] = .ok (.lst ((ringN B F).map iD)) := by
  have er := rng_nat (n := B.length) (by have := hB.sm; omega)
  have hl : B.length ≤ 1000000 := by have := hB.sm; omega
  have e2 := lcl_some (g := gn 2) (t := tb (o2 isND (o2 ixD (vr 1) (vr 2)) (kc .non))) (e := ck (vr 2)) (τ := [boardD B, foundD F, .non]) (F := iD) (G := iD) (p := fun k => !kn F k) (xs := List.range B.length) fun k hk => by
    have hk : k < F.length := by rw [hF]; simpa using hk
    exact ⟨[boardD B, foundD F, iD k], rfl, by simp [ixf hk, isn_f hk], fun _ => by simp [iD]⟩
  have e2' : lcl (gn 2) _ (ck (vr 2)) _ ((List.range B.length).map fun (k : Nat) => D.int (k : Int)) = _ := e2
  simp only [boardD, foundD] at e e2' ⊢
  simp [m_ring, t_ring_0, t_ring_1, e, er, hl] at e2' ⊢
  rw [e2']
  simp [ringN]
/-- the ways of a place that stay without a level, by number -/
def stay (F : List (Option Nat)) (gs : List Nat) : List Nat := ((gs.zipIdx 0).filter fun p => !kn F p.1).map (·.2)
theorem stay_ne {F : List (Option Nat)} {gs : List Nat} {g : Nat} (h : g ∈ gs) (u : kn F g = false) : stay F gs ≠ [] := by
  obtain ⟨i, hi, e⟩ := List.mem_iff_getElem.mp h
  have m : (g, i) ∈ gs.zipIdx 0 := List.mem_zipIdx_iff_getElem?.mpr (by rw [← e]; exact List.getElem?_eq_getElem hi)
  have m2 : i ∈ stay F gs := List.mem_map.mpr ⟨(g, i), List.mem_filter.mpr ⟨m, by rw [u]; rfl⟩, rfl⟩
  exact List.ne_nil_of_mem m2
theorem stay_head {F : List (Option Nat)} {gs : List Nat} {i : Nat} {r : List Nat} (h : stay F gs = i :: r) : ∃ g, gs[i]? = some g ∧ kn F g = false := by
  have m : i ∈ stay F gs := by rw [h]; exact List.mem_cons_self
  obtain ⟨⟨g, j⟩, hp, rfl⟩ := List.mem_map.mp m
  obtain ⟨h1, h2⟩ := List.mem_filter.mp hp
  refine ⟨g, List.mem_zipIdx_iff_getElem?.mp h1, ?_⟩
  simpa using h2
def sv (B : List Pl) (F : List (Option Nat)) (k : Nat) : Option Nat := if kn F k = true then none else match B[k]? with
  | some p => (stay F p.goals).head?
  | none => none
theorem unk_goal {B : List Pl} (hB : BOk B) {F : List (Option Nat)} (hr : rdys B F = []) {k : Nat} {p : Pl} (hp : B[k]? = some p) (u : kn F k = false) (hE : p.isE = true → kn F k = true) : ∃ g ∈ p.goals, kn F g = false := by
  have nr : ¬ rdy F p = true := fun b => by
    have : k ∈ rdys B F := mem_rdys.mpr ⟨u, p, hp, b⟩
    rw [hr] at this
    cases this
  cases t : p.isT with
  | true =>
    rw [rdy_T t] at nr
    obtain ⟨g, hg⟩ := List.exists_mem_of_ne_nil _ ((hB.ok p (List.mem_of_getElem? hp)).ne (isT_E t))
    refine ⟨g, hg, ?_⟩
    cases c : kn F g with
    | false => rfl
    | true => exact (nr ⟨g, hg, c⟩).elim
  | false =>
    rw [rdy_P t] at nr
    obtain ⟨g, hg⟩ := Classical.not_forall.mp nr
    obtain ⟨hg, hk⟩ := Classical.not_imp.mp hg
    exact ⟨g, hg, by simpa using hk⟩
theorem fin_kn {B : List Pl} {F : List (Option Nat)} {l : Nat} (I : IV B F l) {k : Nat} {p : Pl} (hp : B[k]? = some p) : p.isE = true → kn F k = true := fun e => kn_iff.mpr ⟨0, I.fin k p hp e⟩
theorem stays_ok {B : List Pl} (hB : BOk B) {F : List (Option Nat)} {l : Nat} (I : IV B F l) (hr : rdys B F = []) (e : m_levels [boardD B] = .ok (foundD F)) : m_stays [boardD B] = .ok (foundD ((List.range B.length).map (sv B F))) := by
  have hF := I.len
  have er := rng_nat (n := B.length) (by have := hB.sm; omega)
  have hl : B.length ≤ 1000000 := by have := hB.sm; omega
  obtain ⟨τ', e1, x3, x4, x5, x6, rfl⟩ := fl_ind (g := gn 3) (b := b_stays_0) (F := iD) (xs := List.range B.length) (k := 0) (τ := [boardD B, foundD F, .lst [], .non, .non, .non, .non])
    (P := fun j τ => ∃ x3 x4 x5 x6 : D, τ = [boardD B, foundD F, foundD (((List.range B.length).take j).map (sv B F)), x3, x4, x5, x6]) ⟨_, _, _, _, rfl⟩ (by
    intro j k τ ej q
    obtain ⟨x3, x4, x5, x6, rfl⟩ := q
    rw [Nat.zero_add]
    obtain ⟨hj, ek⟩ := List.getElem?_eq_some_iff.mp ej
    have hk : k < B.length := by simp at hj ek; omega
    have hk2 : k < F.length := by omega
    have hp := List.getElem?_eq_getElem hk
    have op := hB.ok _ (List.getElem_mem hk)
    have ep : ixD (boardD B) (iD k) = .ok B[k].d := ixl_map hp
    have eg := goals_ok op
    have ez := enum_map (F := iD) (xs := B[k].goals) (k := 0)
    have ec := lcl_some (g := gt [gn 5, gn 6]) (t := tb (o2 isND (o2 ixD (vr 1) (vr 6)) (kc .non))) (e := ck (vr 5)) (τ := [boardD B, foundD F, foundD (((List.range B.length).take j).map (sv B F)), iD k, x4, x5, x6])
      (F := fun (p : Nat × Nat) => D.tup [.int (p.2 : Int), iD p.1]) (G := fun p => iD p.2) (p := fun p => !kn F p.1) (xs := B[k].goals.zipIdx 0) (by
      rintro ⟨g, i⟩ hp
      have hg : g < F.length := by
        rw [hF]
        exact op.lt g (List.mem_of_getElem? (List.mem_zipIdx_iff_getElem?.mp hp))
      exact ⟨[boardD B, foundD F, foundD (((List.range B.length).take j).map (sv B F)), iD k, x4, .int (i : Int), iD g], rfl, by simp [ixf hg, isn_f hg], fun _ => by simp [iD]⟩)
    have ls : B[k].goals.length ≤ 1000000 := by have := op.sm; omega
    have es : ((B[k].goals.zipIdx 0).filter fun p => !kn F p.1).map (fun p => iD p.2) = (stay F B[k].goals).map iD := by unfold stay; rw [List.map_map]; rfl
    rw [es] at ec
    have tk : (List.range B.length).take (j + 1) = (List.range B.length).take j ++ [k] := by rw [List.take_add_one, ej]; rfl
    have ll : ((List.range B.length).take j).length ≤ 1000000 := by rw [List.length_take, List.length_range]; omega
    have ap := fun (x : Option Nat) (ee : ME) (h : ee [boardD B, foundD F, foundD (((List.range B.length).take j).map (sv B F)), iD k, .lst ((stay F B[k].goals).map iD), x5, x6] = .ok (fD x)) => e_lm (τ := [boardD B, foundD F, foundD (((List.range B.length).take j).map (sv B F)), iD k, .lst ((stay F B[k].goals).map iD), x5, x6]) (j := 2) (f := appF) (es := ac ee an) (l := (((List.range B.length).take j).map (sv B F)).map fD) (ds := [fD x]) (l' := (((List.range B.length).take j).map (sv B F)).map fD ++ [fD x]) rfl (by rw [e_ac, h]; rfl) (by rw [e_app, if_pos (by rw [List.length_map, List.length_map]; exact ll)])
    refine ⟨[boardD B, foundD F, foundD (((List.range B.length).take j).map (sv B F)), iD k, x4, x5, x6], [boardD B, foundD F, foundD (((List.range B.length).take (j + 1)).map (sv B F)), iD k, .lst ((stay F B[k].goals).map iD), x5, x6], rfl, ?_, _, _, _, _, rfl⟩
    rw [tk, List.map_append]
    have fe : ∀ x, foundD (((List.range B.length).take j).map (sv B F) ++ [x]) = .lst ((((List.range B.length).take j).map (sv B F)).map fD ++ [fD x]) := fun x => by unfold foundD; rw [List.map_append]; rfl
    show _ = Out.nx [boardD B, foundD F, foundD (((List.range B.length).take j).map (sv B F) ++ [sv B F k]), iD k, .lst ((stay F B[k].goals).map iD), x5, x6]
    rw [fe]
    have en : isnB (fD F[k]) = !kn F k := isn_f hk2
    cases c : kn F k with
    | true =>
      have sk : sv B F k = none := by unfold sv; rw [if_pos c]
      rw [sk]
      have a := ap none (kc .non) rfl
      simp [b_stays_0, ep, eg, ez, ec, ls, ixf hk2, en, c, -List.take_range, -List.map_map, -List.map_take]
      exact a
    | false =>
      obtain ⟨g, hg, u⟩ := unk_goal hB hr hp c (fin_kn I hp)
      have ne := stay_ne hg u
      cases hs : stay F B[k].goals with
      | nil => exact (ne hs).elim
      | cons i r =>
        have sk : sv B F k = some i := by unfold sv; rw [if_neg (by rw [c]; decide), hp]; show (stay F B[k].goals).head? = _; rw [hs]; rfl
        rw [sk]
        have a := ap (some i) (ck (o2 ixD (vr 4) (kc (.int 0)))) (by rw [hs]; simp [iD, fD])
        rw [hs] at a ec
        simp [b_stays_0, ep, eg, ez, ec, ls, ixf hk2, en, c, -List.take_range, -List.map_map, -List.map_take]
        exact a)
  rw [Nat.zero_add, List.take_of_length_le (Nat.le_refl _)] at e1
  have e1' : fl (gn 3) b_stays_0 ((List.range B.length).map fun (k : Nat) => D.int (k : Int)) _ = _ := e1
  simp only [boardD, foundD] at e e1' ⊢
  simp [m_stays, t_stays_0, t_stays_1, t_stays_2, t_stays_3, e, er] at e1' ⊢
  rw [e1']
  simp
theorem eq_fD (o : Option Nat) (c : Nat) : eqD (fD o) (.int (c : Int)) = .ok (.bl (decide (o = some c))) := by
  cases o with
  | none => rfl
  | some k =>
    show eqD (.int (k : Int)) (.int (c : Int)) = _
    rw [e_eqD]
    congr 2
    simp
    exact Int.ofNat_inj
theorem whole_f {k : Nat} : m__law_whole [fD (some k)] = .ok (.bl true) := by simp [m__law_whole, t__law_whole_0, fD]
theorem kind_d (p : Pl) : ixD p.d (.int 0) = .ok (.str (if p.isE = true then "end" else if p.isT = true then "throw" else "pick")) := by cases p <;> simp [Pl.d, Pl.isE, Pl.isT]
theorem eq_nil (gs : List Nat) : eqD (.lst (gs.map iD)) (.lst []) = .ok (.bl (decide (gs = []))) := by
  have p := pu_nums gs
  rw [e_eqDl, p]
  cases gs with
  | nil => rfl
  | cons x y => rfl
theorem ends_from {ns : List Int} (hb : ∀ z ∈ ns, Builtin.Int.intBits z ≤ 1048576) {B : List Pl} (hB : BOk B) {F : List (Option Nat)} {l : Nat} (I : IV B F l) (hll : l ≤ B.length + 1) {a m : Nat} (ha : F[a]? = some (some m)) :
    m__law_ends_from [.scr (ns.map D.int), boardD B, foundD F, iD a] = .ok (.bl true) := by
  have hsm := hB.sm
  have hm := I.lo a m ha
  have er := rng_nat (n := m) (by omega)
  have len := I.len
  have p40 : pD (.int 2) (.int 40) = .ok (.int 1099511627776) := by
    rw [e_pD (by decide) (by decide) (by decide)]
    rfl
  have ce : ¬ ("throw" : Str) = "pick" := by decide
  have c3 : ¬ ("throw" : Str) = "end" := by decide
  have ixa : ∀ {a j : Nat}, F[a]? = some (some j) → ixD (foundD F) (iD a) = .ok (fD (some j)) := fun h => ixl_map h
  have plc : ∀ {a j : Nat}, F[a]? = some (some j) → ∃ p, B[a]? = some p ∧ ixD (boardD B) (iD a) = .ok p.d ∧ p.Ok F.length := fun {a j} h => by
    obtain ⟨hk, _⟩ := List.getElem?_eq_some_iff.mp h
    have hk : a < B.length := by omega
    exact ⟨B[a], List.getElem?_eq_getElem hk, ixl_map (List.getElem?_eq_getElem hk), len ▸ hB.ok _ (List.getElem_mem hk)⟩
  have run := fl_ret (g := gn 4) (b := b__law_ends_from_0) (F := fun (j : Nat) => D.int (j : Int)) (xs := List.range m) (k := 0) (τ := [.scr (ns.map D.int), boardD B, foundD F, iD a, .non, .non, .non, .non, .non])
    (P := fun s τ => ∃ (a j : Nat) (x4 x5 x6 x7 x8 : D), τ = [.scr (ns.map D.int), boardD B, foundD F, iD a, x4, x5, x6, x7, x8] ∧ F[a]? = some (some j) ∧ j + s ≤ m) (R := fun d => d = .bl true) ⟨a, m, _, _, _, _, _, rfl, ha, by omega⟩ (by
    intro s k τ ej q
    obtain ⟨a, j, x4, x5, x6, x7, x8, rfl, ha, hj⟩ := q
    have hk : k < m := by
      obtain ⟨h, e⟩ := List.getElem?_eq_some_iff.mp ej
      simp at h e
      omega
    obtain ⟨p, hp, ep, op⟩ := plc ha
    have eg := lgoals_ok op
    have en := eq_nil p.goals
    have ls : p.goals.length ≤ 1000000 := by have := op.sm; omega
    refine ⟨[.scr (ns.map D.int), boardD B, foundD F, iD a, .int (k : Int), x5, x6, x7, x8], rfl, ?_⟩
    have ex := ixa ha
    by_cases c : p.goals = []
    · right
      refine ⟨.bl true, ?_, rfl⟩
      rw [c] at eg en
      simp [b__law_ends_from_0, ep, eg]
    · left
      have nE : p.isE = false := by
        cases p with
        | fin t b => exact (c rfl).elim
        | _ => rfl
      have kd := kind_d p
      rw [if_neg (by rw [nE]; decide)] at kd
      obtain ⟨h1, hT, hP⟩ := I.pos a p j hp nE ha
      -- the goal that is gone to
      have fin : ∀ (g j' : Nat) (x7 x8 : D), F[g]? = some (some j') → j' ≤ j - 1 → ∃ τ2, (seq (sif (tor (tnot (tb (cll m__law_whole (ac (o2 ixD (vr 2) (vr 6)) an)))) (tb (o2 geD (o2 ixD (vr 2) (vr 6)) (o2 ixD (vr 2) (vr 3))))) (ret (kc (.bl false))) skip) (asg (vr 6) (gn 3))) [.scr (ns.map D.int), boardD B, foundD F, iD a, .int (k : Int), .lst (p.goals.map iD), iD g, x7, x8] = .nx τ2 ∧ ∃ (a j : Nat) (x4 x5 x6 x7 x8 : D), τ2 = [.scr (ns.map D.int), boardD B, foundD F, iD a, x4, x5, x6, x7, x8] ∧ F[a]? = some (some j) ∧ j + (0 + s + 1) ≤ m := fun g j' x7 x8 hg hle => by
        have eg := ixa hg
        have w := whole_f (k := j')
        refine ⟨[.scr (ns.map D.int), boardD B, foundD F, iD g, .int (k : Int), .lst (p.goals.map iD), iD g, x7, x8], ?_, g, j', _, _, _, _, _, rfl, hg, by omega⟩
        have lt : ¬ j ≤ j' := by omega
        simp [eg, ex, w]
        simp [fD, lt]
      cases t : p.isT with
      | false =>
        rw [if_neg (by rw [t]; decide)] at kd
        obtain ⟨al, _⟩ := hP t
        obtain ⟨cc, ec, _⟩ := cell_t hb (k := 3 + (k : Int)) (by omega) (by omega)
        obtain ⟨r, em, r0, r1⟩ := mixed_t (cc + a) (m := 1099511627776) (by decide)
        have lp : 0 < p.goals.length := List.length_pos_iff.mpr c
        have rr := rD_ok (x := r) (y := (p.goals.length : Int)) (by omega)
        have i0 := Int.emod_nonneg r (show (p.goals.length : Int) ≠ 0 by omega)
        have i1 := Int.emod_lt_of_pos r (show (0 : Int) < p.goals.length by omega)
        have hi : (r % (p.goals.length : Int)).toNat < p.goals.length := by omega
        have ei := ixl_int (F := iD) (xs := p.goals) i0 (List.getElem?_eq_getElem hi)
        obtain ⟨j', ej', hle⟩ := al _ (List.getElem_mem hi)
        obtain ⟨τ2, e2, h2⟩ := fin _ j' x7 x8 ej' hle
        refine ⟨τ2, ?_, h2⟩
        have ad : aD (.int cc) (iD a) = .ok (.int (cc + a)) := rfl
        simp [b__law_ends_from_0, ep, eg, en, c, kd, ec, em, p40, rr, ei, ad, -e_rD, -e_pD, -e_eqDl] at e2 ⊢
        exact e2
      | true =>
        rw [if_pos t] at kd
        obtain ⟨⟨g0, hg0, eg0⟩, lo⟩ := hT t
        have mn := fun j => mem_nums (F := F) (gs := p.goals) (j := j)
        have mi := min_ok (l := nums (p.goals.map (fv F))) (m := j - 1) ((mn _).mpr ⟨g0, hg0, eg0⟩) fun j hj => by
          obtain ⟨g, hg, eg⟩ := (mn j).mp hj
          exact lo g hg j eg
        have nn : nums (p.goals.map (fv F)) ≠ [] := List.ne_nil_of_mem ((mn _).mpr ⟨g0, hg0, eg0⟩)
        have en2 := eq_nil (nums (p.goals.map (fv F)))
        have k1 := lcl_some (g := gn 8) (t := tb (o2 noND (o2 ixD (vr 2) (vr 8)) (kc .non))) (e := ck (o2 ixD (vr 2) (vr 8))) (τ := [.scr (ns.map D.int), boardD B, foundD F, iD a, .int (k : Int), .lst (p.goals.map iD), x6, x7, x8]) (F := iD) (G := fun g => fD (fv F g)) (p := fun g => (fv F g).isSome) (xs := p.goals) fun g hg => ⟨[.scr (ns.map D.int), boardD B, foundD F, iD a, .int (k : Int), .lst (p.goals.map iD), x6, x7, iD g], rfl, by
          have := ixfv (op.lt g hg)
          cases q : fv F g <;> simp [this, q, fD], fun _ => by
          have := ixfv (op.lt g hg)
          cases q : fv F g <;> simp [this, q, fD]⟩
        have k1' : ((p.goals.filter fun g => (fv F g).isSome).map fun g => fD (fv F g)) = (nums (p.goals.map (fv F))).map iD := by
          rw [← nums_map, List.filter_map, List.map_map]
          rfl
        rw [k1'] at k1
        have k2 := lcl_some (g := gn 8) (t := tb (o2 eqD (o2 ixD (vr 2) (vr 8)) (cll minL (ac (vr 7) an)))) (e := vr 8) (τ := [.scr (ns.map D.int), boardD B, foundD F, iD a, .int (k : Int), .lst (p.goals.map iD), x6, .lst ((nums (p.goals.map (fv F))).map iD), x8]) (F := iD) (G := iD) (p := fun g => decide (fv F g = some (j - 1))) (xs := p.goals) fun g hg => ⟨[.scr (ns.map D.int), boardD B, foundD F, iD a, .int (k : Int), .lst (p.goals.map iD), x6, .lst ((nums (p.goals.map (fv F))).map iD), iD g], rfl, by
          have := ixfv (op.lt g hg)
          simp [this, mi, eq_fD], fun _ => rfl⟩
        have fe : g0 ∈ p.goals.filter fun g => decide (fv F g = some (j - 1)) := List.mem_filter.mpr ⟨hg0, by
          have : fv F g0 = some (j - 1) := by unfold fv; rw [eg0]; rfl
          simp [this]⟩
        cases hf : p.goals.filter fun g => decide (fv F g = some (j - 1)) with
        | nil => rw [hf] at fe; cases fe
        | cons g r =>
          rw [hf] at k2
          have hg : g ∈ p.goals.filter fun g => decide (fv F g = some (j - 1)) := by rw [hf]; exact List.mem_cons_self
          obtain ⟨hg1, hg2⟩ := List.mem_filter.mp hg
          have hg2 : fv F g = some (j - 1) := by simpa using hg2
          have eg2 : F[g]? = some (some (j - 1)) := by rw [fv_get (op.lt g hg1), hg2]
          obtain ⟨τ2, e2, h2⟩ := fin g (j - 1) (.lst ((nums (p.goals.map (fv F))).map iD)) x8 eg2 (Nat.le_refl _)
          refine ⟨τ2, ?_, h2⟩
          have ls2 : (p.goals).length ≤ 1000000 := ls
          simp [b__law_ends_from_0, ep, eg, en, c, kd, ce, ls, k1, k2, en2, nn, -e_eqDl, -List.map_map] at e2 ⊢
          exact e2)
  rcases run with ⟨τ', e, a', j', x4, x5, x6, x7, x8, rfl, h1, h2⟩ | ⟨d, e, rfl⟩
  · rw [List.length_range] at h2
    have z : j' = 0 := by omega
    subst z
    obtain ⟨p, hp, ep, op⟩ := plc h1
    have kd := kind_d p
    have hE : p.isE = true := by
      cases q : p.isE with
      | true => rfl
      | false =>
        have := (I.pos a' p 0 hp q h1).1
        omega
    rw [if_pos hE] at kd
    simp [m__law_ends_from, t__law_ends_from_0, t__law_ends_from_1, ixa ha, fD, er, e, ep, kd]
  · simp [m__law_ends_from, t__law_ends_from_0, t__law_ends_from_1, ixa ha, fD, er, e]

theorem mem_ring {B : List Pl} {F : List (Option Nat)} {k : Nat} (h : F.length = B.length) : k ∈ ringN B F ↔ k < B.length ∧ kn F k = false := by
  unfold ringN
  rw [List.mem_filter]
  simp
theorem in_ring {k : Nat} {l : List Nat} : inD (iD k) (.lst (l.map iD)) = .ok (.bl (decide (k ∈ l))) := by
  have e1 : (l.map iD).all flD = true := by
    rw [List.all_eq_true]
    intro x hx
    obtain ⟨i, _, rfl⟩ := List.mem_map.mp hx
    rfl
  have e2 : ((l.map iD).any fun y => eqF y (iD k)) = decide (k ∈ l) := by
    rw [Bool.eq_iff_iff, List.any_eq_true, decide_eq_true_iff]
    constructor
    · rintro ⟨x, hx, e⟩
      obtain ⟨i, hi, rfl⟩ := List.mem_map.mp hx
      have e : decide ((i : Int) = (k : Int)) = true := e
      have e : i = k := Int.ofNat_inj.mp (of_decide_eq_true e)
      rw [← e]
      exact hi
    · intro h
      refine ⟨iD k, List.mem_map.mpr ⟨k, h, rfl⟩, ?_⟩
      show decide ((k : Int) = (k : Int)) = true
      simp
  rw [e_in, e_inl, if_pos (by rw [e1]; rfl), e2]
  rfl
theorem nin_ring {k : Nat} {l : List Nat} : ninD (iD k) (.lst (l.map iD)) = .ok (.bl (!decide (k ∈ l))) := by
  have h := in_ring (k := k) (l := l)
  rw [e_in] at h
  rw [e_nin]
  cases e : inS (iD k) (.lst (l.map iD)) with
  | ok b =>
    rw [e] at h
    have h : Rs.ok (D.bl b) = .ok (.bl (decide (k ∈ l))) := h
    cases h
    rfl
  | no => rw [e] at h; cases h
  | ex z => rw [e] at h; cases h

theorem whole_i {k : Int} : m__law_whole [.int k] = .ok (.bl true) := by simp [m__law_whole, t__law_whole_0]
def staysL (B : List Pl) (F : List (Option Nat)) : List (Option Nat) := (List.range B.length).map (sv B F)
theorem stays_from {ns : List Int} (hl : ns.length ≤ 63) (hb : ∀ z ∈ ns, Builtin.Int.intBits z ≤ 1048576) {B : List Pl} (hB : BOk B) {F : List (Option Nat)} {l : Nat} (I : IV B F l) (hr : rdys B F = []) {a : Nat} (ha : a ∈ ringN B F) :
    m__law_stays_from [.scr (ns.map D.int), boardD B, .lst ((ringN B F).map iD), foundD (staysL B F), iD a] = .ok (.bl true) := by
  have hsm := hB.sm
  have len := I.len
  have p40 : pD (.int 2) (.int 40) = .ok (.int 1099511627776) := by
    rw [e_pD (by decide) (by decide) (by decide)]
    rfl
  have ce : ¬ ("throw" : Str) = "pick" := by decide
  have cl : (Mx.cutD (ns.map D.int) none (some 60)).length ≤ 63 := by
    unfold Mx.cutD
    rw [List.length_take, List.length_drop, List.length_map]
    omega
  have sl : slG (.scr (ns.map D.int)) none (some 60) = .ok (.lst (Mx.cutD (ns.map D.int) none (some 60))) := rfl
  generalize Mx.cutD (ns.map D.int) none (some 60) = CL at cl sl
  have er := rng_int (n := 40 + (CL.length : Int)) (by omega) (by omega)
  obtain ⟨τ', e, a', x5, x6, x7, rfl, h1⟩ := fl_ind (g := gn 5) (b := b__law_stays_from_0) (F := fun (j : Nat) => D.int (j : Int)) (xs := List.range (40 + (CL.length : Int)).toNat) (k := 0) (τ := [.scr (ns.map D.int), boardD B, .lst ((ringN B F).map iD), foundD (staysL B F), iD a, .non, .non, .non])
    (P := fun _ τ => ∃ (a : Nat) (x5 x6 x7 : D), τ = [.scr (ns.map D.int), boardD B, .lst ((ringN B F).map iD), foundD (staysL B F), iD a, x5, x6, x7] ∧ a ∈ ringN B F) ⟨a, _, _, _, rfl, ha⟩ (by
    intro s k τ ej q
    obtain ⟨a, x5, x6, x7, rfl, ha⟩ := q
    have hk : k < 103 := by
      obtain ⟨h, e⟩ := List.getElem?_eq_some_iff.mp ej
      simp at h e
      omega
    obtain ⟨hB2, u⟩ := (mem_ring len).mp ha
    have hp := List.getElem?_eq_getElem hB2
    have op : B[a].Ok F.length := len ▸ hB.ok _ (List.getElem_mem hB2)
    have ep : ixD (boardD B) (iD a) = .ok B[a].d := ixl_map hp
    have nE : B[a].isE = false := by
      cases q : B[a].isE with
      | false => rfl
      | true =>
        rw [fin_kn I hp q] at u
        cases u
    have eg := lgoals_ok op
    have en := eq_nil B[a].goals
    have c : B[a].goals ≠ [] := op.ne nE
    have lp : 0 < B[a].goals.length := List.length_pos_iff.mpr c
    have kd := kind_d B[a]
    rw [if_neg (by rw [nE]; decide)] at kd
    have er := nin_ring (k := a) (l := ringN B F)
    rw [decide_eq_true ha] at er
    obtain ⟨cc, ec, zc⟩ := cell_t hb (k := 2 + (k : Int)) (by omega) (by omega)
    have q3 := mD_ok zc (sz_lit 3) (by decide +kernel)
    obtain ⟨r, em, r0, r1⟩ := mixed_t (cc * 3 + a) (m := 1099511627776) (by decide)
    have ad : aD (.int (cc * 3)) (iD a) = .ok (.int (cc * 3 + a)) := rfl
    have rr := rD_ok (x := r) (y := (B[a].goals.length : Int)) (by omega)
    have i0 := Int.emod_nonneg r (show (B[a].goals.length : Int) ≠ 0 by omega)
    have i1 := Int.emod_lt_of_pos r (show (0 : Int) < B[a].goals.length by omega)
    generalize hw : r % (B[a].goals.length : Int) = w at *
    have ring2 : ∀ g ∈ B[a].goals, kn F g = false → g ∈ ringN B F := fun g hg u => (mem_ring len).mpr ⟨by have := op.lt g hg; omega, u⟩
    have fin : ∀ v : Int, 0 ≤ v → v < B[a].goals.length → (∀ g, B[a].goals[v.toNat]? = some g → kn F g = false) → ∃ g, (seq (sif (tor (tnot (tb (cll m__law_whole (ac (vr 7) an)))) (tor (tb (o2 ltD (vr 7) (kc (.int 0)))) (tb (o2 geD (vr 7) (cll lenD (ac (vr 6) an)))))) (ret (kc (.bl false))) skip) (asg (o2 ixD (vr 6) (vr 7)) (gn 4))) [.scr (ns.map D.int), boardD B, .lst ((ringN B F).map iD), foundD (staysL B F), iD a, .int (k : Int), .lst (B[a].goals.map iD), .int v] = .nx [.scr (ns.map D.int), boardD B, .lst ((ringN B F).map iD), foundD (staysL B F), iD g, .int (k : Int), .lst (B[a].goals.map iD), .int v] ∧ g ∈ ringN B F := fun v v0 v1 hu => by
      have hv : v.toNat < B[a].goals.length := by omega
      have eg := List.getElem?_eq_getElem hv
      have ei := ixl_int (F := iD) (xs := B[a].goals) v0 eg
      refine ⟨_, ?_, ring2 _ (List.getElem_mem hv) (hu _ eg)⟩
      have n0 : ¬ v < 0 := by omega
      have n1 : ¬ (B[a].goals.length : Int) ≤ v := by omega
      simp [whole_i, n0, n1, ei]
    refine ⟨[.scr (ns.map D.int), boardD B, .lst ((ringN B F).map iD), foundD (staysL B F), iD a, .int (k : Int), x6, x7], ?_⟩
    cases t : B[a].isT with
    | true =>
      rw [if_pos t] at kd
      have nr : ¬ rdy F B[a] = true := fun b => by
        have : a ∈ rdys B F := mem_rdys.mpr ⟨u, _, hp, b⟩
        rw [hr] at this
        cases this
      rw [rdy_T t] at nr
      obtain ⟨g, e2, hg⟩ := fin w i0 i1 fun g hg => by
        cases q : kn F g with
        | false => rfl
        | true => exact (nr ⟨g, List.mem_of_getElem? hg, q⟩).elim
      refine ⟨_, rfl, ?_, g, .int (k : Int), .lst (B[a].goals.map iD), .int w, rfl, hg⟩
      simp [b__law_stays_from_0, ep, eg, en, c, kd, ce, er, ec, q3, ad, p40, em, rr, -e_rD, -e_mD, -e_pD, -e_eqDl, -e_nin] at e2 ⊢
      exact e2
    | false =>
      rw [if_neg (by rw [t]; decide)] at kd
      obtain ⟨g0, hg0, u0⟩ := unk_goal hB hr hp u (fin_kn I hp)
      have ne := stay_ne hg0 u0
      cases hs : stay F B[a].goals with
      | nil => exact (ne hs).elim
      | cons i rest =>
        obtain ⟨gi, egi, ugi⟩ := stay_head hs
        have sk : sv B F a = some i := by unfold sv; rw [if_neg (by rw [u]; decide), hp]; show (stay F B[a].goals).head? = _; rw [hs]; rfl
        have es : ixD (foundD (staysL B F)) (iD a) = .ok (.int (i : Int)) := by
          have : (staysL B F)[a]? = some (some i) := by unfold staysL; rw [List.getElem?_map, List.getElem?_range hB2, Option.map_some, sk]
          exact ixl_map this
        obtain ⟨hi, _⟩ := List.getElem?_eq_some_iff.mp egi
        obtain ⟨g, e2, hg⟩ := fin (i : Int) (by omega) (by omega) fun g hg => by
          rw [Int.toNat_natCast, egi] at hg
          cases hg
          exact ugi
        refine ⟨_, rfl, ?_, g, .int (k : Int), .lst (B[a].goals.map iD), .int (i : Int), rfl, hg⟩
        simp [b__law_stays_from_0, ep, eg, en, c, kd, er, ec, q3, ad, p40, em, rr, es, -e_rD, -e_mD, -e_pD, -e_eqDl, -e_nin] at e2 ⊢
        exact e2)
  have ir := in_ring (k := a') (l := ringN B F)
  rw [decide_eq_true h1] at ir
  simp [m__law_stays_from, t__law_stays_from_0, t__law_stays_from_1, sl, er, e, ir, -e_in]

theorem main (ns : List Int) (hl : ns.length ≤ 63) (hb : ∀ z ∈ ns, Builtin.Int.intBits z ≤ 1048576) : m_law [.scr (ns.map D.int)] = .ok (.bl true) := by
  obtain ⟨B, eB, hB, h0⟩ := board_t hb
  obtain ⟨F, l, e, I, hr, hll⟩ := levels_ok hB
  have hsm := hB.sm
  have len := I.len
  have e2 := ring_ok hB len e
  have e3 := stays_ok hB I hr e
  have er := rng_nat (n := B.length) (by omega)
  have li : listF [boardD B] = .ok (boardD B) := rfl
  obtain ⟨τ', ef, x5, x6, x7, rfl⟩ := fl_all (g := gn 5) (b := b_law_0) (F := iD) (xs := List.range B.length) (P := fun τ => ∃ x5 x6 x7 : D, τ = [.scr (ns.map D.int), boardD B, foundD F, .lst ((ringN B F).map iD), foundD (staysL B F), x5, x6, x7]) (τ := [.scr (ns.map D.int), boardD B, foundD F, .lst ((ringN B F).map iD), foundD (staysL B F), .non, .non, .non]) ⟨_, _, _, rfl⟩ (by
    intro a hk τ q
    obtain ⟨x5, x6, x7, rfl⟩ := q
    have hk : a < B.length := by simpa using hk
    have hp := List.getElem?_eq_getElem hk
    have op : B[a].Ok F.length := len ▸ hB.ok _ (List.getElem_mem hk)
    have ep : ixD (boardD B) (iD a) = .ok B[a].d := ixl_map hp
    have kd := kind_d B[a]
    have ir := in_ring (k := a) (l := ringN B F)
    have nr := nin_ring (k := a) (l := ringN B F)
    have ix := ixfv (F := F) (g := a) (by omega)
    have eg := fv_get (F := F) (g := a) (by omega)
    refine ⟨[.scr (ns.map D.int), boardD B, foundD F, .lst ((ringN B F).map iD), foundD (staysL B F), iD a, x6, x7], [.scr (ns.map D.int), boardD B, foundD F, .lst ((ringN B F).map iD), foundD (staysL B F), iD a, B[a].d, x7], rfl, ?_, _, _, _, rfl⟩
    cases c : fv F a with
    | none =>
      rw [c] at ix eg
      have u : kn F a = false := by unfold kn; rw [eg]
      have ha : a ∈ ringN B F := (mem_ring len).mpr ⟨hk, u⟩
      rw [decide_eq_true ha] at nr
      have sf := stays_from hl hb hB I hr ha
      have w : m__law_whole [fD none] = .ok (.bl false) := by simp [m__law_whole, t__law_whole_0, fD]
      simp [b_law_0, ep, ix, w, nr, sf, -e_nin]
    | some m =>
      rw [c] at ix eg
      have u : kn F a = true := kn_iff.mpr ⟨m, eg⟩
      have ha : ¬ a ∈ ringN B F := fun z => by
        have := ((mem_ring len).mp z).2
        rw [u] at this
        cases this
      rw [decide_eq_false ha] at ir
      have ef := ends_from hb hB I hll eg
      have w := whole_f (k := m)
      cases t : B[a].isE with
      | true =>
        rw [if_pos t] at kd
        have c1 : ¬ ("end" : Str) = "pick" := by decide
        simp [b_law_0, ep, ix, w, ir, ef, kd, c1, -e_in]
      | false =>
        rw [if_neg (by rw [t]; decide)] at kd
        cases t2 : B[a].isT with
        | true =>
          rw [if_pos t2] at kd
          have c1 : ¬ ("throw" : Str) = "pick" := by decide
          simp [b_law_0, ep, ix, w, ir, ef, kd, c1, -e_in]
        | false =>
          rw [if_neg (by rw [t2]; decide)] at kd
          obtain ⟨h1, _, hP⟩ := I.pos a _ m hp t eg
          obtain ⟨al, _⟩ := hP t2
          have e2' : ixD B[a].d (.int 2) = .ok (.lst (B[a].goals.map iD)) := by
            cases q : B[a] with
            | fin x y => rw [q] at t; cases t
            | thr x y z => rw [q] at t2; cases t2
            | pick w gs => simp [Pl.d, Pl.goals]
          have ls : B[a].goals.length ≤ 1000000 := by have := op.sm; omega
          have lc := lcl_some (g := gn 7) (t := tb (o2 inD (vr 7) (vr 3))) (e := vr 7) (τ := [.scr (ns.map D.int), boardD B, foundD F, .lst ((ringN B F).map iD), foundD (staysL B F), iD a, B[a].d, x7]) (F := iD) (G := iD) (p := fun _ => false) (xs := B[a].goals) fun g hg => ⟨[.scr (ns.map D.int), boardD B, foundD F, .lst ((ringN B F).map iD), foundD (staysL B F), iD a, B[a].d, iD g], rfl, by
            obtain ⟨j, ej, _⟩ := al g hg
            have ng : ¬ g ∈ ringN B F := fun z => by
              have := ((mem_ring len).mp z).2
              rw [kn_iff.mpr ⟨j, ej⟩] at this
              cases this
            have := in_ring (k := g) (l := ringN B F)
            rw [decide_eq_false ng] at this
            simp [this, -e_in], fun q => nomatch q⟩
          have fe : B[a].goals.filter (fun _ => false) = [] := List.filter_eq_nil_iff.mpr fun _ _ q => nomatch q
          rw [fe] at lc
          simp [b_law_0, ep, ix, w, ir, ef, kd, e2', lc, ls, -e_in])
  have ef' : fl (gn 5) b_law_0 ((List.range B.length).map fun (k : Nat) => D.int (k : Int)) _ = _ := ef
  have l2 : (staysL B F).length = B.length := by unfold staysL; rw [List.length_map, List.length_range]
  have e3 : m_stays [boardD B] = .ok (foundD (staysL B F)) := e3
  have n1 : lenD [foundD F] = .ok (.int B.length) := by unfold foundD; rw [e_lenl, List.length_map, len]
  have n2 : lenD [boardD B] = .ok (.int B.length) := by unfold boardD; rw [e_lenl, List.length_map]
  have n3 : lenD [foundD (staysL B F)] = .ok (.int B.length) := by unfold foundD; rw [e_lenl, List.length_map, l2]
  have k1 : isTD "list" (foundD F) = .ok (.bl true) := rfl
  have k3 : isTD "list" (foundD (staysL B F)) = .ok (.bl true) := rfl
  simp [m_law, t_law_0, t_law_1, t_law_2, t_law_3, t_law_4, t_law_5, t_law_6, t_law_7, eB, li, e, e2, e3, n1, n2, n3, k1, k3, er, ef']
end Lw
open PySem PySem.W PyProof.Rows
set_option maxRecDepth 100000 in
set_option maxHeartbeats 0 in
theorem PySem.Challenge.cw_pressluck_k22_whole_ends_come_to_holds : PySem.Challenge.rw_pressluck_k22_whole_ends_come_to.Holds := by
  w_on; o_law; k_head; (case hw => w_witness2)
  k_fill
  refine L2.walk_ofB (l := PySem.Challenge.rw_pressluck_k22_whole_ends_come_to) (n := 63) (k := 5) (x := "_law_script") (CX := fun w => L2.CX PySem.Challenge.pw_pressluck_k22_whole_ends_come_to w) (sp := fun w => Mx.spL _ Lw.m_law) rfl (by decide) rfl ⟨rfl, by decide, by decide⟩ (fun w h Y => PySem.W.kIn_of Y) ?F (fun w H a ns hl hb hO hS => Mx.law_spL hO hS (Lw.main ns hl hb)) (fun w H s e s' h => Mx.cx_no h)
  case F =>
    intro w mg fa h KX G hmg
    refine' Lw.all_mk KX G hmg ?a0 ?l0 ?q0 ?k0 ?a1 ?l1 ?q1 ?k1 ?a2 ?l2 ?q2 ?k2 ?a3 ?l3 ?q3 ?k3 ?a4 ?l4 ?q4 ?k4 ?a5 ?l5 ?q5 ?k5 ?a6 ?l6 ?q6 ?k6 ?a7 ?l7 ?q7 ?k7 ?a8 ?l8 ?q8 ?k8 ?a9 ?l9 ?q9 ?k9 ?a10 ?l10 ?q10 ?k10 ?a11 ?l11 ?q11 ?k11 ?a12 ?l12 ?q12 ?k12 ?a13 ?l13 ?q13 ?k13 ?a14 ?l14 ?q14 ?k14 ?y_bool ?y_enumerate ?y_int ?y_isinstance ?y_len ?y_list ?y_max ?y_min ?y_range
    (case a0 => k_is); (case l0 => k_is); (case q0 => k_is); (case k0 => k_is); (case a1 => k_is); (case l1 => k_is); (case q1 => k_is); (case k1 => k_is); (case a2 => k_is); (case l2 => k_is); (case q2 => k_is); (case k2 => k_is); (case a3 => k_is); (case l3 => k_is); (case q3 => k_is); (case k3 => k_is); (case a4 => k_is); (case l4 => k_is); (case q4 => k_is); (case k4 => k_is); (case a5 => k_is); (case l5 => k_is); (case q5 => k_is); (case k5 => k_is); (case a6 => k_is); (case l6 => k_is); (case q6 => k_is); (case k6 => k_is); (case a7 => k_is); (case l7 => k_is); (case q7 => k_is); (case k7 => k_is); (case a8 => k_is); (case l8 => k_is); (case q8 => k_is); (case k8 => k_is); (case a9 => k_is); (case l9 => k_is); (case q9 => k_is); (case k9 => k_is); (case a10 => k_is); (case l10 => k_is); (case q10 => k_is); (case k10 => k_is); (case a11 => k_is); (case l11 => k_is); (case q11 => k_is); (case k11 => k_is); (case a12 => k_is); (case l12 => k_is); (case q12 => k_is); (case k12 => k_is); (case a13 => k_is); (case l13 => k_is); (case q13 => k_is); (case k13 => k_is); (case a14 => k_is); (case l14 => k_is); (case q14 => k_is); (case k14 => k_is); (case y_bool => k_is); (case y_enumerate => k_is); (case y_int => k_is); (case y_isinstance => k_is); (case y_len => k_is); (case y_list => k_is); (case y_max => k_is); (case y_min => k_is); (case y_range => k_is)
