import PyProof.Rows.All
import Wide.All
import OpenK.AllK
import Wide.FinOn
import HandS.ForMost
import HandS.TupAny
import HandS.Wide
import HandS.Deep
import KE.DataCmp
import KE.DataAny
import KE.DataMinMax
import KE.DataIsa
import KE.SortData
import HandS.Conv
import HandS.SortInts
import HandS.Style
import HandS.Iter
import HandS.Zip
import KE.GoesEnum
import HandS.Ends
import HandS.SortKw
import PyProof.P3Eq
import KE.GoesZip
import KE.KDictZip
import PySem.Challenge.RW_rowswithin_k78_whole_zigzags
set_option Elab.async false
set_option linter.all false
set_option maxRecDepth 100000
set_option maxHeartbeats 4000000
/-! DA: values by value: the monad of answers, the state relation, judgements for expressions. -/
namespace DL
open PySem PySem.Spec PyProof.Rows L2

abbrev D := PyData
abbrev En := List (Option D)
abbrev Sl := L2.St

/-- an exception, by its class's name and its fields -/
structure Er where
  cls : String
  args : List D

/-- what a run answers: a value, an exception, a draw below n; bad: nothing is claimed -/
inductive M (α : Type) where
  | ret (x : α)
  | bad
  | err (e : Er)
  | draw (n : Nat) (k : Nat → M α)

namespace M
variable {α β γ : Type}
def bind : M α → (α → M β) → M β
  | ret x, f => f x
  | bad, _ => bad
  | err e, _ => err e
  | draw n k, f => draw n fun i => (k i).bind f
def wp : M α → (α → Prop) → (Er → Prop) → Prop
  | ret x, Q, _ => Q x
  | bad, _, _ => False
  | err e, _, E => E e
  | draw n k, Q, E => 0 < n ∧ ∀ i, i < n → (k i).wp Q E
theorem wp_bind {f : α → M β} {Q : β → Prop} {E : Er → Prop} : ∀ {m : M α}, (m.bind f).wp Q E ↔ m.wp (fun x => (f x).wp Q E) E
  | ret _ => Iff.rfl
  | bad => Iff.rfl
  | err _ => Iff.rfl
  | draw n k => by
    show (0 < n ∧ ∀ i, i < n → ((k i).bind f).wp Q E) ↔ (0 < n ∧ ∀ i, i < n → (k i).wp _ E)
    exact ⟨fun h => ⟨h.1, fun i hi => wp_bind.mp (h.2 i hi)⟩, fun h => ⟨h.1, fun i hi => wp_bind.mpr (h.2 i hi)⟩⟩
theorem wp_mono {Q Q' : α → Prop} {E E' : Er → Prop} (hQ : ∀ x, Q x → Q' x) (hE : ∀ e, E e → E' e) : ∀ {m : M α}, m.wp Q E → m.wp Q' E'
  | ret _, h => hQ _ h
  | bad, h => h
  | err _, h => hE _ h
  | draw _ _, h => ⟨h.1, fun i hi => wp_mono hQ hE (h.2 i hi)⟩
@[simp] theorem ret_bind (x : α) (f : α → M β) : (ret x).bind f = f x := rfl
@[simp] theorem bad_bind (f : α → M β) : (bad : M α).bind f = bad := rfl
@[simp] theorem err_bind (e : Er) (f : α → M β) : (err e : M α).bind f = err e := rfl
@[simp] theorem draw_bind (n : Nat) (k : Nat → M α) (f : α → M β) : (draw n k).bind f = draw n fun i => (k i).bind f := rfl
theorem bind_assoc {f : α → M β} {g : β → M γ} : ∀ {m : M α}, (m.bind f).bind g = m.bind fun x => (f x).bind g
  | ret _ => rfl
  | bad => rfl
  | err _ => rfl
  | draw n k => by
    show draw n _ = draw n _
    congr 1
    funext i
    exact bind_assoc
end M
abbrev noE : Er → Prop := fun _ => False

/-- a thing that a slot holds alone and that is known by a predicate of its own -/
structure Raw where
  ok : PySem.W.Frag → Hp → V → List Addr → Prop
  fr : ∀ {K H H' v S}, ok K H v S → (∀ a ∈ S, H' a = H a) → ok K H' v S
  there : ∀ {K H v S}, ok K H v S → ∀ a ∈ S, H a ≠ none
/-- .. with what it holds told by a value; F: the frozen part -/
structure RawS where
  ok : PySem.W.Frag → Hp → Hp → V → D → List Addr → Prop
  fr : ∀ {K F F' H H' v d S}, ok K F H v d S → Same F F' → (∀ a ∈ S, H' a = H a) → ok K F' H' v d S
inductive Kd where
  | lst
  | raw (R : Raw)
  | st (R : RawS)
abbrev Own := List (Nat × Kd)

mutual
/-- v stands for d, by what is in H -/
inductive Rp (K : PySem.W.Frag) (H : Hp) : V → D → Prop
  | non : Rp K H .non .none
  | bl (b : Bool) : Rp K H (.bl b) (.bool b)
  | int (i : Int) : Rp K H (.int i) (.int i)
  | str (x : Str) : Rp K H (.str x) (.str x)
  | lst {a : Addr} {xs : List V} {ds : List D} : H a = some (.lst xs) → RpAll K H xs ds → Rp K H (.ref a) (.list ds)
  | tup {a : Addr} {xs : List V} {ds : List D} : SqT K H a xs → RpAll K H xs ds → Rp K H (.ref a) (.tuple ds)
inductive RpAll (K : PySem.W.Frag) (H : Hp) : List V → List D → Prop
  | nil : RpAll K H [] []
  | cons {v : V} {vs : List V} {d : D} {ds : List D} : Rp K H v d → RpAll K H vs ds → RpAll K H (v :: vs) (d :: ds)
end
mutual
theorem Rp.dp {K : PySem.W.Frag} {H : Hp} : ∀ {v : V} {d : D}, Rp K H v d → Dp K H v d
  | _, _, .non => .non
  | _, _, .bl b => .bl b
  | _, _, .int i => .int i
  | _, _, .str x => .str x
  | _, _, .lst hs ha => .lst (SqL.of hs) (RpAll.dp ha)
  | _, _, .tup hs ha => .tup hs (RpAll.dp ha)
theorem RpAll.dp {K : PySem.W.Frag} {H : Hp} : ∀ {vs : List V} {ds : List D}, RpAll K H vs ds → DpAll K H vs ds
  | _, _, .nil => .nil
  | _, _, .cons h1 h2 => .cons h1.dp (RpAll.dp h2)
end

def OwnAt (K : PySem.W.Frag) (F H : Hp) : Kd → V → D → List Addr → Prop
  | .lst, v, d, S => ∃ a vs ds, v = .ref a ∧ d = .list ds ∧ S = [a] ∧ H a = some (.lst vs) ∧ RpAll K F vs ds
  | .raw R, v, d, S => d = .none ∧ R.ok K H v S
  | .st R, v, d, S => R.ok K F H v d S

/-- what stays the same through a def's run: B what stood at the entry and is not the def's own; F0 what was frozen there; Z: slots that are not stored into -/
structure Y where
  B : Hp
  F0 : Hp
  Z : List (Nat × V)

structure SR (K : PySem.W.Frag) (y : Y) (o : Own) (σ : Sl) (H : Hp) (ρ : En) (F : Hp) : Prop where
  len : ρ.length = σ.length
  fz : Same F H
  bs : Same y.B H
  f0 : Same y.F0 F
  pr : ∀ a, y.B a ≠ none → y.F0 a = none → F a = none
  pin : ∀ p ∈ y.Z, σ[p.1]? = some (some p.2)
  imm : ∀ i d, ρ[i]? = some (some d) → o.lookup i = none → ∃ v, σ[i]? = some (some v) ∧ Rp K F v d
  own : ∃ S : Nat → List Addr, (∀ i kd, o.lookup i = some kd → ∃ v d, σ[i]? = some (some v) ∧ ρ[i]? = some (some d) ∧ OwnAt K F H kd v d (S i) ∧ ∀ a ∈ S i, F a = none ∧ y.B a = none ∧ H a ≠ none) ∧
    ∀ i j kd kd', o.lookup i = some kd → o.lookup j = some kd' → i ≠ j → ∀ a ∈ S i, a ∉ S j

/-- the frozen part and the heap grow -/
structure Ext (F H F' H' : Hp) : Prop where
  f : Same F F'
  fz : Same F' H'
  h : Same H H'
  new : ∀ a, H a ≠ none → F a = none → F' a = none

theorem Ext.refl {F H : Hp} (h : Same F H) : Ext F H F H := ⟨.refl _, h, .refl _, fun _ _ e => e⟩
theorem Ext.trans {F H F1 H1 F2 H2 : Hp} (a : Ext F H F1 H1) (b : Ext F1 H1 F2 H2) : Ext F H F2 H2 :=
  ⟨a.f.trans b.f, b.fz, a.h.trans b.h, fun c hc hf => b.new c (fun e => hc (a.h.free e)) (a.new c hc hf)⟩

theorem same_at {H H' : Hp} (e : Same H H') {a : Addr} (h : H a ≠ none) : H' a = H a := by
  cases q : H a with
  | none => exact absurd q h
  | some o => exact e a o q
mutual
theorem rp_mono {K : PySem.W.Frag} {H H' : Hp} (e : Same H H') : ∀ {v : V} {d : D}, Rp K H v d → Rp K H' v d
  | _, _, .non => .non
  | _, _, .bl b => .bl b
  | _, _, .int i => .int i
  | _, _, .str x => .str x
  | _, _, .lst hs ha => .lst (e _ _ hs) (rpAll_mono e ha)
  | _, _, .tup hs ha => .tup (by
      rcases hs with (h | ⟨o, h⟩) | h
      · exact .inl (.inl (e _ _ h))
      · exact .inl (.inr ⟨o, e _ _ h⟩)
      · exact .inr h) (rpAll_mono e ha)
theorem rpAll_mono {K : PySem.W.Frag} {H H' : Hp} (e : Same H H') : ∀ {vs : List V} {ds : List D}, RpAll K H vs ds → RpAll K H' vs ds
  | _, _, .nil => .nil
  | _, _, .cons h1 h2 => .cons (rp_mono e h1) (rpAll_mono e h2)
end
theorem rpAll_len {K : PySem.W.Frag} {H : Hp} : ∀ {vs : List V} {ds : List D}, RpAll K H vs ds → vs.length = ds.length
  | _, _, .nil => rfl
  | _, _, .cons _ h2 => by simp only [List.length_cons, rpAll_len h2]
theorem rpAll_get {K : PySem.W.Frag} {H : Hp} : ∀ {vs : List V} {ds : List D} {i : Nat} {d : D}, RpAll K H vs ds → ds[i]? = some d → ∃ v, vs[i]? = some v ∧ Rp K H v d
  | _, _, _, _, .nil, e => by simp at e
  | _, _, 0, _, .cons h1 _, e => by simp at e; subst e; exact ⟨_, rfl, h1⟩
  | _, _, i + 1, _, .cons _ h2, e => by
    obtain ⟨v, e1, h⟩ := rpAll_get (i := i) h2 (by simpa using e)
    exact ⟨v, by simpa using e1, h⟩
theorem rpAll_append {K : PySem.W.Frag} {H : Hp} : ∀ {vs ws : List V} {ds es : List D}, RpAll K H vs ds → RpAll K H ws es → RpAll K H (vs ++ ws) (ds ++ es)
  | _, _, _, _, .nil, h => h
  | _, _, _, _, .cons h1 h2, h => .cons h1 (rpAll_append h2 h)
theorem rpAll_take {K : PySem.W.Frag} {H : Hp} : ∀ {vs : List V} {ds : List D} (n : Nat), RpAll K H vs ds → RpAll K H (vs.take n) (ds.take n)
  | _, _, 0, _ => by simp; exact .nil
  | _, _, _ + 1, .nil => .nil
  | _, _, n + 1, .cons h1 h2 => .cons h1 (rpAll_take n h2)
theorem rpAll_drop {K : PySem.W.Frag} {H : Hp} : ∀ {vs : List V} {ds : List D} (n : Nat), RpAll K H vs ds → RpAll K H (vs.drop n) (ds.drop n)
  | _, _, 0, h => h
  | _, _, _ + 1, .nil => .nil
  | _, _, n + 1, .cons _ h2 => rpAll_drop n h2
theorem rpAll_set {K : PySem.W.Frag} {H : Hp} {v : V} {d : D} (h : Rp K H v d) : ∀ {vs : List V} {ds : List D} (n : Nat), RpAll K H vs ds → RpAll K H (vs.set n v) (ds.set n d)
  | _, _, _, .nil => .nil
  | _, _, 0, .cons _ h2 => .cons h h2
  | _, _, n + 1, .cons h1 h2 => .cons h1 (rpAll_set h n h2)
theorem rpAll_erase {K : PySem.W.Frag} {H : Hp} : ∀ {vs : List V} {ds : List D} (n : Nat), RpAll K H vs ds → RpAll K H (vs.eraseIdx n) (ds.eraseIdx n)
  | _, _, _, .nil => .nil
  | _, _, 0, .cons _ h2 => h2
  | _, _, n + 1, .cons h1 h2 => .cons h1 (rpAll_erase n h2)
theorem rpAll_reverse {K : PySem.W.Frag} {H : Hp} : ∀ {vs : List V} {ds : List D}, RpAll K H vs ds → RpAll K H vs.reverse ds.reverse
  | _, _, .nil => .nil
  | _, _, .cons h1 h2 => by
    rw [List.reverse_cons, List.reverse_cons]
    exact rpAll_append (rpAll_reverse h2) (.cons h1 .nil)

theorem ownAt_ext {K : PySem.W.Frag} {F H F' H' : Hp} {kd : Kd} {v : V} {d : D} {S : List Addr} (h : OwnAt K F H kd v d S) (hf : Same F F') (hh : ∀ a ∈ S, H' a = H a) : OwnAt K F' H' kd v d S := by
  cases kd with
  | lst =>
    obtain ⟨a, vs, ds, e1, e2, e3, e4, e5⟩ := h
    refine ⟨a, vs, ds, e1, e2, e3, ?_, rpAll_mono hf e5⟩
    rw [hh a (by rw [e3]; exact List.mem_cons_self)]; exact e4
  | raw R => exact ⟨h.1, R.fr h.2 hh⟩
  | st R => exact R.fr h hf hh

section
variable {K : PySem.W.Frag} {y : Y} {o : Own} {σ : Sl} {H H' F F' : Hp} {ρ : En}
theorem SR.ext (s : SR K y o σ H ρ F) (e : Ext F H F' H') : SR K y o σ H' ρ F' where
  len := s.len
  fz := e.fz
  bs := s.bs.trans e.h
  f0 := s.f0.trans e.f
  pr := fun a hb h0 => e.new a (fun z => hb (s.bs.free z)) (s.pr a hb h0)
  pin := s.pin
  imm := fun i d h1 h2 => let ⟨v, e1, q⟩ := s.imm i d h1 h2; ⟨v, e1, rp_mono e.f q⟩
  own := by
    obtain ⟨S, h1, h2⟩ := s.own
    refine ⟨S, fun i kd hi => ?_, h2⟩
    obtain ⟨v, d, e1, e2, e3, e4⟩ := h1 i kd hi
    refine ⟨v, d, e1, e2, ownAt_ext e3 e.f fun a ha => same_at e.h (e4 a ha).2.2, fun a ha => ?_⟩
    obtain ⟨q1, q2, q3⟩ := e4 a ha
    exact ⟨e.new a q3 q1, q2, fun z => q3 (e.h.free z)⟩
theorem SR.refl_ext (s : SR K y o σ H ρ F) : Ext F H F H := .refl s.fz
end

/-- flat values -/
def flatD : D → Bool
  | .none => true
  | .bool _ => true
  | .int _ => true
  | .str _ => true
  | _ => false
def vOf : D → V
  | .none => .non
  | .bool b => .bl b
  | .int i => .int i
  | .str x => .str x
  | _ => .non
theorem rp_flat {K : PySem.W.Frag} {H : Hp} : ∀ {d : D}, flatD d = true → Rp K H (vOf d) d
  | .none, _ => .non
  | .bool b, _ => .bl b
  | .int i, _ => .int i
  | .str x, _ => .str x

/-! ### judgements for expressions -/
/-- e hands back data (frozen) -/
structure DE (X : Cx) (o : Own) (e : Expr) (f : En → M D) (t : TE) : Prop where
  p : PE X e t
  q : ∀ (y : Y) (σ : Sl) (H : Hp) (ρ : En) (F : Hp) (Q : VK), SR X.K y o σ H ρ F →
    (f ρ).wp (fun d => ∀ v H' F', SR X.K y o σ H' ρ F' → Same F F' → Rp X.K F' v d → Q v H') noE → t σ H Q
/-- data, or a list that a slot holds alone, looked at -/
def RB (K : PySem.W.Frag) (o : Own) (σ : Sl) (ρ : En) (F : Hp) (v : V) (d : D) : Prop :=
  Rp K F v d ∨ ∃ i, o.lookup i = some .lst ∧ σ[i]? = some (some v) ∧ ρ[i]? = some (some d)
structure DB (X : Cx) (o : Own) (e : Expr) (f : En → M D) (t : TE) : Prop where
  p : PE X e t
  q : ∀ (y : Y) (σ : Sl) (H : Hp) (ρ : En) (F : Hp) (Q : VK), SR X.K y o σ H ρ F →
    (f ρ).wp (fun d => ∀ v H' F', SR X.K y o σ H' ρ F' → Same F F' → RB X.K o σ ρ F' v d → Q v H') noE → t σ H Q
/-- a new list, nobody else's -/
def Y.with (y : Y) (a : Addr) (vs : List V) : Y := ⟨upd y.B a (.lst vs), y.F0, y.Z⟩
structure DN (X : Cx) (o : Own) (e : Expr) (f : En → M D) (t : TE) : Prop where
  p : PE X e t
  q : ∀ (y : Y) (σ : Sl) (H : Hp) (ρ : En) (F : Hp) (Q : VK), SR X.K y o σ H ρ F →
    (f ρ).wp (fun d => ∀ a vs ds H' F', d = .list ds → y.B a = none → y.F0 a = none → SR X.K (y.with a vs) o σ H' ρ F' → Same F F' → RpAll X.K F' vs ds → Q (.ref a) H') noE → t σ H Q
/-- a test -/
structure DT (X : Cx) (o : Own) (e : Expr) (f : En → M Bool) (t : TT) : Prop where
  p : PT X e t
  q : ∀ (y : Y) (σ : Sl) (H : Hp) (ρ : En) (F : Hp) (Q : Bool → Hp → Prop), SR X.K y o σ H ρ F →
    (f ρ).wp (fun b => ∀ H' F', SR X.K y o σ H' ρ F' → Same F F' → Q b H') noE → t σ H Q

section
variable {X : Cx} {o : Own} {e : Expr} {f : En → M D} {K : PySem.W.Frag} {y : Y} {σ : Sl} {H H' F F' : Hp} {ρ : En}
theorem DE.b {t : TE} (h : DE X o e f t) : DB X o e f t :=
  ⟨h.p, fun y σ H ρ F Q s w => h.q y σ H ρ F Q s (M.wp_mono (fun d k v H' F' s' e' hd => k v H' F' s' e' (.inl hd)) (fun _ z => z) w)⟩
/-- the list at a is frozen -/
theorem sr_freeze {a : Addr} {vs : List V} {ds : List D} (h0 : y.F0 a = none) (hB : y.B a = none) (s : SR K (y.with a vs) o σ H ρ F) (ha : RpAll K F vs ds) :
    SR K y o σ H ρ (upd F a (.lst vs)) ∧ Same F (upd F a (.lst vs)) ∧ Rp K (upd F a (.lst vs)) (.ref a) (.list ds) := by
  have hb : (y.with a vs).B a = some (.lst vs) := upd_same
  have hHa : H a = some (.lst vs) := s.bs _ _ hb
  have hFa : F a = none := s.pr a (by rw [hb]; exact nofun) h0
  have e1 : Same F (upd F a (.lst vs)) := fun b u e => by rw [upd_ne (ne_of_none e hFa)]; exact e
  refine ⟨⟨s.len, fun b u e => ?_, fun b u e => s.bs b u ?_, s.f0.trans e1, fun b q1 q2 => ?_, s.pin, fun i d q1 q2 => ?_, ?_⟩, e1, .lst upd_same (rpAll_mono e1 ha)⟩
  · by_cases z : b = a
    · subst z; rw [upd_same] at e; rw [hHa]; exact e
    · rw [upd_ne z] at e; exact s.fz b u e
  · show upd y.B a (.lst vs) b = some u
    rw [upd_ne (ne_of_none e hB)]; exact e
  · have z : b ≠ a := fun z => q1 (z ▸ hB)
    rw [upd_ne z]
    exact s.pr b (by show upd y.B a (.lst vs) b ≠ none; rw [upd_ne z]; exact q1) q2
  · obtain ⟨v, p1, p2⟩ := s.imm i d q1 q2
    exact ⟨v, p1, rp_mono e1 p2⟩
  · obtain ⟨S, h1, h2⟩ := s.own
    refine ⟨S, fun i kd hi => ?_, h2⟩
    obtain ⟨v, d, p1, p2, p3, p4⟩ := h1 i kd hi
    refine ⟨v, d, p1, p2, ownAt_ext p3 e1 fun _ _ => rfl, fun b hbS => ?_⟩
    obtain ⟨r1, r2, r3⟩ := p4 b hbS
    have z : b ≠ a := fun z => by
      have r2' : upd y.B a (.lst vs) b = none := r2
      rw [z, upd_same] at r2'; cases r2'
    refine ⟨by rw [upd_ne z]; exact r1, ?_, r3⟩
    have r2' : upd y.B a (.lst vs) b = none := r2
    rw [upd_ne z] at r2'; exact r2'
theorem DN.fr {t : TE} (h : DN X o e f t) : DE X o e f t := by
  refine ⟨h.p, fun y σ H ρ F Q s w => h.q y σ H ρ F Q s (M.wp_mono (fun d k a vs ds H' F' ed hB h0 s' e' hd => ?_) (fun _ z => z) w)⟩
  subst ed
  obtain ⟨s2, e2, d2⟩ := sr_freeze h0 hB s' hd
  exact k _ _ _ s2 (e'.trans e2) d2
theorem DN.b {t : TE} (h : DN X o e f t) : DB X o e f t := h.fr.b

theorem RB.mono {v : V} {d : D} (r : RB K o σ ρ F v d) (e : Same F F') : RB K o σ ρ F' v d := by
  rcases r with r | r
  · exact .inl (rp_mono e r)
  · exact .inr r
/-- what a looked-at value is in the whole heap -/
theorem RB.rp {v : V} {d : D} (s : SR K y o σ H ρ F) (r : RB K o σ ρ F v d) : Rp K H v d := by
  rcases r with r | ⟨i, h1, h2, h3⟩
  · exact rp_mono s.fz r
  · obtain ⟨S, g1, _⟩ := s.own
    obtain ⟨v', d', e1, e2, e3, _⟩ := g1 i .lst h1
    rw [h2] at e1; cases e1
    rw [h3] at e2; cases e2
    obtain ⟨a, vs, ds, rfl, rfl, _, e4, e5⟩ := e3
    exact .lst e4 (rpAll_mono s.fz e5)
/-- a looked-at list's items are frozen -/
theorem RB.list {v : V} {ds : List D} (s : SR K y o σ H ρ F) (r : RB K o σ ρ F v (.list ds)) : ∃ a vs, v = .ref a ∧ H a = some (.lst vs) ∧ RpAll K F vs ds := by
  rcases r with r | ⟨i, h1, h2, h3⟩
  · cases r with
    | lst hs ha => exact ⟨_, _, rfl, s.fz _ _ hs, ha⟩
  · obtain ⟨S, g1, _⟩ := s.own
    obtain ⟨v', d', e1, e2, e3, _⟩ := g1 i .lst h1
    rw [h2] at e1; cases e1
    rw [h3] at e2; cases e2
    obtain ⟨a, vs, ds', rfl, e6, _, e4, e5⟩ := e3
    cases e6
    exact ⟨a, vs, rfl, e4, e5⟩
theorem RB.tup {v : V} {ds : List D} (s : SR K y o σ H ρ F) (r : RB K o σ ρ F v (.tuple ds)) : ∃ a vs, v = .ref a ∧ SqT K H a vs ∧ RpAll K F vs ds := by
  rcases r with r | ⟨i, h1, h2, h3⟩
  · cases r with
    | tup hs ha =>
      refine ⟨_, _, rfl, ?_, ha⟩
      rcases hs with (h | ⟨o, h⟩) | h
      · exact .inl (.inl (s.fz _ _ h))
      · exact .inl (.inr ⟨o, s.fz _ _ h⟩)
      · exact .inr h
  · obtain ⟨S, g1, _⟩ := s.own
    obtain ⟨v', d', e1, e2, e3, _⟩ := g1 i .lst h1
    rw [h2] at e1; cases e1
    rw [h3] at e2; cases e2
    obtain ⟨a, vs, ds', rfl, e6, _⟩ := e3
    cases e6

/-! ### names and constants -/
def eVar (i : Nat) : En → M D := fun ρ => match ρ[i]? with
  | some (some d) => .ret d
  | _ => .bad
def eC (d : D) : En → M D := fun _ => .ret d
theorem de_var {e : Expr} (i : Nat) (h : PE X e (tVar i)) (ho : o.lookup i = none := by rfl) : DE X o e (eVar i) (tVar i) := by
  refine ⟨h, fun y σ H ρ F Q s w => ?_⟩
  unfold eVar at w
  split at w
  · rename_i d hd
    obtain ⟨v, h1, h2⟩ := s.imm i d hd ho
    exact ⟨v, h1, w v H F s (.refl _) h2⟩
  · exact w.elim
theorem db_own {e : Expr} (i : Nat) (h : PE X e (tVar i)) (ho : o.lookup i = some .lst := by rfl) : DB X o e (eVar i) (tVar i) := by
  refine ⟨h, fun y σ H ρ F Q s w => ?_⟩
  unfold eVar at w
  split at w
  · rename_i d hd
    obtain ⟨S, g1, _⟩ := s.own
    obtain ⟨v, d', e1, e2, _, _⟩ := g1 i .lst ho
    exact ⟨v, e1, w v H F s (.refl _) (.inr ⟨i, ho, e1, hd⟩)⟩
  · exact w.elim
theorem de_c {e : Expr} (d : D) (h : PE X e (tC (vOf d))) (hf : flatD d = true := by rfl) : DE X o e (eC d) (tC (vOf d)) :=
  ⟨h, fun y σ H ρ F Q s w => w _ H F s (.refl _) (rp_flat hf)⟩

/-! ### operators -/
/-- an operator on data whose answer is flat -/
def OpFl (K : PySem.W.Frag) (r : R2) (g : D → D → M D) : Prop := ∀ x z H d e (Q : VK), Rp K H x d → Rp K H z e → (g d e).wp (fun u => flatD u = true → Q (vOf u) H) noE → r x z H Q
def eBin (g : D → D → M D) (fa fb : En → M D) : En → M D := fun ρ => (fa ρ).bind fun x => (fb ρ).bind fun z => g x z
theorem bin_fl {r : R2} {g : D → D → M D} {ta tb : TE} {fa fb : En → M D} (hg : OpFl X.K r g)
    (qa : ∀ (y : Y) (σ : Sl) (H : Hp) (ρ : En) (F : Hp) (Q : VK), SR X.K y o σ H ρ F → (fa ρ).wp (fun d => ∀ v H' F', SR X.K y o σ H' ρ F' → Same F F' → RB X.K o σ ρ F' v d → Q v H') noE → ta σ H Q)
    (qb : ∀ (y : Y) (σ : Sl) (H : Hp) (ρ : En) (F : Hp) (Q : VK), SR X.K y o σ H ρ F → (fb ρ).wp (fun d => ∀ v H' F', SR X.K y o σ H' ρ F' → Same F F' → RB X.K o σ ρ F' v d → Q v H') noE → tb σ H Q)
    (s : SR X.K y o σ H ρ F) {Q : VK} (w : (eBin g fa fb ρ).wp (fun d => ∀ v H' F', SR X.K y o σ H' ρ F' → Same F F' → (flatD d = true ∧ v = vOf d) → Q v H') noE) : tOp r ta tb σ H Q := by
  unfold eBin at w
  refine qa y σ H ρ F _ s (M.wp_mono (fun d k v H' F' s' e' hd => ?_) (fun _ z => z) (M.wp_bind.mp w))
  refine qb y σ H' ρ F' _ s' (M.wp_mono (fun d2 k2 v2 H2 F2 s2 e2 hd2 => ?_) (fun _ z => z) (M.wp_bind.mp k))
  refine hg v v2 H2 d d2 _ (RB.rp s2 (hd.mono e2)) (RB.rp s2 hd2) (M.wp_mono (fun u k3 hu => ?_) (fun _ z => z) k2)
  exact k3 _ H2 F2 s2 (e'.trans e2) ⟨hu, rfl⟩
theorem de_bin {ta tb : TE} {op : Operator} {r : R2} {g : D → D → M D} {a b : Expr} {fa fb : En → M D} {pos : Pos} (hr : OpR X (binaryOp op) r) (hg : OpFl X.K r g) (ha : DB X o a fa ta) (hb : DB X o b fb tb) : DE X o (.BinOp a op b pos) (eBin g fa fb) (tOp r ta tb) := by
  refine ⟨pe_op hr ha.p hb.p, fun y σ H ρ F Q s w => bin_fl hg ha.q hb.q s (M.wp_mono (fun d k v H' F' s' e' hd => ?_) (fun _ z => z) w)⟩
  obtain ⟨h1, rfl⟩ := hd
  exact k _ _ _ s' e' (rp_flat h1)
theorem de_cmp {ta tb : TE} {op : CmpOp} {r : R2} {g : D → D → M D} {a b : Expr} {fa fb : En → M D} {pos : Pos} (hr : OpR X (compareOp op) r) (hg : OpFl X.K r g) (ha : DB X o a fa ta) (hb : DB X o b fb tb) (hm : behindInMarks op b = false) : DE X o (.Compare a [op] [b] pos) (eBin g fa fb) (tOp r ta tb) := by
  refine ⟨pe_cmpR hr ha.p hb.p hm, fun y σ H ρ F Q s w => bin_fl hg ha.q hb.q s (M.wp_mono (fun d k v H' F' s' e' hd => ?_) (fun _ z => z) w)⟩
  obtain ⟨h1, rfl⟩ := hd
  exact k _ _ _ s' e' (rp_flat h1)
/-- a bool as a test -/
def asB : D → M Bool
  | .bool b => .ret b
  | _ => .bad
def eTest (f : En → M D) : En → M Bool := fun ρ => (f ρ).bind asB
theorem dt_val {f : En → M D} {t : TE} (h : DE X o e f t) (he : ∀ whole, isTrue e X.env whole = (do let v ← whole; standAt e.pos; holding [v] (truthy v)) := by intro _; rfl) : DT X o e (eTest f) (tB t) := by
  refine ⟨pt_val h.p he, fun y σ H ρ F Q s w => h.q y σ H ρ F _ s (M.wp_mono (fun d k v H' F' s' e' hd => ?_) (fun _ z => z) (M.wp_bind.mp w))⟩
  cases hd with
  | bl b => exact ⟨b, rfl, k H' F' s' e'⟩
  | _ => exact k.elim
theorem dt_cmp {ta tb : TE} {op : CmpOp} {r : R2} {g : D → D → M D} {a b : Expr} {fa fb : En → M D} {pos : Pos} (hr : OpR X (compareOp op) r) (hg : OpFl X.K r g) (ha : DB X o a fa ta) (hb : DB X o b fb tb) (hm : behindInMarks op b = false) : DT X o (.Compare a [op] [b] pos) (eTest (eBin g fa fb)) (tTest (tOp r ta tb)) := by
  refine ⟨pt_cmpR hr ha.p hb.p hm, fun y σ H ρ F Q s w => bin_fl hg ha.q hb.q s (M.wp_mono (fun d k v H' F' s' e' hd => ?_) (fun _ z => z) (M.wp_bind.mp w))⟩
  obtain ⟨h1, rfl⟩ := hd
  cases d with
  | bool b => exact ⟨b, rfl, k H' F' s' e'⟩
  | _ => exact k.elim
def tAndD (f g : En → M Bool) : En → M Bool := fun ρ => (f ρ).bind fun b => if b then g ρ else .ret false
def tOrD (f g : En → M Bool) : En → M Bool := fun ρ => (f ρ).bind fun b => if b then .ret true else g ρ
def tNotD (f : En → M Bool) : En → M Bool := fun ρ => (f ρ).bind fun b => .ret (!b)
structure DW (X : Cx) (o : Own) (e : Expr) (f : En → M Bool) (t : TT) : Prop where
  p : PW X e t
  q : ∀ (y : Y) (σ : Sl) (H : Hp) (ρ : En) (F : Hp) (Q : Bool → Hp → Prop), SR X.K y o σ H ρ F →
    (f ρ).wp (fun b => ∀ H' F', SR X.K y o σ H' ρ F' → Same F F' → Q b H') noE → t σ H Q
theorem DW.t {f : En → M Bool} {t : TT} (h : DW X o e f t) : DT X o e f t := ⟨h.p.pt, h.q⟩
variable {a b c : Expr} {rest : List Expr} {pos : Pos} {fa fb : En → M Bool} {t t2 : TT}
theorem dw_and1 (h : DT X o a fa t) : DW X o (.BoolOp .And [a] pos) fa t := ⟨pw_and1 h.p, h.q⟩
theorem dw_or1 (h : DT X o a fa t) : DW X o (.BoolOp .Or [a] pos) fa t := ⟨pw_or1 h.p, h.q⟩
theorem dw_and (h : DT X o a fa t) (h2 : DW X o (.BoolOp .And (b :: rest) pos) fb t2) : DW X o (.BoolOp .And (a :: b :: rest) pos) (tAndD fa fb) (tAnd t t2) := by
  refine ⟨pw_and h.p h2.p, fun y σ H ρ F Q s w => h.q y σ H ρ F _ s (M.wp_mono (fun c k H' F' s' e' => ?_) (fun _ z => z) (M.wp_bind.mp w))⟩
  cases c with
  | true => exact iteT (h2.q y σ H' ρ F' _ s' (M.wp_mono (fun c k H2 F2 s2 e2 => k H2 F2 s2 (e'.trans e2)) (fun _ z => z) k))
  | false => exact iteF (k H' F' s' e')
theorem dw_or (h : DT X o a fa t) (h2 : DW X o (.BoolOp .Or (b :: rest) pos) fb t2) : DW X o (.BoolOp .Or (a :: b :: rest) pos) (tOrD fa fb) (tOr t t2) := by
  refine ⟨pw_or h.p h2.p, fun y σ H ρ F Q s w => h.q y σ H ρ F _ s (M.wp_mono (fun c k H' F' s' e' => ?_) (fun _ z => z) (M.wp_bind.mp w))⟩
  cases c with
  | false => exact iteF (h2.q y σ H' ρ F' _ s' (M.wp_mono (fun c k H2 F2 s2 e2 => k H2 F2 s2 (e'.trans e2)) (fun _ z => z) k))
  | true => exact iteT (k H' F' s' e')
theorem dt_not (h : DT X o a fa t) : DT X o (.UnaryOp .Not a pos) (tNotD fa) (tNot t) := by
  exact ⟨pt_not h.p, fun y σ H ρ F Q s w => h.q y σ H ρ F _ s (M.wp_mono (fun c k H' F' s' e' => k H' F' s' e') (fun _ z => z) (M.wp_bind.mp w))⟩
/-- a if t else b -/
def eIf (c : En → M Bool) (f g : En → M D) : En → M D := fun ρ => (c ρ).bind fun b => if b then f ρ else g ρ
theorem de_if {ta tb : TE} {fc : En → M Bool} {f g : En → M D} (hc : DT X o c fc t) (ha : DE X o a f ta) (hb : DE X o b g tb) : DE X o (.IfExp c a b pos) (eIf fc f g) (tIf t ta tb) := by
  refine ⟨pe_ifExp hc.p ha.p hb.p, fun y σ H ρ F Q s w => hc.q y σ H ρ F _ s (M.wp_mono (fun c k H' F' s' e' => ?_) (fun _ z => z) (M.wp_bind.mp w))⟩
  cases c with
  | true => exact iteT (ha.q y σ H' ρ F' _ s' (M.wp_mono (fun c k v H2 F2 s2 e2 hd => k v H2 F2 s2 (e'.trans e2) hd) (fun _ z => z) k))
  | false => exact iteF (hb.q y σ H' ρ F' _ s' (M.wp_mono (fun c k v H2 F2 s2 e2 hd => k v H2 F2 s2 (e'.trans e2) hd) (fun _ z => z) k))
end
end DL

set_option Elab.async false
set_option linter.all false
set_option maxRecDepth 100000
set_option maxHeartbeats 4000000
/-! DO: operators on data. -/
namespace DL
open PySem PySem.Spec PyProof.Rows L2

/-! ### ints -/
def addI : D → D → M D
  | .int i, .int j => .ret (.int (i + j))
  | _, _ => .bad
def subD : D → D → M D
  | .int i, .int j => .ret (.int (i - j))
  | _, _ => .bad
def mulD : D → D → M D
  | .int i, .int j => if (decide (-(2 ^ 64) < i) && decide (i < 2 ^ 64)) || (decide (-(2 ^ 64) < j) && decide (j < 2 ^ 64)) then .ret (.int (i * j))
    else if i.natAbs.log2 + j.natAbs.log2 < 1000000 then .ret (.int (i * j)) else .bad
  | _, _ => .bad
def fdivD : D → D → M D
  | .int i, .int j => if j == 0 then .bad else if j.natAbs < 1073741824 then .ret (.int (i.fdiv j)) else if 0 < j ∧ j.natAbs.log2 < 9000 then .ret (.int (i / j)) else .bad
  | _, _ => .bad
def modD : D → D → M D
  | .int i, .int j => if j == 0 then .bad else .ret (.int (i.fmod j))
  | _, _ => .bad
def powD : D → D → M D
  | .int i, .int j => if 0 ≤ j ∧ j ≤ 1000000 ∧ i.natAbs < 2 ^ 64 then .ret (.int (i ^ j.toNat)) else .bad
  | _, _ => .bad
def shlD : D → D → M D
  | .int i, .int j => if 0 ≤ j ∧ j ≤ 1000000 ∧ i.natAbs < 2 ^ 64 then .ret (.int (i * 2 ^ j.toNat)) else .bad
  | _, _ => .bad
def shrD : D → D → M D
  | .int i, .int j => if 0 ≤ j then .ret (.int (i / 2 ^ j.toNat)) else .bad
  | _, _ => .bad
def andD : D → D → M D
  | .int i, .int j => .ret (.int (Builtin.bitAnd i j))
  | _, _ => .bad
def orD : D → D → M D
  | .int i, .int j => .ret (.int (Builtin.bitOr i j))
  | _, _ => .bad
section
variable {K : PySem.W.Frag}
theorem fl_int0 {g : Int → Int → V} {G : Int → Int → D} (hg : ∀ i j, vOf (G i j) = g i j) (hf : ∀ i j, flatD (G i j) = true) :
    OpFl K (rI0 g) (fun d e => match d, e with
      | .int i, .int j => .ret (G i j)
      | _, _ => .bad) := by
  intro x z H d e Q hx hz w
  cases hx with
  | int i =>
    cases hz with
    | int j => exact ⟨i, j, rfl, rfl, by rw [← hg]; exact w (hf i j)⟩
    | _ => exact w.elim
  | _ => exact w.elim
theorem fl_int {C : Int → Int → Prop} {g : Int → Int → V} {G : D → D → M D} {W : Int → Int → D} (hG : ∀ d e, (∃ i j, d = .int i ∧ e = .int j ∧ (G d e = .bad ∨ (G d e = .ret (W i j) ∧ C i j))) ∨ G d e = .bad)
    (hg : ∀ i j, vOf (W i j) = g i j) (hf : ∀ i j, flatD (W i j) = true) : OpFl K (rI C g) G := by
  intro x z H d e Q hx hz w
  rcases hG d e with ⟨i, j, rfl, rfl, h | ⟨h, hc⟩⟩ | h
  · rw [h] at w; exact w.elim
  · cases hx; cases hz
    rw [h] at w
    exact ⟨i, j, rfl, rfl, hc, by rw [← hg]; exact w (hf i j)⟩
  · rw [h] at w; exact w.elim
theorem fl_addI : OpFl K (rI0 fun i j => .int (i + j)) addI := fl_int0 (G := fun i j => .int (i + j)) (fun _ _ => rfl) (fun _ _ => rfl)
theorem fl_sub : OpFl K (rI0 fun i j => .int (i - j)) subD := fl_int0 (G := fun i j => .int (i - j)) (fun _ _ => rfl) (fun _ _ => rfl)
theorem fl_and : OpFl K (rI0 fun i j => .int (Builtin.bitAnd i j)) andD := fl_int0 (G := fun i j => .int (Builtin.bitAnd i j)) (fun _ _ => rfl) (fun _ _ => rfl)
theorem fl_or : OpFl K (rI0 fun i j => .int (Builtin.bitOr i j)) orD := fl_int0 (G := fun i j => .int (Builtin.bitOr i j)) (fun _ _ => rfl) (fun _ _ => rfl)
def rMulAll : R2 := fun x z H Q => rI CMul (fun i j => .int (i * j)) x z H Q ∨ rI CMulW (fun i j => .int (i * j)) x z H Q
theorem op_mulAll {X : Cx} : OpR X (binaryOp .Mult) rMulAll := op_mul.or op_mulW
theorem fl_mul : OpFl K rMulAll mulD := by
  intro x z H d e Q hx hz w
  unfold mulD at w
  cases hx with
  | int i =>
    cases hz with
    | int j =>
      simp only at w
      split at w
      · rename_i h
        refine .inl ⟨i, j, rfl, rfl, ?_, w rfl⟩
        simp only [Bool.or_eq_true, Bool.and_eq_true, decide_eq_true_eq] at h
        exact h
      · split at w
        · rename_i h
          exact .inr ⟨i, j, rfl, rfl, h, w rfl⟩
        · exact w.elim
    | _ => exact w.elim
  | _ => exact w.elim
def rDivAll : R2 := fun x z H Q => rI CDivN (fun i j => .int (i.fdiv j)) x z H Q ∨ rI CDivW (fun i j => .int (i / j)) x z H Q
theorem op_divAll {X : Cx} : OpR X (binaryOp .FloorDiv) rDivAll := op_fdivN.or op_fdivW
theorem fl_div : OpFl K rDivAll fdivD := by
  intro x z H d e Q hx hz w
  unfold fdivD at w
  cases hx with
  | int i =>
    cases hz with
    | int j =>
      simp only at w
      split at w
      · exact w.elim
      · rename_i h0
        split at w
        · rename_i h
          exact .inl ⟨i, j, rfl, rfl, ⟨by simpa using h0, h⟩, w rfl⟩
        · split at w
          · rename_i h
            exact .inr ⟨i, j, rfl, rfl, h, w rfl⟩
          · exact w.elim
    | _ => exact w.elim
  | _ => exact w.elim
theorem fl_mod : OpFl K (rI (fun _ j => j ≠ 0) fun i j => .int (i.fmod j)) modD := fl_int (W := fun i j => .int (i.fmod j)) (fun d e => by
  unfold modD
  split
  · rename_i i j
    refine .inl ⟨i, j, rfl, rfl, ?_⟩
    split
    · exact .inl rfl
    · rename_i h; exact .inr ⟨rfl, by simpa using h⟩
  · exact .inr rfl) (fun _ _ => rfl) (fun _ _ => rfl)
theorem fl_pow : OpFl K (rI CPow fun i j => .int (i ^ j.toNat)) powD := fl_int (W := fun i j => .int (i ^ j.toNat)) (fun d e => by
  unfold powD
  split
  · rename_i i j
    refine .inl ⟨i, j, rfl, rfl, ?_⟩
    split
    · rename_i h; exact .inr ⟨rfl, h⟩
    · exact .inl rfl
  · exact .inr rfl) (fun _ _ => rfl) (fun _ _ => rfl)
theorem fl_shl : OpFl K (rI CPow fun i j => .int (i * 2 ^ j.toNat)) shlD := fl_int (W := fun i j => .int (i * 2 ^ j.toNat)) (fun d e => by
  unfold shlD
  split
  · rename_i i j
    refine .inl ⟨i, j, rfl, rfl, ?_⟩
    split
    · rename_i h; exact .inr ⟨rfl, h⟩
    · exact .inl rfl
  · exact .inr rfl) (fun _ _ => rfl) (fun _ _ => rfl)
theorem fl_shr : OpFl K (rI (fun _ j => 0 ≤ j) fun i j => .int (i / 2 ^ j.toNat)) shrD := fl_int (W := fun i j => .int (i / 2 ^ j.toNat)) (fun d e => by
  unfold shrD
  split
  · rename_i i j
    refine .inl ⟨i, j, rfl, rfl, ?_⟩
    split
    · rename_i h; exact .inr ⟨rfl, h⟩
    · exact .inl rfl
  · exact .inr rfl) (fun _ _ => rfl) (fun _ _ => rfl)
end

/-! ### comparisons of data -/
def rDat (K : PySem.W.Frag) (C : D → D → Bool) (ans : D → D → Bool) : R2 := fun x z H Q => ∃ d e, Dp K H x d ∧ Dp K H z e ∧ C d e = true ∧ Q (.bl (ans d e)) H
def gDat (C : D → D → Bool) (ans : D → D → Bool) : D → D → M D := fun d e => if C d e then .ret (.bool (ans d e)) else .bad
theorem fl_dat {K : PySem.W.Frag} {C ans : D → D → Bool} : OpFl K (rDat K C ans) (gDat C ans) := by
  intro x z H d e Q hx hz w
  unfold gDat at w
  split at w
  · rename_i h; exact ⟨d, e, hx.dp, hz.dp, h, w rfl⟩
  · exact w.elim
theorem op_dat {X : Cx} {op : CmpOp} {C ans : D → D → Bool}
    (rule : ∀ (s : Shared) (v u : Value) (d e : D) (as bs : List Addr) (Q : Value → Shared → Prop), Reads s.heap v d as → Reads s.heap u e bs → C d e = true → Q (.bool (ans d e)) s → wpAny (model X.prog X.w) X.A (compareOp op v u) Q X.xe s) :
    OpR X (compareOp op) (rDat X.K C ans) := by
  intro pins s σ H x z v u Q I rx rz h
  obtain ⟨d, e, hd, he, hc, q⟩ := h
  obtain ⟨as, r1⟩ := Dp.reads I d x v hd rx
  obtain ⟨bs, r2⟩ := Dp.reads I e z u he rz
  exact rule s v u d e as bs _ r1 r2 hc ⟨.bl _, H, I, rfl, q⟩
def shaped2 (d e : D) : Bool := SeqAt.shaped d && SeqAt.shaped e
def notNone : D → Bool
  | .none => false
  | _ => true
def cmpOk (d e : D) : Bool := PySem.W.alike d e && notNone d && decide (d.depth ≤ 64)
def eqD : D → D → M D
  | .str x, .str y => .ret (.bool (decide (x = y)))
  | d, e => gDat shaped2 PyData.eqv d e
def neD : D → D → M D
  | .str x, .str y => .ret (.bool (!decide (x = y)))
  | d, e => gDat shaped2 (fun d e => !PyData.eqv d e) d e
/-- == of data; of two texts without more ado -/
def rEqX (K : PySem.W.Frag) : R2 := fun x z H Q => rDat K shaped2 PyData.eqv x z H Q ∨ ∃ i j, x = .str i ∧ z = .str j ∧ Q (.bl (decide (i = j))) H
def rNeX (K : PySem.W.Frag) : R2 := fun x z H Q => rDat K shaped2 (fun d e => !PyData.eqv d e) x z H Q ∨ ∃ i j, x = .str i ∧ z = .str j ∧ Q (.bl (!decide (i = j))) H
theorem fl_eqX {K : PySem.W.Frag} : OpFl K (rEqX K) eqD := by
  intro x z H d e Q hx hz w
  unfold eqD at w
  split at w
  · cases hx; cases hz
    exact .inr ⟨_, _, rfl, rfl, w rfl⟩
  · exact .inl (fl_dat x z H d e Q hx hz w)
theorem fl_neX {K : PySem.W.Frag} : OpFl K (rNeX K) neD := by
  intro x z H d e Q hx hz w
  unfold neD at w
  split at w
  · cases hx; cases hz
    exact .inr ⟨_, _, rfl, rfl, w rfl⟩
  · exact .inl (fl_dat x z H d e Q hx hz w)
def ltD := gDat cmpOk PySem.W.dataLt
def gtD := gDat cmpOk fun d e => PySem.W.dataLt e d
def leD := gDat cmpOk fun d e => !PySem.W.dataLt e d
def geD := gDat cmpOk fun d e => !PySem.W.dataLt d e
def itemsOf : D → Option (List D)
  | .list xs => some xs
  | .tuple xs => some xs
  | _ => none
def inOk (d e : D) : Bool := SeqAt.shaped d && match itemsOf e with
  | some xs => PyData.canLayAll0 xs
  | none => false
def inAns (d e : D) : Bool := match itemsOf e with
  | some xs => xs.any fun y => PyData.eqv y d
  | none => false
def inD := gDat inOk inAns
def ninD := gDat inOk fun d e => !inAns d e
theorem cmpOk_of {d e : D} (h : cmpOk d e = true) : PySem.W.alike d e = true ∧ d ≠ .none ∧ d.depth ≤ 64 := by
  unfold cmpOk at h
  simp only [Bool.and_eq_true, decide_eq_true_eq] at h
  refine ⟨h.1.1, ?_, h.2⟩
  intro z
  rw [z] at h
  exact absurd h.1.2 (by decide)
section
variable {X : Cx} {k : Nat} (hr : Room k X.A)
include hr
theorem op_eqX : OpR X (compareOp .Eq) (rDat X.K shaped2 PyData.eqv) := op_dat fun s v u d e as bs Q r1 r2 hc q => by
  simp only [shaped2, Bool.and_eq_true] at hc
  exact SeqAt.compareEq_shaped r1 r2 hc.1 hc.2 hr.units q
theorem op_neX : OpR X (compareOp .NotEq) (rDat X.K shaped2 fun d e => !PyData.eqv d e) := op_dat fun s v u d e as bs Q r1 r2 hc q => by
  simp only [shaped2, Bool.and_eq_true] at hc
  exact SeqAt.compareNe_shaped r1 r2 hc.1 hc.2 hr.units q
theorem op_eqS : OpR X (compareOp .Eq) (rEqX X.K) := OpR.or (op_eqX hr) (fun pins s σ H x z v u Q I rx rz h => by
  obtain ⟨i, j, rfl, rfl, q⟩ := h
  have e : decide (V.str i = V.str j) = decide (i = j) := by
    by_cases z : i = j
    · subst z; simp
    · rw [decide_eq_false z, decide_eq_false (fun q => z (V.str.inj q))]
  exact op_eq pins s σ H _ _ v u Q I rx rz ⟨rfl, by rw [e]; exact q⟩)
theorem op_neS : OpR X (compareOp .NotEq) (rNeX X.K) := OpR.or (op_neX hr) (fun pins s σ H x z v u Q I rx rz h => by
  obtain ⟨i, j, rfl, rfl, q⟩ := h
  have e : decide (V.str i = V.str j) = decide (i = j) := by
    by_cases z : i = j
    · subst z; simp
    · rw [decide_eq_false z, decide_eq_false (fun q => z (V.str.inj q))]
  exact op_ne pins s σ H _ _ v u Q I rx rz ⟨rfl, by rw [e]; exact q⟩)
theorem room_cmp {d e : D} (h : d.depth ≤ 64) : X.A.units + min d.depth e.depth < cLine := by
  have := hr.un
  have := Nat.min_le_left d.depth e.depth
  omega
theorem op_ltX : OpR X (compareOp .Lt) (rDat X.K cmpOk PySem.W.dataLt) := op_dat fun s v u d e as bs Q r1 r2 hc q =>
  PySem.W.lt_data r1 r2 (cmpOk_of hc).1 (cmpOk_of hc).2.1 (room_cmp hr (cmpOk_of hc).2.2) q
theorem op_gtX : OpR X (compareOp .Gt) (rDat X.K cmpOk fun d e => PySem.W.dataLt e d) := op_dat fun s v u d e as bs Q r1 r2 hc q =>
  PySem.W.gt_data r1 r2 (cmpOk_of hc).1 (cmpOk_of hc).2.1 (room_cmp hr (cmpOk_of hc).2.2) q
theorem op_leX : OpR X (compareOp .LtE) (rDat X.K cmpOk fun d e => !PySem.W.dataLt e d) := op_dat fun s v u d e as bs Q r1 r2 hc q =>
  PySem.W.le_data r1 r2 (cmpOk_of hc).1 (cmpOk_of hc).2.1 (room_cmp hr (cmpOk_of hc).2.2) q
theorem op_geX : OpR X (compareOp .GtE) (rDat X.K cmpOk fun d e => !PySem.W.dataLt d e) := op_dat fun s v u d e as bs Q r1 r2 hc q =>
  PySem.W.ge_data r1 r2 (cmpOk_of hc).1 (cmpOk_of hc).2.1 (room_cmp hr (cmpOk_of hc).2.2) q
theorem room_in {xs : List D} {d : D} (hd : SeqAt.shaped d = true) : X.A.units + 1 + min (PyData.depthAll xs) d.depth < cLine := by
  have h1 := SeqAt.depth_of_shaped hd
  have h2 : min (PyData.depthAll xs) d.depth ≤ d.depth := Nat.min_le_right _ _
  have := hr.un
  omega
theorem op_inX : OpR X (compareOp .In) (rDat X.K inOk inAns) := op_dat fun s v u d e as bs Q r1 r2 hc q => by
  unfold inOk at hc
  unfold inAns at q
  simp only [Bool.and_eq_true] at hc
  cases e with
  | list xs => exact SeqAt.in_list_reads r2 r1 hc.2 (SeqAt.canLay_of_shaped hc.1) (room_in hr hc.1) q
  | tuple xs => exact SeqAt.in_tuple_reads r2 r1 hc.2 (SeqAt.canLay_of_shaped hc.1) (room_in hr hc.1) q
  | _ => exact absurd hc.2 (by simp [itemsOf])
theorem op_ninX : OpR X (compareOp .NotIn) (rDat X.K inOk fun d e => !inAns d e) := op_dat fun s v u d e as bs Q r1 r2 hc q => by
  unfold inOk at hc
  unfold inAns at q
  simp only [Bool.and_eq_true] at hc
  cases e with
  | list xs => exact SeqAt.notIn_list_reads r2 r1 hc.2 (SeqAt.canLay_of_shaped hc.1) (room_in hr hc.1) q
  | tuple xs => exact SeqAt.notIn_tuple_reads r2 r1 hc.2 (SeqAt.canLay_of_shaped hc.1) (room_in hr hc.1) q
  | _ => exact absurd hc.2 (by simp [itemsOf])
end
/-! ### the same data -/
mutual
def sameD : D → D → Bool
  | .none, .none => true
  | .bool a, .bool b => a == b
  | .int i, .int j => decide (i = j)
  | .str x, .str y => decide (x = y)
  | .list xs, .list ys => sameL xs ys
  | .tuple xs, .tuple ys => sameL xs ys
  | _, _ => false
def sameL : List D → List D → Bool
  | [], [] => true
  | x :: xs, y :: ys => sameD x y && sameL xs ys
  | _, _ => false
end
mutual
theorem sameD_eq : ∀ d e : D, sameD d e = true → d = e
  | .none, .none, _ => rfl
  | .bool a, .bool b, h => by simp [sameD] at h; rw [h]
  | .int i, .int j, h => by simp [sameD] at h; rw [h]
  | .str x, .str y, h => by simp [sameD] at h; rw [h]
  | .list xs, .list ys, h => by rw [sameL_eq xs ys (by simpa [sameD] using h)]
  | .tuple xs, .tuple ys, h => by rw [sameL_eq xs ys (by simpa [sameD] using h)]
  | .none, .bool _, h | .none, .int _, h | .none, .str _, h | .none, .list _, h | .none, .tuple _, h | .none, .dict _, h => by simp [sameD] at h
  | .bool _, .none, h | .bool _, .int _, h | .bool _, .str _, h | .bool _, .list _, h | .bool _, .tuple _, h | .bool _, .dict _, h => by simp [sameD] at h
  | .int _, .none, h | .int _, .bool _, h | .int _, .str _, h | .int _, .list _, h | .int _, .tuple _, h | .int _, .dict _, h => by simp [sameD] at h
  | .str _, .none, h | .str _, .bool _, h | .str _, .int _, h | .str _, .list _, h | .str _, .tuple _, h | .str _, .dict _, h => by simp [sameD] at h
  | .list _, .none, h | .list _, .bool _, h | .list _, .int _, h | .list _, .str _, h | .list _, .tuple _, h | .list _, .dict _, h => by simp [sameD] at h
  | .tuple _, .none, h | .tuple _, .bool _, h | .tuple _, .int _, h | .tuple _, .str _, h | .tuple _, .list _, h | .tuple _, .dict _, h => by simp [sameD] at h
  | .dict _, .none, h | .dict _, .bool _, h | .dict _, .int _, h | .dict _, .str _, h | .dict _, .list _, h | .dict _, .tuple _, h | .dict _, .dict _, h => by simp [sameD] at h
theorem sameL_eq : ∀ xs ys : List D, sameL xs ys = true → xs = ys
  | [], [], _ => rfl
  | x :: xs, y :: ys, h => by
    simp only [sameL, Bool.and_eq_true] at h
    rw [sameD_eq x y h.1, sameL_eq xs ys h.2]
  | [], _ :: _, h => by simp [sameL] at h
  | _ :: _, [], h => by simp [sameL] at h
end
end DL

set_option Elab.async false
set_option linter.all false
set_option maxRecDepth 100000
set_option maxHeartbeats 4000000
/-! DX: expressions whose answer is no flat thing: displays, items, slices, +, calls of built-ins. -/
namespace DL
open PySem PySem.Spec PyProof.Rows L2

/-- what a looked-at value is: frozen, or a list whose items are frozen -/
def Sh (K : PySem.W.Frag) (F H : Hp) (v : V) (d : D) : Prop := Rp K F v d ∨ ∃ a vs ds, v = .ref a ∧ d = .list ds ∧ H a = some (.lst vs) ∧ RpAll K F vs ds
inductive ShAll (K : PySem.W.Frag) (F H : Hp) : List V → List D → Prop
  | nil : ShAll K F H [] []
  | cons {v : V} {vs : List V} {d : D} {ds : List D} : Sh K F H v d → ShAll K F H vs ds → ShAll K F H (v :: vs) (d :: ds)
section
variable {K : PySem.W.Frag} {y : Y} {o : Own} {σ : Sl} {H H' F F' : Hp} {ρ : En}
theorem RB.sh {v : V} {d : D} (s : SR K y o σ H ρ F) (r : RB K o σ ρ F v d) : Sh K F H v d := by
  rcases r with r | ⟨i, h1, h2, h3⟩
  · exact .inl r
  · obtain ⟨S, g1, _⟩ := s.own
    obtain ⟨v', d', e1, e2, e3, _⟩ := g1 i .lst h1
    rw [h2] at e1; cases e1
    rw [h3] at e2; cases e2
    obtain ⟨a, vs, ds, rfl, rfl, _, e4, e5⟩ := e3
    exact .inr ⟨a, vs, ds, rfl, rfl, e4, e5⟩
theorem Sh.rp {v : V} {d : D} (f : Same F H) (r : Sh K F H v d) : Rp K H v d := by
  rcases r with r | ⟨a, vs, ds, rfl, rfl, h1, h2⟩
  · exact rp_mono f r
  · exact .lst h1 (rpAll_mono f h2)
theorem Sh.list {v : V} {ds : List D} (f : Same F H) (r : Sh K F H v (.list ds)) : ∃ a vs, v = .ref a ∧ H a = some (.lst vs) ∧ RpAll K F vs ds := by
  rcases r with r | ⟨a, vs, ds', rfl, e, h1, h2⟩
  · cases r with
    | lst hs ha => exact ⟨_, _, rfl, f _ _ hs, ha⟩
  · cases e; exact ⟨a, vs, rfl, h1, h2⟩
theorem Sh.tup {v : V} {ds : List D} (f : Same F H) (r : Sh K F H v (.tuple ds)) : ∃ a vs, v = .ref a ∧ SqT K H a vs ∧ SqT K F a vs ∧ RpAll K F vs ds := by
  rcases r with r | ⟨a, vs, ds', rfl, e, h1, h2⟩
  · cases r with
    | tup hs ha =>
      refine ⟨_, _, rfl, ?_, hs, ha⟩
      rcases hs with (h | ⟨o, h⟩) | h
      · exact .inl (.inl (f _ _ h))
      · exact .inl (.inr ⟨o, f _ _ h⟩)
      · exact .inr h
  · cases e
theorem ShAll.rp (f : Same F H) : ∀ {vs : List V} {ds : List D}, ShAll K F H vs ds → RpAll K H vs ds
  | _, _, .nil => .nil
  | _, _, .cons h1 h2 => .cons (h1.rp f) (ShAll.rp f h2)
theorem ext_new {p : Addr} {o : HO} (f : Same F H) (hp : H p = none) : Ext F H (upd F p o) (upd H p o) := by
  have fp : F p = none := f.free hp
  refine ⟨fun b u e => by rw [upd_ne (ne_of_none e fp)]; exact e, fun b u e => ?_, fun b u e => by rw [upd_ne (ne_of_none e hp)]; exact e, fun b h1 h2 => ?_⟩
  · by_cases z : b = p
    · subst z; rw [upd_same] at e ⊢; exact e
    · rw [upd_ne z] at e ⊢; exact f _ _ e
  · have z : b ≠ p := fun z => h1 (z ▸ hp)
    rw [upd_ne z]; exact h2
/-- a thing is laid that is not frozen: it stays -/
theorem ext_heap {p : Addr} {o : HO} (f : Same F H) (hp : H p = none) : Ext F H F (upd H p o) :=
  ⟨.refl _, fun b u e => by rw [upd_ne (ne_of_none (f _ _ e) hp)]; exact f _ _ e, fun b u e => by rw [upd_ne (ne_of_none e hp)]; exact e, fun _ _ h => h⟩
theorem rp_newT {p : Addr} {vs : List V} {ds : List D} (fp : F p = none) (h : RpAll K F vs ds) : Rp K (upd F p (.tup vs)) (.ref p) (.tuple ds) :=
  .tup (SqT.of upd_same) (rpAll_mono (fun b u e => by rw [upd_ne (ne_of_none e fp)]; exact e) h)
theorem rp_newL {p : Addr} {vs : List V} {ds : List D} (fp : F p = none) (h : RpAll K F vs ds) : Rp K (upd F p (.lst vs)) (.ref p) (.list ds) :=
  .lst upd_same (rpAll_mono (fun b u e => by rw [upd_ne (ne_of_none e fp)]; exact e) h)
/-- a new list, not frozen -/
theorem sr_new {p : Addr} {vs : List V} (s : SR K y o σ H ρ F) (hp : H p = none) : SR K (y.with p vs) o σ (upd H p (.lst vs)) ρ F ∧ y.B p = none ∧ y.F0 p = none := by
  have fp := s.fz.free hp
  have bp := s.bs.free hp
  refine ⟨⟨s.len, (ext_heap s.fz hp).fz, fun b u e => ?_, s.f0, fun b h1 h2 => ?_, s.pin, s.imm, ?_⟩, bp, s.f0.free fp⟩
  · have e : upd y.B p (.lst vs) b = some u := e
    by_cases z : b = p
    · subst z; rw [upd_same] at e ⊢; exact e
    · rw [upd_ne z] at e ⊢; exact s.bs _ _ e
  · by_cases z : b = p
    · subst z; exact fp
    · exact s.pr b (by
        have h1 : upd y.B p (.lst vs) b ≠ none := h1
        rw [upd_ne z] at h1; exact h1) h2
  · obtain ⟨S, g1, g2⟩ := s.own
    refine ⟨S, fun i kd hi => ?_, g2⟩
    obtain ⟨v, d, e1, e2, e3, e4⟩ := g1 i kd hi
    have ne : ∀ a ∈ S i, a ≠ p := fun a ha z => (e4 a ha).2.2 (z ▸ hp)
    refine ⟨v, d, e1, e2, ownAt_ext e3 (.refl _) fun a ha => by rw [upd_ne (ne a ha)], fun a ha => ?_⟩
    obtain ⟨q1, q2, q3⟩ := e4 a ha
    refine ⟨q1, ?_, by rw [upd_ne (ne a ha)]; exact q3⟩
    show upd y.B p (.lst vs) a = none
    rw [upd_ne (ne a ha)]; exact q2
end

/-! ### argument lists -/
structure DFs (X : Cx) (o : Own) (es : List Expr) (f : En → M (List D)) (t : TA) : Prop where
  p : PA X es t
  q : ∀ (y : Y) (σ : Sl) (H : Hp) (ρ : En) (F : Hp) (Q : List V → Hp → Prop), SR X.K y o σ H ρ F →
    (f ρ).wp (fun ds => ∀ vs H' F', SR X.K y o σ H' ρ F' → Same F F' → RpAll X.K F' vs ds → Q vs H') noE → t σ H Q
inductive RBs (K : PySem.W.Frag) (o : Own) (σ : Sl) (ρ : En) (F : Hp) : List V → List D → Prop
  | nil : RBs K o σ ρ F [] []
  | cons {v : V} {vs : List V} {d : D} {ds : List D} : RB K o σ ρ F v d → RBs K o σ ρ F vs ds → RBs K o σ ρ F (v :: vs) (d :: ds)
theorem RBs.sh {K : PySem.W.Frag} {y : Y} {o : Own} {σ : Sl} {H F : Hp} {ρ : En} (s : SR K y o σ H ρ F) : ∀ {vs : List V} {ds : List D}, RBs K o σ ρ F vs ds → ShAll K F H vs ds
  | _, _, .nil => .nil
  | _, _, .cons h1 h2 => .cons (h1.sh s) (RBs.sh s h2)
structure DBs (X : Cx) (o : Own) (es : List Expr) (f : En → M (List D)) (t : TA) : Prop where
  p : PA X es t
  q : ∀ (y : Y) (σ : Sl) (H : Hp) (ρ : En) (F : Hp) (Q : List V → Hp → Prop), SR X.K y o σ H ρ F →
    (f ρ).wp (fun ds => ∀ vs H' F', SR X.K y o σ H' ρ F' → Same F F' → RBs X.K o σ ρ F' vs ds → Q vs H') noE → t σ H Q
def aNil : En → M (List D) := fun _ => .ret []
def aCons (f : En → M D) (g : En → M (List D)) : En → M (List D) := fun ρ => (f ρ).bind fun x => (g ρ).bind fun xs => .ret (x :: xs)
section
variable {X : Cx} {o : Own} {e a b c : Expr} {es : List Expr} {f fa fb fc : En → M D} {g : En → M (List D)} {pos : Pos}
theorem dfs_nil : DFs X o [] aNil tNil := ⟨pa_nil, fun y σ H ρ F Q s w => w [] H F s (.refl _) .nil⟩
theorem dfs_cons {t : TE} {t2 : TA} (h1 : DE X o e f t) (h2 : DFs X o es g t2) (hs : starEach (e :: es) X.env = (false, eval e X.env) :: starEach es X.env := by rfl) : DFs X o (e :: es) (aCons f g) (tCons t t2) := by
  refine ⟨pa_cons h1.p h2.p hs, fun y σ H ρ F Q s w => h1.q y σ H ρ F _ s (M.wp_mono (fun d k v H' F' s' e' hd => ?_) (fun _ z => z) (M.wp_bind.mp w))⟩
  refine h2.q y σ H' ρ F' _ s' (M.wp_mono (fun ds k2 vs H2 F2 s2 e2 hds => ?_) (fun _ z => z) (M.wp_bind.mp k))
  exact k2 _ H2 F2 s2 (e'.trans e2) (.cons (rp_mono e2 hd) hds)
theorem RBs.mono {K : PySem.W.Frag} {o : Own} {σ : Sl} {F F' : Hp} {ρ : En} (e : Same F F') : ∀ {vs : List V} {ds : List D}, RBs K o σ ρ F vs ds → RBs K o σ ρ F' vs ds
  | _, _, .nil => .nil
  | _, _, .cons h1 h2 => .cons (h1.mono e) (RBs.mono e h2)
theorem dbs_nil : DBs X o [] aNil tNil := ⟨pa_nil, fun y σ H ρ F Q s w => w [] H F s (.refl _) .nil⟩
theorem dbs_cons {t : TE} {t2 : TA} (h1 : DB X o e f t) (h2 : DBs X o es g t2) (hs : starEach (e :: es) X.env = (false, eval e X.env) :: starEach es X.env := by rfl) : DBs X o (e :: es) (aCons f g) (tCons t t2) := by
  refine ⟨pa_cons h1.p h2.p hs, fun y σ H ρ F Q s w => h1.q y σ H ρ F _ s (M.wp_mono (fun d k v H' F' s' e' hd => ?_) (fun _ z => z) (M.wp_bind.mp w))⟩
  refine h2.q y σ H' ρ F' _ s' (M.wp_mono (fun ds k2 vs H2 F2 s2 e2 hds => ?_) (fun _ z => z) (M.wp_bind.mp k))
  exact k2 _ H2 F2 s2 (e'.trans e2) (.cons (hd.mono e2) hds)

/-! ### displays -/
def eTup (g : En → M (List D)) : En → M D := fun ρ => (g ρ).bind fun ds => if ds.length ≤ sizeLine then .ret (.tuple ds) else .bad
def eLst (g : En → M (List D)) : En → M D := fun ρ => (g ρ).bind fun ds => if ds.length ≤ sizeLine then .ret (.list ds) else .bad
theorem de_tup {x1 : Nat} {t : TA} (h : DFs X o es g t) : DE X o (.Tuple es x1 pos) (eTup g) (tTup t) := by
  refine ⟨pe_tup h.p, fun y σ H ρ F Q s w => h.q y σ H ρ F _ s (M.wp_mono (fun ds k vs H' F' s' e' hd => ?_) (fun _ z => z) (M.wp_bind.mp w))⟩
  split at k
  · rename_i hl
    refine ⟨by rw [rpAll_len hd]; exact hl, fun p hp => ?_⟩
    have x := ext_new (o := .tup vs) s'.fz hp
    exact k _ _ _ (s'.ext x) (e'.trans x.f) (rp_newT (s'.fz.free hp) hd)
  · exact k.elim
theorem dn_lst {t : TA} (h : DFs X o es g t) : DN X o (.List es pos) (eLst g) (tLst t) := by
  refine ⟨pe_lst h.p, fun y σ H ρ F Q s w => h.q y σ H ρ F _ s (M.wp_mono (fun ds k vs H' F' s' e' hd => ?_) (fun _ z => z) (M.wp_bind.mp w))⟩
  split at k
  · rename_i hl
    refine ⟨by rw [rpAll_len hd]; exact hl, fun p hp => ?_⟩
    obtain ⟨s2, b1, b2⟩ := sr_new (vs := vs) s' hp
    exact k _ _ _ _ _ rfl b1 b2 s2 e' hd
  · exact k.elim

/-! ### operators by values -/
/-- the answer is frozen -/
def OpE (K : PySem.W.Frag) (r : R2) (g : D → D → M D) : Prop := ∀ x z H F d e (Q : VK), Same F H → Sh K F H x d → Sh K F H z e →
  (g d e).wp (fun u => ∀ v F' H', Ext F H F' H' → Rp K F' v u → Q v H') noE → r x z H Q
theorem op_e {r : R2} {g : D → D → M D} {ta tb : TE} {y : Y} {σ : Sl} {H : Hp} {ρ : En} {F : Hp} (hg : OpE X.K r g)
    (qa : ∀ (y : Y) (σ : Sl) (H : Hp) (ρ : En) (F : Hp) (Q : VK), SR X.K y o σ H ρ F → (fa ρ).wp (fun d => ∀ v H' F', SR X.K y o σ H' ρ F' → Same F F' → RB X.K o σ ρ F' v d → Q v H') noE → ta σ H Q)
    (qb : ∀ (y : Y) (σ : Sl) (H : Hp) (ρ : En) (F : Hp) (Q : VK), SR X.K y o σ H ρ F → (fb ρ).wp (fun d => ∀ v H' F', SR X.K y o σ H' ρ F' → Same F F' → RB X.K o σ ρ F' v d → Q v H') noE → tb σ H Q)
    (s : SR X.K y o σ H ρ F) {Q : VK} (w : (eBin g fa fb ρ).wp (fun d => ∀ v H' F', SR X.K y o σ H' ρ F' → Same F F' → Rp X.K F' v d → Q v H') noE) : tOp r ta tb σ H Q := by
  unfold eBin at w
  refine qa y σ H ρ F _ s (M.wp_mono (fun d k v H' F' s' e' hd => ?_) (fun _ z => z) (M.wp_bind.mp w))
  refine qb y σ H' ρ F' _ s' (M.wp_mono (fun d2 k2 v2 H2 F2 s2 e2 hd2 => ?_) (fun _ z => z) (M.wp_bind.mp k))
  refine hg v v2 H2 F2 d d2 _ s2.fz (RB.sh s2 (hd.mono e2)) (RB.sh s2 hd2) (M.wp_mono (fun u k3 v3 F3 H3 x hu => ?_) (fun _ z => z) k2)
  exact k3 v3 H3 F3 (s2.ext x) ((e'.trans e2).trans x.f) hu
theorem de_binE {ta tb : TE} {op : Operator} {r : R2} {g : D → D → M D} (hr : OpR X (binaryOp op) r) (hg : OpE X.K r g) (ha : DB X o a fa ta) (hb : DB X o b fb tb) : DE X o (.BinOp a op b pos) (eBin g fa fb) (tOp r ta tb) :=
  ⟨pe_op hr ha.p hb.p, fun y σ H ρ F Q s w => op_e hg ha.q hb.q s w⟩
theorem de_ixE {ta tb : TE} {r : R2} {g : D → D → M D} (hr : IxR X r) (hg : OpE X.K r g) (ha : DB X o a fa ta) (hb : DB X o b fb tb) (hs : PlainIx b) : DE X o (.Subscript a b pos) (eBin g fa fb) (tOp r ta tb) :=
  ⟨pe_ix hr ha.p hb.p hs, fun y σ H ρ F Q s w => op_e hg ha.q hb.q s w⟩
end

/-! ### + -/
def addD : D → D → M D
  | .int i, .int j => .ret (.int (i + j))
  | .tuple xs, .tuple ys => if xs.length + ys.length ≤ sizeLine then .ret (.tuple (xs ++ ys)) else .bad
  | .list xs, .list ys => if xs.length + ys.length ≤ sizeLine then .ret (.list (xs ++ ys)) else .bad
  | .str x, .str z => if x.length + z.length ≤ sizeLine then .ret (.str (x ++ z)) else .bad
  | _, _ => .bad
def rAddAll (K : PySem.W.Frag) : R2 := fun x z H Q => (rI0 fun i j => .int (i + j)) x z H Q ∨ rCatA K x z H Q ∨ rCat x z H Q ∨
  (fun x y H Q => ∃ i j, x = .str i ∧ y = .str j ∧ i.length + j.length ≤ sizeLine ∧ Q (.str (i ++ j)) H : R2) x z H Q
theorem op_addAll {X : Cx} : OpR X (binaryOp .Add) (rAddAll X.K) := op_add.or (op_catA.or (op_cat.or op_add_str))
theorem e_add {K : PySem.W.Frag} : OpE K (rAddAll K) addD := by
  intro x z H F d e Q f hx hz w
  unfold addD at w
  split at w
  · rename_i i j
    have h1 := hx.rp f; have h2 := hz.rp f
    cases h1; cases h2
    exact .inl ⟨i, j, rfl, rfl, w _ F H (.refl f) (.int _)⟩
  · rename_i xs ys
    split at w
    · rename_i hl
      obtain ⟨a, vs, rfl, t1, t1', r1⟩ := hx.tup f
      obtain ⟨b, us, rfl, t2, t2', r2⟩ := hz.tup f
      refine .inr (.inl ⟨a, b, vs, us, rfl, rfl, t1, t2, by rw [rpAll_len r1, rpAll_len r2]; exact hl, fun z => ?_, fun _ z => ?_, fun _ _ p hp => ?_⟩)
      · subst z
        cases r1
        exact w _ F H (.refl f) (.tup t2' r2)
      · subst z
        cases r2
        rw [List.append_nil] at w
        exact w _ F H (.refl f) (.tup t1' r1)
      · exact w _ _ _ (ext_new f hp) (rp_newT (f.free hp) (rpAll_append r1 r2))
    · exact w.elim
  · rename_i xs ys
    split at w
    · rename_i hl
      obtain ⟨a, vs, rfl, t1, r1⟩ := hx.list f
      obtain ⟨b, us, rfl, t2, r2⟩ := hz.list f
      exact .inr (.inr (.inl ⟨a, b, vs, us, rfl, rfl, t1, t2, by rw [rpAll_len r1, rpAll_len r2]; exact hl, fun p hp => w _ _ _ (ext_new f hp) (rp_newL (f.free hp) (rpAll_append r1 r2))⟩))
    · exact w.elim
  · rename_i x' z'
    split at w
    · rename_i hl
      have h1 := hx.rp f; have h2 := hz.rp f
      cases h1; cases h2
      exact .inr (.inr (.inr ⟨x', z', rfl, rfl, hl, w _ F H (.refl f) (.str _)⟩))
    · exact w.elim
  · exact w.elim

/-! ### items -/
def ixD : D → D → M D
  | .list xs, .int k => match atI xs k with
    | some d => .ret d
    | none => .bad
  | .tuple xs, .int k => match atI xs k with
    | some d => .ret d
    | none => .bad
  | _, _ => .bad
theorem atI_all {K : PySem.W.Frag} {F : Hp} {vs : List V} {ds : List D} {k : Int} {d : D} (r : RpAll K F vs ds) (h : atI ds k = some d) : ∃ v, atI vs k = some v ∧ Rp K F v d := by
  unfold atI at h ⊢
  rw [← rpAll_len r] at h
  cases e : ixN vs.length k with
  | none => rw [e] at h; cases h
  | some j =>
    rw [e] at h
    obtain ⟨v, e1, h1⟩ := rpAll_get r (show ds[j]? = some d from h)
    exact ⟨v, e1, h1⟩
theorem e_ix {K : PySem.W.Frag} : OpE K (rIx K) ixD := by
  intro x z H F d e Q f hx hz w
  unfold ixD at w
  split at w
  · rename_i xs k
    split at w
    · rename_i d hd
      obtain ⟨a, vs, rfl, t1, r1⟩ := hx.list f
      have h2 := hz.rp f
      cases h2
      obtain ⟨v, e1, q⟩ := atI_all r1 hd
      exact .inl ⟨a, vs, k, v, rfl, rfl, SqL.of t1, e1, w v F H (.refl f) q⟩
    · exact w.elim
  · rename_i xs k
    split at w
    · rename_i d hd
      obtain ⟨a, vs, rfl, t1, t1', r1⟩ := hx.tup f
      have h2 := hz.rp f
      cases h2
      obtain ⟨v, e1, q⟩ := atI_all r1 hd
      exact .inr (.inl ⟨a, vs, k, v, rfl, rfl, t1, e1, w v F H (.refl f) q⟩)
    · exact w.elim
  · exact w.elim

/-! ### slices -/
section
variable {X : Cx} {o : Own} {e : Expr} {f : En → M D} {pos p2 : Pos}
structure DPart (X : Cx) (o : Own) (e : Option Expr) (f : En → M (Option Int)) (t : TO) : Prop where
  p : PO X e t
  q : ∀ (y : Y) (σ : Sl) (H : Hp) (ρ : En) (F : Hp) (Q : Option Int → Hp → Prop), SR X.K y o σ H ρ F →
    (f ρ).wp (fun i => ∀ H' F', SR X.K y o σ H' ρ F' → Same F F' → Q i H') noE → t σ H Q
def pNone : En → M (Option Int) := fun _ => .ret none
def asI : D → M Int
  | .int i => .ret i
  | _ => .bad
def pSome (f : En → M D) : En → M (Option Int) := fun ρ => (f ρ).bind fun d => (asI d).bind fun i => .ret (some i)
theorem dp_none : DPart X o none pNone tNoPart := ⟨po_none, fun y σ H ρ F Q s w => w H F s (.refl _)⟩
theorem dp_some {t : TE} (h : DB X o e f t) : DPart X o (some e) (pSome f) (tPart t) := by
  refine ⟨po_some h.p, fun y σ H ρ F Q s w => h.q y σ H ρ F _ s (M.wp_mono (fun d k v H' F' s' e' hd => ?_) (fun _ z => z) (M.wp_bind.mp w))⟩
  have hd := RB.rp s' hd
  cases hd with
  | int i => exact ⟨i, rfl, k H' F' s' e'⟩
  | _ => exact k.elim
def cutD (xs : List D) (lo hi : Option Int) : List D := (xs.drop (HT.sIx xs.length 0 lo)).take (HT.sIx xs.length xs.length hi - HT.sIx xs.length 0 lo)
theorem cut_all {K : PySem.W.Frag} {F : Hp} {vs : List V} {ds : List D} (r : RpAll K F vs ds) (lo hi : Option Int) : RpAll K F (cutV vs lo hi) (cutD ds lo hi) := by
  unfold cutV cutD
  rw [rpAll_len r]
  exact rpAll_take _ (rpAll_drop _ r)
def slD (d : D) (lo hi : Option Int) : M D := match d with
  | .list xs => .ret (.list (cutD xs lo hi))
  | .tuple xs => .ret (.tuple (cutD xs lo hi))
  | _ => .bad
def eSl (f : En → M D) (l h : En → M (Option Int)) : En → M D := fun ρ => (f ρ).bind fun d => (l ρ).bind fun lo => (h ρ).bind fun hi => slD d lo hi
def rSlAll (K : PySem.W.Frag) : V → Option Int → Option Int → Hp → VK → Prop := fun x lo hi H Q => rSlL K x lo hi H Q ∨ rSlA K x lo hi H Q
theorem sl_all : SlR X (rSlAll X.K) := sl_list.or sl_tupA
theorem de_sl {t : TE} {t1 t2 : TO} {lo hi : Option Expr} {fl fh : En → M (Option Int)} (h : DB X o e f t) (h1 : DPart X o lo fl t1) (h2 : DPart X o hi fh t2) : DE X o (.Subscript e (.Slice lo hi none p2) pos) (eSl f fl fh) (tSl (rSlAll X.K) t t1 t2) := by
  refine ⟨pe_slice sl_all h.p h1.p h2.p, fun y σ H ρ F Q s w => h.q y σ H ρ F _ s (M.wp_mono (fun d k v H' F' s' e' hd => ?_) (fun _ z => z) (M.wp_bind.mp w))⟩
  refine h1.q y σ H' ρ F' _ s' (M.wp_mono (fun l k H1 F1 s1 e1 => ?_) (fun _ z => z) (M.wp_bind.mp k))
  refine h2.q y σ H1 ρ F1 _ s1 (M.wp_mono (fun h k H2 F2 s2 e2 => ?_) (fun _ z => z) (M.wp_bind.mp k))
  have sh := RB.sh s2 (hd.mono (e1.trans e2))
  have ee := e'.trans (e1.trans e2)
  cases d with
  | list xs =>
    obtain ⟨a, vs, rfl, t1, r1⟩ := sh.list s2.fz
    refine .inl ⟨a, vs, rfl, SqL.of t1, fun p hp => ?_⟩
    have x := ext_new (o := .lst (cutV vs l h)) s2.fz hp
    exact k _ _ _ (s2.ext x) (ee.trans x.f) (rp_newL (s2.fz.free hp) (cut_all r1 l h))
  | tuple xs =>
    obtain ⟨a, vs, rfl, t1, t1', r1⟩ := sh.tup s2.fz
    refine .inr ⟨a, vs, rfl, t1, fun hw => ?_, fun hw p hp => ?_⟩
    · have z : cutD xs l h = xs := by
        unfold cutD
        rw [← rpAll_len r1, hw.1, hw.2, List.drop_zero, Nat.sub_zero, rpAll_len r1, List.take_length]
      simp only [slD, z] at k
      exact k _ _ _ s2 ee (.tup t1' r1)
    · have x := ext_new (o := .tup (cutV vs l h)) s2.fz hp
      exact k _ _ _ (s2.ext x) (ee.trans x.f) (rp_newT (s2.fz.free hp) (cut_all r1 l h))
  | _ => exact k.elim

/-! ### calls of built-ins by values -/
/-- a flat answer -/
def CallFl (K : PySem.W.Frag) (r : List V → Hp → VK → Prop) (g : List D → M D) : Prop := ∀ vs H ds (Q : VK), RpAll K H vs ds → (g ds).wp (fun u => flatD u = true → Q (vOf u) H) noE → r vs H Q
/-- a frozen answer -/
def CallE (K : PySem.W.Frag) (r : List V → Hp → VK → Prop) (g : List D → M D) : Prop := ∀ vs H F ds (Q : VK), Same F H → ShAll K F H vs ds →
  (g ds).wp (fun u => ∀ v F' H', Ext F H F' H' → Rp K F' v u → Q v H') noE → r vs H Q
/-- a new list -/
def CallN (K : PySem.W.Frag) (r : List V → Hp → VK → Prop) (g : List D → M D) : Prop := ∀ vs H F ds (Q : VK), Same F H → ShAll K F H vs ds →
  (g ds).wp (fun u => ∀ us a rs, u = .list us → H a = none → RpAll K F rs us → Q (.ref a) (upd H a (.lst rs))) noE → r vs H Q
theorem CallFl.fr {K : PySem.W.Frag} {r : List V → Hp → VK → Prop} {g : List D → M D} (h : CallFl K r g) : CallE K r g := fun vs H F ds Q f hs w =>
  h vs H ds Q (hs.rp f) (M.wp_mono (fun u k hu => k _ F H (.refl f) (rp_flat hu)) (fun _ z => z) w)
def eCall (g : List D → M D) (fs : En → M (List D)) : En → M D := fun ρ => (fs ρ).bind g
section
variable {es : List Expr} {fs : En → M (List D)} {x : Str} {p : Pos} {r : List V → Hp → VK → Prop} {g : List D → M D} {id T : String}
theorem callE_w {t : TA} (hg : CallE X.K r g) (q : ∀ (y : Y) (σ : Sl) (H : Hp) (ρ : En) (F : Hp) (Q : List V → Hp → Prop), SR X.K y o σ H ρ F →
    (fs ρ).wp (fun ds => ∀ vs H' F', SR X.K y o σ H' ρ F' → Same F F' → RBs X.K o σ ρ F' vs ds → Q vs H') noE → t σ H Q) (y : Y) (σ : Sl) (H : Hp) (ρ : En) (F : Hp) (Q : VK) (s : SR X.K y o σ H ρ F)
    (w : (eCall g fs ρ).wp (fun d => ∀ v H' F', SR X.K y o σ H' ρ F' → Same F F' → Rp X.K F' v d → Q v H') noE) : tCB r t σ H Q := by
  refine q y σ H ρ F _ s (M.wp_mono (fun ds k vs H' F' s' e' hd => ?_) (fun _ z => z) (M.wp_bind.mp w))
  refine hg vs H' F' ds _ s'.fz (RBs.sh s' hd) (M.wp_mono (fun u k3 v3 F3 H3 x hu => ?_) (fun _ z => z) k)
  exact k3 v3 H3 F3 (s'.ext x) (e'.trans x.f) hu
theorem callN_w {t : TA} (hg : CallN X.K r g) (q : ∀ (y : Y) (σ : Sl) (H : Hp) (ρ : En) (F : Hp) (Q : List V → Hp → Prop), SR X.K y o σ H ρ F →
    (fs ρ).wp (fun ds => ∀ vs H' F', SR X.K y o σ H' ρ F' → Same F F' → RBs X.K o σ ρ F' vs ds → Q vs H') noE → t σ H Q) (y : Y) (σ : Sl) (H : Hp) (ρ : En) (F : Hp) (Q : VK) (s : SR X.K y o σ H ρ F)
    (w : (eCall g fs ρ).wp (fun d => ∀ a vs ds H' F', d = .list ds → y.B a = none → y.F0 a = none → SR X.K (y.with a vs) o σ H' ρ F' → Same F F' → RpAll X.K F' vs ds → Q (.ref a) H') noE) : tCB r t σ H Q := by
  refine q y σ H ρ F _ s (M.wp_mono (fun ds k vs H' F' s' e' hd => ?_) (fun _ z => z) (M.wp_bind.mp w))
  refine hg vs H' F' ds _ s'.fz (RBs.sh s' hd) (M.wp_mono (fun u k3 us a rs eu ha hr => ?_) (fun _ z => z) k)
  obtain ⟨s2, b1, b2⟩ := sr_new (vs := rs) s' ha
  exact k3 a rs us _ F' eu b1 b2 s2 e' hr
theorem de_callB {t : TA} (hc : CallR X (.builtin id) r) (hg : CallE X.K r g) (hgl : Gl X x) (hm : X.mg x = none) (hv : bootBuiltins x = some (.builtin id)) (ha : DBs X o (e :: es) fs t) (hn : x ≠ "__name__" := by decide) (hdb : (x == ("__debug__" : Str)) = false := by decide)
    (he : starEach (e :: es) X.env = (false, eval e X.env) :: starEach es X.env := by rfl) (hpl : (backTo pos (starEach es X.env)).any (·.1) = false := by rfl) : DE X o (.Call (.Name x p) (e :: es) [] pos) (eCall g fs) (tCB r t) :=
  ⟨pe_callB hc hgl hm hv ha.p hn hdb he hpl, callE_w hg ha.q⟩
theorem de_callTy {t : TA} (hc : CallR X (.type T) r) (hg : CallE X.K r g) (hgl : Gl X x) (hm : X.mg x = none) (hv : bootBuiltins x = some (.type T)) (ha : DBs X o (e :: es) fs t) (hn : x ≠ "__name__" := by decide) (hdb : (x == ("__debug__" : Str)) = false := by decide)
    (he : starEach (e :: es) X.env = (false, eval e X.env) :: starEach es X.env := by rfl) (hpl : (backTo pos (starEach es X.env)).any (·.1) = false := by rfl) : DE X o (.Call (.Name x p) (e :: es) [] pos) (eCall g fs) (tCB r t) :=
  ⟨pe_callTy hc hgl hm hv ha.p hn hdb he hpl, callE_w hg ha.q⟩
theorem dn_callB {t : TA} (hc : CallR X (.builtin id) r) (hg : CallN X.K r g) (hgl : Gl X x) (hm : X.mg x = none) (hv : bootBuiltins x = some (.builtin id)) (ha : DBs X o (e :: es) fs t) (hn : x ≠ "__name__" := by decide) (hdb : (x == ("__debug__" : Str)) = false := by decide)
    (he : starEach (e :: es) X.env = (false, eval e X.env) :: starEach es X.env := by rfl) (hpl : (backTo pos (starEach es X.env)).any (·.1) = false := by rfl) : DN X o (.Call (.Name x p) (e :: es) [] pos) (eCall g fs) (tCB r t) :=
  ⟨pe_callB hc hgl hm hv ha.p hn hdb he hpl, callN_w hg ha.q⟩
theorem dn_callTy {t : TA} (hc : CallR X (.type T) r) (hg : CallN X.K r g) (hgl : Gl X x) (hm : X.mg x = none) (hv : bootBuiltins x = some (.type T)) (ha : DBs X o (e :: es) fs t) (hn : x ≠ "__name__" := by decide) (hdb : (x == ("__debug__" : Str)) = false := by decide)
    (he : starEach (e :: es) X.env = (false, eval e X.env) :: starEach es X.env := by rfl) (hpl : (backTo pos (starEach es X.env)).any (·.1) = false := by rfl) : DN X o (.Call (.Name x p) (e :: es) [] pos) (eCall g fs) (tCB r t) :=
  ⟨pe_callTy hc hgl hm hv ha.p hn hdb he hpl, callN_w hg ha.q⟩
end
end
end DL

set_option Elab.async false
set_option linter.all false
set_option maxRecDepth 100000
set_option maxHeartbeats 4000000
/-! DS: statements, loops, comprehensions. -/
namespace DL
open PySem PySem.Spec PyProof.Rows L2

inductive Fl where
  | nx
  | br
  | ct
  | rt (d : D)
abbrev G := En → M (Fl × En)
/-- a def's own facts: slots that are not stored into, what its caller gets back -/
structure Sc where
  kp : List Nat
  orr : Own

def remO (o : Own) (i : Nat) : Own := o.filter fun p => !(p.1 == i)
theorem lookup_rem_self (i : Nat) : ∀ o : Own, (remO o i).lookup i = none
  | [] => rfl
  | (j, k) :: r => by
    unfold remO
    rw [List.filter_cons]
    by_cases h : j = i
    · subst h
      simp only [beq_self_eq_true, Bool.not_true]
      exact lookup_rem_self _ r
    · have h' : (j == i) = false := by simpa using h
      have h2 : (i == j) = false := by simpa using Ne.symm h
      simp only [h', Bool.not_false, if_true, List.lookup_cons, h2]
      exact lookup_rem_self i r
theorem lookup_rem {i j : Nat} (h : j ≠ i) : ∀ o : Own, (remO o i).lookup j = o.lookup j
  | [] => rfl
  | (k, d) :: r => by
    unfold remO
    rw [List.filter_cons]
    by_cases hk : k = i
    · subst hk
      have h2 : (j == k) = false := by simpa using h
      simp only [beq_self_eq_true, Bool.not_true, List.lookup_cons, h2]
      exact lookup_rem h r
    · have h' : (k == i) = false := by simpa using hk
      simp only [h', Bool.not_false, if_true, List.lookup_cons]
      cases hj : j == k with
      | true => rfl
      | false => exact lookup_rem h r
/-- the slots of o alone -/
def mask (o : Own) (ρ : En) : En := (List.range ρ.length).map fun i => if (o.lookup i).isSome then ρ.getD i none else none
theorem mask_len (o : Own) (ρ : En) : (mask o ρ).length = ρ.length := by unfold mask; rw [List.length_map, List.length_range]
theorem mask_get {o : Own} {ρ : En} {i : Nat} {d : D} (h : (mask o ρ)[i]? = some (some d)) : (o.lookup i).isSome = true ∧ ρ[i]? = some (some d) := by
  unfold mask at h
  rw [List.getElem?_map] at h
  by_cases hi : i < ρ.length
  · rw [List.getElem?_range hi] at h
    simp only [Option.map_some, Option.some.injEq] at h
    split at h
    · rename_i hs
      refine ⟨hs, ?_⟩
      rw [List.getD_eq_getElem?_getD, List.getElem?_eq_getElem hi] at h
      rw [List.getElem?_eq_getElem hi]
      exact congrArg some h
    · cases h
  · rw [List.getElem?_eq_none (by rw [List.length_range]; omega)] at h
    cases h
theorem mask_own {o : Own} {ρ : En} {i : Nat} {k : Kd} (h : o.lookup i = some k) (hi : i < ρ.length) : (mask o ρ)[i]? = ρ[i]? := by
  unfold mask
  rw [List.getElem?_map, List.getElem?_range hi]
  simp only [Option.map_some, h, Option.isSome_some, if_true]
  rw [List.getD_eq_getElem?_getD, List.getElem?_eq_getElem hi]
  rfl

def killS : List Nat → En → En
  | [], ρ => ρ
  | i :: is, ρ => killS is (ρ.set i none)
theorem killS_len : ∀ (is : List Nat) (ρ : En), (killS is ρ).length = ρ.length
  | [], _ => rfl
  | i :: is, ρ => by unfold killS; rw [killS_len is, List.length_set]
theorem killS_get : ∀ {is : List Nat} {ρ : En} {i : Nat} {d : D}, (killS is ρ)[i]? = some (some d) → ρ[i]? = some (some d)
  | [], _, _, _, h => h
  | j :: is, ρ, i, d, h => by
    have h1 := killS_get (is := is) h
    by_cases e : j = i
    · subst e
      by_cases hj : j < ρ.length
      · rw [List.getElem?_set_self hj] at h1; cases h1
      · rw [List.getElem?_eq_none (by rw [List.length_set]; omega)] at h1; cases h1
    · rw [List.getElem?_set_ne e] at h1; exact h1
theorem killS_out : ∀ {is : List Nat} {ρ : En} {i : Nat}, i ∉ is → (killS is ρ)[i]? = ρ[i]?
  | [], _, _, _ => rfl
  | j :: is, ρ, i, h => by
    simp only [List.mem_cons, not_or] at h
    unfold killS
    rw [killS_out h.2, List.getElem?_set_ne (Ne.symm h.1)]

section
variable {K : PySem.W.Frag} {y : Y} {o o' : Own} {σ : Sl} {H H' F F' : Hp} {ρ : En}
/-- fewer slots are held alone, the others forgotten -/
theorem sr_sub (s : SR K y o σ H ρ F) (h : ∀ i kd, o'.lookup i = some kd → o.lookup i = some kd) {ρ' : En} (hl : ρ'.length = ρ.length)
    (hr : ∀ i d, ρ'[i]? = some (some d) → ρ[i]? = some (some d) ∧ (o'.lookup i = none → o.lookup i = none)) (ho : ∀ i kd, o'.lookup i = some kd → ρ'[i]? = ρ[i]?) : SR K y o' σ H ρ' F where
  len := hl.trans s.len
  fz := s.fz
  bs := s.bs
  f0 := s.f0
  pr := s.pr
  pin := s.pin
  imm := fun i d h1 h2 => s.imm i d (hr i d h1).1 ((hr i d h1).2 h2)
  own := by
    obtain ⟨S, g1, g2⟩ := s.own
    refine ⟨S, fun i kd hi => ?_, fun i j kd kd' hi hj => g2 i j kd kd' (h i kd hi) (h j kd' hj)⟩
    obtain ⟨v, d, e1, e2, e3⟩ := g1 i kd (h i kd hi)
    exact ⟨v, d, e1, by rw [ho i kd hi]; exact e2, e3⟩
theorem sr_mask {orr : Own} (s : SR K y o σ H ρ F) (h : ∀ i kd, orr.lookup i = some kd → o.lookup i = some kd) : SR K y orr σ H (mask orr ρ) F := by
  refine sr_sub s h (mask_len _ _) (fun i d e => ?_) (fun i kd e => ?_)
  · obtain ⟨h1, h2⟩ := mask_get e
    exact ⟨h2, fun z => by rw [z] at h1; cases h1⟩
  · obtain ⟨S, g1, _⟩ := s.own
    obtain ⟨v, d, e1, e2, _⟩ := g1 i kd (h i kd e)
    exact mask_own e (List.getElem?_eq_some_iff.mp e2).1
theorem sr_kill {is : List Nat} (s : SR K y o σ H ρ F) (h : ∀ i ∈ is, o.lookup i = none) : SR K y o σ H (killS is ρ) F := by
  refine sr_sub s (fun _ _ e => e) (killS_len _ _) (fun i d e => ⟨killS_get e, fun z => z⟩) (fun i kd e => killS_out fun z => ?_)
  rw [h i z] at e; cases e
/-- a list that a slot holds is frozen -/
theorem sr_frz {i : Nat} (s : SR K y o σ H ρ F) (h : o.lookup i = some .lst) : ∃ F', Same F F' ∧ SR K y (remO o i) σ H ρ F' := by
  obtain ⟨S, g1, g2⟩ := s.own
  obtain ⟨v, d, e1, e2, e3, e4⟩ := g1 i .lst h
  obtain ⟨a, vs, ds, rfl, rfl, eS, eH, r⟩ := e3
  have ha : a ∈ S i := by rw [eS]; exact List.mem_cons_self
  obtain ⟨f1, b1, _⟩ := e4 a ha
  have e : Same F (upd F a (.lst vs)) := fun b u q => by rw [upd_ne (ne_of_none q f1)]; exact q
  have lk : ∀ {j kd}, (remO o i).lookup j = some kd → j ≠ i ∧ o.lookup j = some kd := fun {j kd} hj => by
    by_cases z : j = i
    · subst z; rw [lookup_rem_self] at hj; cases hj
    · rw [lookup_rem z] at hj; exact ⟨z, hj⟩
  refine ⟨upd F a (.lst vs), e, ⟨s.len, fun b u q => ?_, s.bs, s.f0.trans e, fun b h1 h2 => ?_, s.pin, fun j d q1 q2 => ?_, S, fun j kd hj => ?_, fun j k kd kd' hj hk => g2 j k kd kd' (lk hj).2 (lk hk).2⟩⟩
  · by_cases z : b = a
    · subst z; rw [upd_same] at q; rw [eH]; exact q
    · rw [upd_ne z] at q; exact s.fz _ _ q
  · have z : b ≠ a := fun z => h1 (z ▸ b1)
    rw [upd_ne z]; exact s.pr b h1 h2
  · by_cases z : j = i
    · subst z
      rw [e2] at q1
      cases q1
      exact ⟨_, e1, .lst upd_same (rpAll_mono e r)⟩
    · rw [lookup_rem z] at q2
      obtain ⟨v, p1, p2⟩ := s.imm j d q1 q2
      exact ⟨v, p1, rp_mono e p2⟩
  · obtain ⟨z, hj'⟩ := lk hj
    obtain ⟨v, d, p1, p2, p3, p4⟩ := g1 j kd hj'
    refine ⟨v, d, p1, p2, ownAt_ext p3 e fun _ _ => rfl, fun b hb => ?_⟩
    obtain ⟨r1, r2, r3⟩ := p4 b hb
    have zb : b ≠ a := fun zb => g2 j i kd .lst hj' h z b hb (zb ▸ ha)
    exact ⟨by rw [upd_ne zb]; exact r1, r2, r3⟩
/-- a name is stored: frozen data -/
theorem sr_set {i : Nat} {v : V} {d : D} (s : SR K y o σ H ρ F) (hp : ∀ p ∈ y.Z, p.1 ≠ i) (hv : Rp K F v d) (hi : i < σ.length) : SR K y (remO o i) (σ.set i (some v)) H (ρ.set i (some d)) F where
  len := by simpa using s.len
  fz := s.fz
  bs := s.bs
  f0 := s.f0
  pr := s.pr
  pin := fun p hpz => by rw [List.getElem?_set_ne (Ne.symm (hp p hpz))]; exact s.pin p hpz
  imm := fun j d' h1 h2 => by
    by_cases z : j = i
    · subst z
      rw [List.getElem?_set_self (by rw [s.len]; exact hi)] at h1
      cases h1
      exact ⟨v, by rw [List.getElem?_set_self hi], hv⟩
    · rw [List.getElem?_set_ne (Ne.symm z)] at h1
      rw [lookup_rem z] at h2
      obtain ⟨v', e1, q⟩ := s.imm j d' h1 h2
      exact ⟨v', by rw [List.getElem?_set_ne (Ne.symm z)]; exact e1, q⟩
  own := by
    obtain ⟨S, g1, g2⟩ := s.own
    have lk : ∀ {j kd}, (remO o i).lookup j = some kd → j ≠ i ∧ o.lookup j = some kd := fun {j kd} hj => by
      by_cases z : j = i
      · subst z; rw [lookup_rem_self] at hj; cases hj
      · rw [lookup_rem z] at hj; exact ⟨z, hj⟩
    refine ⟨S, fun j kd hj => ?_, fun j k kd kd' hj hk => g2 j k kd kd' (lk hj).2 (lk hk).2⟩
    obtain ⟨z, hj'⟩ := lk hj
    obtain ⟨v', d', e1, e2, e3⟩ := g1 j kd hj'
    exact ⟨v', d', by rw [List.getElem?_set_ne (Ne.symm z)]; exact e1, by rw [List.getElem?_set_ne (Ne.symm z)]; exact e2, e3⟩
/-- a name is stored: a new list of its own -/
theorem sr_setN {i : Nat} {a : Addr} {vs : List V} {ds : List D} (s : SR K (y.with a vs) o σ H ρ F) (h0 : y.F0 a = none) (hB : y.B a = none) (hp : ∀ p ∈ y.Z, p.1 ≠ i) (hv : RpAll K F vs ds) (hi : i < σ.length) :
    SR K y ((i, .lst) :: remO o i) (σ.set i (some (.ref a))) H (ρ.set i (some (.list ds))) F := by
  have hb : (y.with a vs).B a = some (.lst vs) := upd_same
  have hHa : H a = some (.lst vs) := s.bs _ _ hb
  have hFa : F a = none := s.pr a (by rw [hb]; exact nofun) h0
  have lk0 : ((i, Kd.lst) :: remO o i).lookup i = some .lst := by simp [List.lookup_cons]
  have lkn : ∀ {j}, j ≠ i → ((i, Kd.lst) :: remO o i).lookup j = o.lookup j := fun {j} z => by
    have h2 : (j == i) = false := by simpa using z
    rw [List.lookup_cons, h2]
    exact lookup_rem z o
  refine ⟨by simpa using s.len, s.fz, fun b u e => s.bs b u (by show upd y.B a (.lst vs) b = some u; rw [upd_ne (ne_of_none e hB)]; exact e), s.f0, fun b h1 h2 => ?_, fun p hpz => ?_, fun j d' h1 h2 => ?_, ?_⟩
  · have z : b ≠ a := fun z => h1 (z ▸ hB)
    exact s.pr b (by show upd y.B a (.lst vs) b ≠ none; rw [upd_ne z]; exact h1) h2
  · rw [List.getElem?_set_ne (Ne.symm (hp p hpz))]; exact s.pin p hpz
  · by_cases z : j = i
    · subst z; rw [lk0] at h2; cases h2
    · rw [List.getElem?_set_ne (Ne.symm z)] at h1
      rw [lkn z] at h2
      obtain ⟨v', e1, q⟩ := s.imm j d' h1 h2
      exact ⟨v', by rw [List.getElem?_set_ne (Ne.symm z)]; exact e1, q⟩
  · obtain ⟨S, g1, g2⟩ := s.own
    have na : ∀ j kd, o.lookup j = some kd → ∀ b ∈ S j, b ≠ a := fun j kd hj b hbS z => by
      obtain ⟨_, _, _, _, _, e4⟩ := g1 j kd hj
      have r2' : upd y.B a (.lst vs) b = none := (e4 b hbS).2.1
      rw [z, upd_same] at r2'; cases r2'
    refine ⟨fun j => if j = i then [a] else S j, fun j kd hj => ?_, fun j k kd kd' hj hk hjk b hb => ?_⟩
    · by_cases z : j = i
      · subst z
        rw [lk0] at hj
        cases hj
        refine ⟨.ref a, .list ds, by rw [List.getElem?_set_self hi], by rw [List.getElem?_set_self (by rw [s.len]; exact hi)], ⟨a, vs, ds, rfl, rfl, by simp, hHa, hv⟩, fun b hb' => ?_⟩
        have e : b = a := by simpa using hb'
        subst e
        exact ⟨hFa, hB, by rw [hHa]; exact nofun⟩
      · rw [lkn z] at hj
        obtain ⟨v', d', e1, e2, e3, e4⟩ := g1 j kd hj
        refine ⟨v', d', by rw [List.getElem?_set_ne (Ne.symm z)]; exact e1, by rw [List.getElem?_set_ne (Ne.symm z)]; exact e2, by simp only [if_neg z]; exact e3, fun b hb' => ?_⟩
        simp only [if_neg z] at hb'
        obtain ⟨r1, r2, r3⟩ := e4 b hb'
        have r2' : upd y.B a (.lst vs) b = none := r2
        rw [upd_ne (na j kd hj b hb')] at r2'
        exact ⟨r1, r2', r3⟩
    · by_cases z : j = i
      · subst z
        simp only [if_true] at hb
        have e : b = a := by simpa using hb
        subst e
        have zk : k ≠ j := fun q => hjk q.symm
        rw [lkn zk] at hk
        simp only [if_neg zk]
        exact fun q => na k kd' hk _ q rfl
      · simp only [if_neg z] at hb
        rw [lkn z] at hj
        by_cases zk : k = i
        · subst zk
          simp only [if_true]
          intro q
          exact na j kd hj b hb (by simpa using q)
        · simp only [if_neg zk]
          rw [lkn zk] at hk
          exact g2 j k kd kd' hj hk hjk b hb
/-- a held list's items are changed -/
theorem sr_put {i : Nat} {a : Addr} {vs ws : List V} {es : List D} (s : SR K y o σ H ρ F) (ho : o.lookup i = some .lst) (ha : σ[i]? = some (some (.ref a))) (hH : H a = some (.lst vs)) (r : RpAll K F ws es) :
    SR K y o σ (upd H a (.lst ws)) (ρ.set i (some (.list es))) F := by
  obtain ⟨S, g1, g2⟩ := s.own
  obtain ⟨v, d, e1, e2, e3, e4⟩ := g1 i .lst ho
  rw [ha] at e1; cases e1
  obtain ⟨a', vs', ds, e5, rfl, eS, eH, r0⟩ := e3
  cases e5
  have hm : a ∈ S i := by rw [eS]; exact List.mem_cons_self
  obtain ⟨f1, b1, _⟩ := e4 a hm
  refine ⟨by simpa using s.len, fun b u q => ?_, fun b u q => ?_, s.f0, s.pr, s.pin, fun j d' h1 h2 => ?_, S, fun j kd hj => ?_, g2⟩
  · rw [upd_ne (ne_of_none q f1)]; exact s.fz _ _ q
  · rw [upd_ne (ne_of_none q b1)]; exact s.bs _ _ q
  · have z : j ≠ i := fun z => by subst z; rw [ho] at h2; cases h2
    rw [List.getElem?_set_ne (Ne.symm z)] at h1
    exact s.imm j d' h1 h2
  · by_cases z : j = i
    · subst z
      rw [ho] at hj; cases hj
      refine ⟨.ref a, .list es, ha, by rw [List.getElem?_set_self (List.getElem?_eq_some_iff.mp e2).1], ⟨a, ws, es, rfl, rfl, eS, upd_same, r⟩, fun b hb => ?_⟩
      have e : b = a := by rw [eS] at hb; simpa using hb
      subst e
      exact ⟨f1, b1, by rw [upd_same]; exact nofun⟩
    · obtain ⟨v', d', p1, p2, p3, p4⟩ := g1 j kd hj
      have na : ∀ b ∈ S j, b ≠ a := fun b hb q => g2 j i kd .lst hj ho z b hb (q ▸ hm)
      refine ⟨v', d', p1, by rw [List.getElem?_set_ne (Ne.symm z)]; exact p2, ownAt_ext p3 (.refl _) fun b hb => by rw [upd_ne (na b hb)], fun b hb => ?_⟩
      obtain ⟨r1, r2, r3⟩ := p4 b hb
      exact ⟨r1, r2, by rw [upd_ne (na b hb)]; exact r3⟩
end

/-! ### judgements for statements -/
def Post (K : PySem.W.Frag) (y : Y) (C : Sc) (ol o' : Own) (F : Hp) (D' : Ends) : Fl × En → Prop := fun p => match p.1 with
  | .nx => ∀ σ' H' F', SR K y o' σ' H' p.2 F' → Same F F' → D'.nx σ' H'
  | .br => ∀ σ' H' F', SR K y ol σ' H' p.2 F' → Same F F' → D'.bk σ' H'
  | .ct => ∀ σ' H' F', SR K y ol σ' H' p.2 F' → Same F F' → D'.ct σ' H'
  | .rt d => ∀ v σ' H' F', SR K y C.orr σ' H' (mask C.orr p.2) F' → Same F F' → Rp K F' v d → D'.rt v H'
theorem Post.mono {K : PySem.W.Frag} {y : Y} {C : Sc} {ol o' : Own} {F F1 : Hp} {D' : Ends} (e : Same F F1) {p : Fl × En} (h : Post K y C ol o' F D' p) : Post K y C ol o' F1 D' p := by
  unfold Post at h ⊢
  split
  · rename_i h1; rw [h1] at h; exact fun σ' H' F' s' e' => h σ' H' F' s' (e.trans e')
  · rename_i h1; rw [h1] at h; exact fun σ' H' F' s' e' => h σ' H' F' s' (e.trans e')
  · rename_i h1; rw [h1] at h; exact fun σ' H' F' s' e' => h σ' H' F' s' (e.trans e')
  · rename_i h1; rw [h1] at h; exact fun v σ' H' F' s' e' => h v σ' H' F' s' (e.trans e')
structure DS (X : Cx) (C : Sc) (ol o : Own) (st : Stmt) (o' : Own) (g : G) (t : TS) : Prop where
  p : PS X st t
  q : ∀ (y : Y) (σ : Sl) (H : Hp) (ρ : En) (F : Hp) (D' : Ends), (∀ p ∈ y.Z, p.1 ∈ C.kp) → SR X.K y o σ H ρ F → (g ρ).wp (Post X.K y C ol o' F D') noE → t D' σ H
structure DSs (X : Cx) (C : Sc) (ol o : Own) (st : List Stmt) (o' : Own) (g : G) (t : TS) : Prop where
  p : PSs X st t
  q : ∀ (y : Y) (σ : Sl) (H : Hp) (ρ : En) (F : Hp) (D' : Ends), (∀ p ∈ y.Z, p.1 ∈ C.kp) → SR X.K y o σ H ρ F → (g ρ).wp (Post X.K y C ol o' F D') noE → t D' σ H
def gNil : G := fun ρ => .ret (.nx, ρ)
def gThen (h : G) : Fl × En → M (Fl × En) := fun p => match p.1 with
  | .nx => h p.2
  | .br => .ret p
  | .ct => .ret p
  | .rt _ => .ret p
def gSeq (g h : G) : G := fun ρ => (g ρ).bind (gThen h)
def gKill (is : List Nat) (g : G) : G := fun ρ => g (killS is ρ)
section
variable {X : Cx} {C : Sc} {ol o o' o1 : Own} {st : Stmt} {sts : List Stmt} {g h : G} {t u : TS} {e : Expr} {te : TE} {f : En → M D} {pos : Pos}
theorem dss_nil : DSs X C ol o [] o gNil tNext := ⟨pss_nil, fun y σ H ρ F D' hz s w => w σ H F s (.refl _)⟩
theorem dss_cons (h1 : DS X C ol o st o1 g t) (h2 : DSs X C ol o1 sts o' h u) : DSs X C ol o (st :: sts) o' (gSeq g h) (tSeq t u) := by
  refine ⟨pss_cons h1.p h2.p, fun y σ H ρ F D' hz s w => h1.q y σ H ρ F _ hz s (M.wp_mono (fun p k => ?_) (fun _ z => z) (M.wp_bind.mp w))⟩
  obtain ⟨fl, ρ'⟩ := p
  cases fl with
  | nx => exact fun σ' H' F' s' e' => h2.q y σ' H' ρ' F' D' hz s' (M.wp_mono (fun p k => k.mono e') (fun _ z => z) k)
  | br => exact k
  | ct => exact k
  | rt d => exact k
theorem dss_frz (i : Nat) (h1 : DSs X C ol (remO o i) sts o' g t) (ho : o.lookup i = some .lst := by rfl) : DSs X C ol o sts o' g t := by
  refine ⟨h1.p, fun y σ H ρ F D' hz s w => ?_⟩
  obtain ⟨F', e, s'⟩ := sr_frz s ho
  exact h1.q y σ H ρ F' D' hz s' (M.wp_mono (fun p k => k.mono e) (fun _ z => z) w)
theorem dss_kill (is : List Nat) (h1 : DSs X C ol o sts o' g t) (ho : ∀ i ∈ is, o.lookup i = none := by intro i hi; (repeat' (cases hi with | head => rfl | tail _ hi => _)); (cases hi)) : DSs X C ol o sts o' (gKill is g) t :=
  ⟨h1.p, fun y σ H ρ F D' hz s w => h1.q y σ H _ F D' hz (sr_kill s ho) w⟩

/-! ### small statements -/
def gSet (i : Nat) (f : En → M D) : G := fun ρ => (f ρ).bind fun d => .ret (.nx, ρ.set i (some d))
def inN (X : Cx) (i : Nat) : Prop := i < X.N.length
theorem ds_set {i : Nat} {x : Str} {pos' : Pos} (hN : X.N.Nodup) (hi : X.N[i]? = some x) (hx : Loc X.env.scope x) (he : DE X o e f te) (hk : i ∉ C.kp := by first | decide | (dsimp only; decide)) (hs : swapsWith e (some (.Name x pos')) pos.line X.env = pure false := by rfl) (hf : X.fn x = true ∨ X.env.scope.names.lookup x = some .local := by first | exact .inl rfl | exact .inr rfl | assumption)
    (hl : ∀ (y : Y) (σ : Sl) (H : Hp) (ρ : En) (F : Hp), SR X.K y o σ H ρ F → True := by intros; trivial) :
    DS X C ol o (.Assign [.Name x pos'] e pos) (remO o i) (gSet i f) (tAsg te (gName i)) := by
  refine ⟨ps_set hN hi hx he.p hs hf, fun y σ H ρ F D' hz s w => he.q y σ H ρ F _ s (M.wp_mono (fun d k v H' F' s' e' hd => ?_) (fun _ z => z) (M.wp_bind.mp w))⟩
  by_cases hlt : i < σ.length
  · exact k _ H' F' (sr_set s' (fun p hp q => hk (q ▸ hz p hp)) hd hlt) e'
  · have z1 : σ.set i (some v) = σ := List.set_eq_of_length_le (by omega)
    have z2 : ρ.set i (some d) = ρ := List.set_eq_of_length_le (by rw [s.len]; omega)
    show D'.nx (σ.set i (some v)) H'
    have k : ∀ σ' H' F', SR X.K y (remO o i) σ' H' (ρ.set i (some d)) F' → Same F F' → D'.nx σ' H' := k
    rw [z1]
    rw [z2] at k
    refine k σ H' F' (sr_sub s' (fun j kd hj => ?_) rfl (fun j d' hj => ⟨hj, fun hn => ?_⟩) fun _ _ _ => rfl) e'
    · by_cases z : j = i
      · subst z; rw [lookup_rem_self] at hj; cases hj
      · rwa [lookup_rem z] at hj
    · by_cases z : j = i
      · subst z
        rw [List.getElem?_eq_none (by rw [s.len]; omega)] at hj; cases hj
      · rwa [lookup_rem z] at hn
theorem ds_setN {i : Nat} {x : Str} {pos' : Pos} (hN : X.N.Nodup) (hi : X.N[i]? = some x) (hx : Loc X.env.scope x) (he : DN X o e f te) (hk : i ∉ C.kp := by first | decide | (dsimp only; decide)) (hs : swapsWith e (some (.Name x pos')) pos.line X.env = pure false := by rfl) (hf : X.fn x = true ∨ X.env.scope.names.lookup x = some .local := by first | exact .inl rfl | exact .inr rfl | assumption) :
    DS X C ol o (.Assign [.Name x pos'] e pos) ((i, .lst) :: remO o i) (fun ρ => if i < ρ.length then gSet i f ρ else .bad) (tAsg te (gName i)) := by
  refine ⟨ps_set hN hi hx he.p hs hf, fun y σ H ρ F D' hz s w => ?_⟩
  split at w
  · rename_i hlt
    refine he.q y σ H ρ F _ s (M.wp_mono (fun d k a vs ds H' F' ed hB h0 s' e' hd => ?_) (fun _ z => z) (M.wp_bind.mp w))
    subst ed
    exact k _ H' F' (sr_setN s' h0 hB (fun p hp q => hk (q ▸ hz p hp)) hd (by rw [← s.len]; exact hlt)) e'
  · exact w.elim
def gRet (f : En → M D) : G := fun ρ => (f ρ).bind fun d => .ret (.rt d, ρ)
theorem ds_ret (he : DE X o e f te) (hr : ∀ i kd, C.orr.lookup i = some kd → o.lookup i = some kd := by intro i kd h; first | exact h | cases h) : DS X C ol o (.Return (some e) pos) o' (gRet f) (tRet te) :=
  ⟨ps_ret he.p, fun y σ H ρ F D' hz s w => he.q y σ H ρ F _ s (M.wp_mono (fun d k v H' F' s' e' hd => k v σ H' F' (sr_mask s' hr) e' hd) (fun _ z => z) (M.wp_bind.mp w))⟩
def gRetN : G := fun ρ => .ret (.rt .none, ρ)
theorem ds_retN (hr : ∀ i kd, C.orr.lookup i = some kd → o.lookup i = some kd := by intro i kd h; first | exact h | cases h) : DS X C ol o (.Return none pos) o' gRetN tRetN :=
  ⟨ps_retN, fun y σ H ρ F D' hz s w => w .non σ H F (sr_mask s hr) (.refl _) .non⟩
def gExpr (f : En → M D) : G := fun ρ => (f ρ).bind fun _ => .ret (.nx, ρ)
theorem ds_expr (he : DE X o e f te) (hs : swapsWith e none pos.line X.env = pure false := by rfl) : DS X C ol o (.Expr e pos) o (gExpr f) (tDrop te) :=
  ⟨ps_expr he.p hs, fun y σ H ρ F D' hz s w => he.q y σ H ρ F _ s (M.wp_mono (fun d k v H' F' s' e' hd => k σ H' F' s' e') (fun _ z => z) (M.wp_bind.mp w))⟩
def gBr : G := fun ρ => .ret (.br, ρ)
def gCt : G := fun ρ => .ret (.ct, ρ)
theorem ds_pass : DS X C ol o (.Pass pos) o gNil tNext := ⟨ps_pass, fun y σ H ρ F D' hz s w => w σ H F s (.refl _)⟩
theorem ds_break : DS X C o o (.Break pos) o' gBr tBreak := ⟨ps_break, fun y σ H ρ F D' hz s w => w σ H F s (.refl _)⟩
theorem ds_continue : DS X C o o (.Continue pos) o' gCt tCont := ⟨ps_continue, fun y σ H ρ F D' hz s w => w σ H F s (.refl _)⟩
def gNever : G := fun _ => .bad
theorem ds_never : DS X C ol o st o' gNever tNever := ⟨ps_never, fun y σ H ρ F D' hz s w => w⟩
def gIf (c : En → M Bool) (g h : G) : G := fun ρ => (c ρ).bind fun b => if b then g ρ else h ρ
theorem ds_if {c : Expr} {a b : List Stmt} {fc : En → M Bool} {tc : TT} (hc : DT X o c fc tc) (ha : DSs X C ol o a o' g t) (hb : DSs X C ol o b o' h u) : DS X C ol o (.If c a b pos) o' (gIf fc g h) (tIfS tc t u) := by
  refine ⟨ps_if hc.p ha.p hb.p, fun y σ H ρ F D' hz s w => hc.q y σ H ρ F _ s (M.wp_mono (fun b k H' F' s' e' => ?_) (fun _ z => z) (M.wp_bind.mp w))⟩
  cases b with
  | true => exact iteT (ha.q y σ H' ρ F' D' hz s' (M.wp_mono (fun p k => k.mono e') (fun _ z => z) k))
  | false => exact iteF (hb.q y σ H' ρ F' D' hz s' (M.wp_mono (fun p k => k.mono e') (fun _ z => z) k))
/-- x.append(e), x held -/
def gApp (i : Nat) (f : En → M D) : G := fun ρ => (f ρ).bind fun d => match ρ[i]? with
  | some (some (.list xs)) => if xs.length < sizeLine then .ret (.nx, ρ.set i (some (.list (xs ++ [d])))) else .bad
  | _ => .bad
end
end DL

set_option Elab.async false
set_option linter.all false
set_option maxRecDepth 100000
set_option maxHeartbeats 4000000
/-! DM: methods of held lists, stores into them, loops. -/
namespace DL
open PySem PySem.Spec PyProof.Rows L2

/-- an expression that may change what the slots hold -/
structure DEE (X : Cx) (o : Own) (e : Expr) (f : En → M (D × En)) (t : TE) : Prop where
  p : PE X e t
  q : ∀ (y : Y) (σ : Sl) (H : Hp) (ρ : En) (F : Hp) (Q : VK), SR X.K y o σ H ρ F →
    (f ρ).wp (fun d => ∀ v H' F', SR X.K y o σ H' d.2 F' → Same F F' → Rp X.K F' v d.1 → Q v H') noE → t σ H Q
structure DFE (X : Cx) (o : Own) (es : List Expr) (f : En → M (List D × En)) (t : TA) : Prop where
  p : PA X es t
  q : ∀ (y : Y) (σ : Sl) (H : Hp) (ρ : En) (F : Hp) (Q : List V → Hp → Prop), SR X.K y o σ H ρ F →
    (f ρ).wp (fun d => ∀ vs H' F', SR X.K y o σ H' d.2 F' → Same F F' → RpAll X.K F' vs d.1 → Q vs H') noE → t σ H Q
def eLift (f : En → M D) : En → M (D × En) := fun ρ => (f ρ).bind fun d => .ret (d, ρ)
def aLift (f : En → M (List D)) : En → M (List D × En) := fun ρ => (f ρ).bind fun d => .ret (d, ρ)
def aOne (f : En → M (D × En)) : En → M (List D × En) := fun ρ => (f ρ).bind fun d => .ret ([d.1], d.2)
section
variable {X : Cx} {C : Sc} {ol o o' : Own} {e : Expr} {es : List Expr} {f : En → M D} {fe : En → M (D × En)} {fs : En → M (List D)} {fse : En → M (List D × En)} {te : TE} {ta : TA} {pos : Pos}
theorem DE.ee (h : DE X o e f te) : DEE X o e (eLift f) te :=
  ⟨h.p, fun y σ H ρ F Q s w => h.q y σ H ρ F Q s (M.wp_mono (fun d k v H' F' s' e' hd => k v H' F' s' e' hd) (fun _ z => z) (M.wp_bind.mp w))⟩
theorem DFs.lift (h : DFs X o es fs ta) : DFE X o es (aLift fs) ta :=
  ⟨h.p, fun y σ H ρ F Q s w => h.q y σ H ρ F Q s (M.wp_mono (fun d k v H' F' s' e' hd => k v H' F' s' e' hd) (fun _ z => z) (M.wp_bind.mp w))⟩
theorem dfe_one (h : DEE X o e fe te) (hs : starEach [e] X.env = (false, eval e X.env) :: starEach [] X.env := by rfl) : DFE X o [e] (aOne fe) (tCons te tNil) :=
  ⟨pa_cons h.p pa_nil hs, fun y σ H ρ F Q s w => h.q y σ H ρ F _ s (M.wp_mono (fun d k v H' F' s' e' hd => k [v] H' F' s' e' (.cons hd .nil)) (fun _ z => z) (M.wp_bind.mp w))⟩
/-- a method of a held list -/
def OwnM (K : PySem.W.Frag) (r : V → List V → Hp → VK → Prop) (g : List D → List D → M (D × List D)) : Prop := ∀ a vs ds args ad H F (Q : VK), Same F H → H a = some (.lst vs) → F a = none → RpAll K F vs ds → RpAll K F args ad →
  (g ds ad).wp (fun u => ∀ v ws, Rp K F v u.1 → RpAll K F ws u.2 → Q v (upd H a (.lst ws))) noE → r (.ref a) args H Q
/-- its arguments looked at -/
def OwnB (K : PySem.W.Frag) (r : V → List V → Hp → VK → Prop) (g : List D → List D → M (D × List D)) : Prop := ∀ a vs ds args ad H F (Q : VK), Same F H → H a = some (.lst vs) → F a = none → RpAll K F vs ds → ShAll K F H args ad →
  (g ds ad).wp (fun u => ∀ v ws, Rp K F v u.1 → RpAll K F ws u.2 → Q v (upd H a (.lst ws))) noE → r (.ref a) args H Q
def heldAt (i : Nat) (ρ : En) : M (List D) := match ρ[i]? with
  | some (some (.list xs)) => .ret xs
  | _ => .bad
def eMeth (i : Nat) (g : List D → List D → M (D × List D)) (fse : En → M (List D × En)) : En → M (D × En) := fun ρ => (fse ρ).bind fun p =>
  (heldAt i p.2).bind fun xs => (g xs p.1).bind fun u => .ret (u.1, p.2.set i (some (.list u.2)))
theorem held_of {K : PySem.W.Frag} {y : Y} {σ : Sl} {H F : Hp} {ρ : En} {i : Nat} (s : SR K y o σ H ρ F) (ho : o.lookup i = some .lst) : ∃ a vs ds, σ[i]? = some (some (.ref a)) ∧ ρ[i]? = some (some (.list ds)) ∧ H a = some (.lst vs) ∧ F a = none ∧ RpAll K F vs ds := by
  obtain ⟨S, g1, _⟩ := s.own
  obtain ⟨v, d, e1, e2, e3, e4⟩ := g1 i .lst ho
  obtain ⟨a, vs, ds, rfl, rfl, eS, eH, r⟩ := e3
  exact ⟨a, vs, ds, e1, e2, eH, (e4 a (by rw [eS]; exact List.mem_cons_self)).1, r⟩
section
variable {T id : String} {name : Str} {r : V → List V → Hp → VK → Prop} {g : List D → List D → M (D × List D)} {o₁ : Expr} {apos cpos : Pos}
theorem own_w {i : Nat} (ho : o.lookup i = some .lst) (hg : OwnM X.K r g) (y : Y) (σ : Sl) (H : Hp) (ρ : En) (F : Hp) (Q : VK) (s : SR X.K y o σ H ρ F)
    (qa : ∀ (y : Y) (σ : Sl) (H : Hp) (ρ : En) (F : Hp) (Q : List V → Hp → Prop), SR X.K y o σ H ρ F → (fse ρ).wp (fun d => ∀ vs H' F', SR X.K y o σ H' d.2 F' → Same F F' → RpAll X.K F' vs d.1 → Q vs H') noE → ta σ H Q)
    (w : (eMeth i g fse ρ).wp (fun d => ∀ v H' F', SR X.K y o σ H' d.2 F' → Same F F' → Rp X.K F' v d.1 → Q v H') noE) : tBM X.K "list" r (tVar i) ta σ H Q := by
  obtain ⟨a, vs, ds, e1, e2, eH, _, r1⟩ := held_of s ho
  refine ⟨.ref a, e1, .inl ⟨rfl, _, SqL.of eH⟩, ?_⟩
  refine qa y σ H ρ F _ s (M.wp_mono (fun p k args H' F' s' e' hd => ?_) (fun _ z => z) (M.wp_bind.mp w))
  obtain ⟨a', vs', ds', e1', e2', eH', f', r1'⟩ := held_of s' ho
  rw [e1] at e1'; cases e1'
  unfold heldAt at k
  rw [e2'] at k
  refine hg a vs' ds' args p.1 H' F' _ s'.fz eH' f' r1' hd (M.wp_mono (fun u k2 v ws hv hws => ?_) (fun _ z => z) (M.wp_bind.mp k))
  exact k2 v _ F' (sr_put s' ho e1 eH' hws) e' hv
theorem dee_m {i : Nat} (pa : PlainAttrs "list") (slot : Slot "list" name id) (hty : typeOf (.builtin id) = pure (.type "method_descriptor")) (hm : MtR X id r) (hg : OwnM X.K r g) (hv : PE X o₁ (tVar i)) (ha : DFE X o (e :: es) fse ta) (ho : o.lookup i = some .lst)
    (hp : PE X (.Call (.Attribute o₁ name apos) (e :: es) [] cpos) (tBM X.K "list" r (tVar i) ta)) : DEE X o (.Call (.Attribute o₁ name apos) (e :: es) [] cpos) (eMeth i g fse) (tBM X.K "list" r (tVar i) ta) :=
  ⟨hp, fun y σ H ρ F Q s w => own_w ho hg y σ H ρ F Q s ha.q w⟩
def eMethB (i : Nat) (g : List D → List D → M (D × List D)) (fs : En → M (List D)) : En → M (D × En) := fun ρ => (fs ρ).bind fun ad =>
  (heldAt i ρ).bind fun xs => (g xs ad).bind fun u => .ret (u.1, ρ.set i (some (.list u.2)))
theorem ownB_w {i : Nat} (ho : o.lookup i = some .lst) (hg : OwnB X.K r g) (y : Y) (σ : Sl) (H : Hp) (ρ : En) (F : Hp) (Q : VK) (s : SR X.K y o σ H ρ F)
    (qa : ∀ (y : Y) (σ : Sl) (H : Hp) (ρ : En) (F : Hp) (Q : List V → Hp → Prop), SR X.K y o σ H ρ F → (fs ρ).wp (fun ds => ∀ vs H' F', SR X.K y o σ H' ρ F' → Same F F' → RBs X.K o σ ρ F' vs ds → Q vs H') noE → ta σ H Q)
    (w : (eMethB i g fs ρ).wp (fun d => ∀ v H' F', SR X.K y o σ H' d.2 F' → Same F F' → Rp X.K F' v d.1 → Q v H') noE) : tBM X.K "list" r (tVar i) ta σ H Q := by
  obtain ⟨a, vs, ds, e1, e2, eH, _, r1⟩ := held_of s ho
  refine ⟨.ref a, e1, .inl ⟨rfl, _, SqL.of eH⟩, ?_⟩
  refine qa y σ H ρ F _ s (M.wp_mono (fun p k args H' F' s' e' hd => ?_) (fun _ z => z) (M.wp_bind.mp w))
  obtain ⟨a', vs', ds', e1', e2', eH', f', r1'⟩ := held_of s' ho
  rw [e1] at e1'; cases e1'
  unfold heldAt at k
  rw [e2'] at k
  refine hg a vs' ds' args p H' F' _ s'.fz eH' f' r1' (RBs.sh s' hd) (M.wp_mono (fun u k2 v ws hv hws => ?_) (fun _ z => z) (M.wp_bind.mp k))
  exact k2 v _ F' (sr_put s' ho e1 eH' hws) e' hv
end

/-! ### the methods -/
def appG (xs : List D) (ad : List D) : M (D × List D) := match ad with
  | [d] => if xs.length < sizeLine then .ret (.none, xs ++ [d]) else .bad
  | _ => .bad
theorem ow_append {K : PySem.W.Frag} : OwnM K rAppend appG := by
  intro a vs ds args ad H F Q f hH fa r ra w
  unfold appG at w
  cases ra with
  | nil => exact w.elim
  | cons h1 h2 =>
    cases h2 with
    | cons _ _ => exact w.elim
    | nil =>
      simp only at w
      split at w
      · rename_i hl
        exact ⟨a, vs, _, rfl, rfl, hH, by rw [rpAll_len r]; exact hl, w _ _ .non (rpAll_append r (.cons h1 .nil))⟩
      · exact w.elim
def popAtG (xs : List D) (ad : List D) : M (D × List D) := match ad with
  | [.int k] => if -(2 ^ 63) ≤ k ∧ k < 2 ^ 63 then match ixN xs.length k with
      | some j => match xs[j]? with
        | some d => .ret (d, xs.eraseIdx j)
        | none => .bad
      | none => .bad
    else .bad
  | _ => .bad
theorem ow_popAt {K : PySem.W.Frag} : OwnM K rPopAt popAtG := by
  intro a vs ds args ad H F Q f hH fa r ra w
  unfold popAtG at w
  split at w
  · rename_i k
    split at w
    · rename_i hk
      cases ra with
      | cons h1 h2 =>
        cases h2
        cases h1
        split at w
        · rename_i j hj
          split at w
          · rename_i d hd
            rw [← rpAll_len r] at hj
            obtain ⟨v, e1, q⟩ := rpAll_get r hd
            exact ⟨a, vs, k, j, v, rfl, rfl, hH, hk.1, hk.2, (ixN_seq hj).1, e1, w v _ q (rpAll_erase j r)⟩
          · exact w.elim
        · exact w.elim
    · exact w.elim
  · exact w.elim
def extG (xs : List D) (ad : List D) : M (D × List D) := match ad with
  | [.list ys] => if xs.length + ys.length ≤ sizeLine then .ret (.none, xs ++ ys) else .bad
  | _ => .bad
theorem ow_extend {K : PySem.W.Frag} : OwnB K rExtend extG := by
  intro a vs ds args ad H F Q f hH fa r ra w
  unfold extG at w
  split at w
  · rename_i ys
    split at w
    · rename_i hl
      cases ra with
      | cons h1 h2 =>
        cases h2
        obtain ⟨b, us, rfl, t1, r1⟩ := h1.list f
        exact ⟨a, b, vs, us, rfl, rfl, hH, t1, by rw [rpAll_len r, rpAll_len r1]; exact hl, w _ _ .non (rpAll_append r r1)⟩
    · exact w.elim
  · exact w.elim
theorem dee_app {i : Nat} {o₁ : Expr} {apos cpos : Pos} (hv : PE X o₁ (tVar i)) (ha : DFE X o [e] fse ta) (ho : o.lookup i = some .lst)
    (hp : PE X (.Call (.Attribute o₁ "append" apos) [e] [] cpos) (tBM X.K "list" rAppend (tVar i) ta)) : DEE X o (.Call (.Attribute o₁ "append" apos) [e] [] cpos) (eMeth i appG fse) (tBM X.K "list" rAppend (tVar i) ta) :=
  ⟨hp, fun y σ H ρ F Q s w => own_w ho ow_append y σ H ρ F Q s ha.q w⟩
theorem dee_popAt {i : Nat} {o₁ : Expr} {apos cpos : Pos} (hv : PE X o₁ (tVar i)) (ha : DFE X o [e] fse ta) (ho : o.lookup i = some .lst)
    (hp : PE X (.Call (.Attribute o₁ "pop" apos) [e] [] cpos) (tBM X.K "list" rPopAt (tVar i) ta)) : DEE X o (.Call (.Attribute o₁ "pop" apos) [e] [] cpos) (eMeth i popAtG fse) (tBM X.K "list" rPopAt (tVar i) ta) :=
  ⟨hp, fun y σ H ρ F Q s w => own_w ho ow_popAt y σ H ρ F Q s ha.q w⟩
theorem dee_ext {i : Nat} {o₁ : Expr} {apos cpos : Pos} (hv : PE X o₁ (tVar i)) (ha : DBs X o [e] fs ta) (ho : o.lookup i = some .lst)
    (hp : PE X (.Call (.Attribute o₁ "extend" apos) [e] [] cpos) (tBM X.K "list" rExtend (tVar i) ta)) : DEE X o (.Call (.Attribute o₁ "extend" apos) [e] [] cpos) (eMethB i extG fs) (tBM X.K "list" rExtend (tVar i) ta) :=
  ⟨hp, fun y σ H ρ F Q s w => ownB_w ho ow_extend y σ H ρ F Q s ha.q w⟩

/-! ### statements over them -/
def gExprE (f : En → M (D × En)) : G := fun ρ => (f ρ).bind fun d => .ret (.nx, d.2)
theorem ds_exprE (he : DEE X o e fe te) (hs : swapsWith e none pos.line X.env = pure false := by rfl) : DS X C ol o (.Expr e pos) o (gExprE fe) (tDrop te) :=
  ⟨ps_expr he.p hs, fun y σ H ρ F D' hz s w => he.q y σ H ρ F _ s (M.wp_mono (fun d k v H' F' s' e' hd => k σ H' F' s' e') (fun _ z => z) (M.wp_bind.mp w))⟩
def gSetE (i : Nat) (f : En → M (D × En)) : G := fun ρ => (f ρ).bind fun d => if i < d.2.length then .ret (.nx, d.2.set i (some d.1)) else .bad
theorem ds_setE {i : Nat} {x : Str} {pos' : Pos} (hN : X.N.Nodup) (hi : X.N[i]? = some x) (hx : Loc X.env.scope x) (he : DEE X o e fe te) (hk : i ∉ C.kp := by first | decide | (dsimp only; decide)) (hs : swapsWith e (some (.Name x pos')) pos.line X.env = pure false := by rfl) (hf : X.fn x = true ∨ X.env.scope.names.lookup x = some .local := by first | exact .inl rfl | exact .inr rfl | assumption) :
    DS X C ol o (.Assign [.Name x pos'] e pos) (remO o i) (gSetE i fe) (tAsg te (gName i)) := by
  refine ⟨ps_set hN hi hx he.p hs hf, fun y σ H ρ F D' hz s w => he.q y σ H ρ F _ s (M.wp_mono (fun d k v H' F' s' e' hd => ?_) (fun _ z => z) (M.wp_bind.mp w))⟩
  split at k
  · rename_i hlt
    exact k _ H' F' (sr_set s' (fun p hp q => hk (q ▸ hz p hp)) hd (by rw [← s'.len]; exact hlt)) e'
  · exact k.elim
/-- x[k] = e, x held -/
def gSetIx (i : Nat) (f : En → M D) (fk : En → M D) : G := fun ρ => (f ρ).bind fun d => (fk ρ).bind fun kd => (heldAt i ρ).bind fun xs => (asI kd).bind fun k => match ixN xs.length k with
  | some j => .ret (.nx, ρ.set i (some (.list (xs.set j d))))
  | none => .bad
theorem ds_setIx {i : Nat} {o₁ ei : Expr} {fk : En → M D} {tk : TE} {p2 : Pos} (hv : PE X o₁ (tVar i)) (he : DE X o e f te) (hik : DB X o ei fk tk) (ho : o.lookup i = some .lst)
    (hp : PS X (.Assign [.Subscript o₁ ei p2] e pos) (tAsg te (gSub (tVar i) tk rSetL))) : DS X C ol o (.Assign [.Subscript o₁ ei p2] e pos) o (gSetIx i f fk) (tAsg te (gSub (tVar i) tk rSetL)) := by
  refine ⟨hp, fun y σ H ρ F D' hz s w => he.q y σ H ρ F _ s (M.wp_mono (fun d k v H' F' s' e' hd => ?_) (fun _ z => z) (M.wp_bind.mp w))⟩
  obtain ⟨a, vs, ds, e1, e2, eH, _, r1⟩ := held_of s' ho
  refine ⟨.ref a, e1, ?_⟩
  refine hik.q y σ H' ρ F' _ s' (M.wp_mono (fun kd k2 u H2 F2 s2 ee hk => ?_) (fun _ z => z) (M.wp_bind.mp k))
  obtain ⟨a', vs', ds', e1', e2', eH', f', r1'⟩ := held_of s2 ho
  rw [e1] at e1'; cases e1'
  unfold heldAt at k2
  rw [e2'] at k2
  have hk := RB.rp s2 hk
  cases hk with
  | int n =>
    have k2 : (match ixN ds'.length n with
      | some j => M.ret (Fl.nx, ρ.set i (some (.list (ds'.set j d))))
      | none => M.bad).wp (Post X.K y C ol o F D') noE := k2
    split at k2
    · rename_i j hj
      rw [← rpAll_len r1'] at hj
      exact ⟨a, vs', n, j, rfl, rfl, eH', hj, k2 σ _ F2 (sr_put s2 ho e1 eH' (rpAll_set (rp_mono ee hd) j r1')) (e'.trans ee)⟩
    · exact k2.elim
  | _ => exact k2.elim

/-! ### what is walked -/
structure ItOk (K : PySem.W.Frag) (J : It) (F : Hp) (items : List D) : Prop where
  go : ∀ i H, Same F H → i < items.length → J.go i H
  stop : ∀ i H, Same F H → items.length ≤ i → J.stop i H
  yld : ∀ i Fc H x H' d, Same F Fc → Same Fc H → J.yld i H x H' → items[i]? = some d → ∃ F', Ext Fc H F' H' ∧ Rp K F' x d
structure DI (X : Cx) (o : Own) (tg iter : Expr) (f : En → M (List D)) (wi : TI) : Prop where
  p : PI X tg iter wi
  q : ∀ (y : Y) (σ : Sl) (H : Hp) (ρ : En) (F : Hp) (R : It → Hp → Prop), SR X.K y o σ H ρ F →
    (f ρ).wp (fun ds => ∀ J H' F', SR X.K y o σ H' ρ F' → Same F F' → ItOk X.K J F' ds → R J H') noE → wi σ H R
/-- a target; kp: slots that are not stored into -/
structure DG (X : Cx) (kp : List Nat) (o : Own) (tg : Expr) (f : D → En → M En) (t : TG) : Prop where
  p : PG X tg t
  q : ∀ (y : Y) (σ : Sl) (H : Hp) (ρ : En) (F : Hp) (v : V) (d : D) (Q : Sl → Hp → Prop), (∀ p ∈ y.Z, p.1 ∈ kp) → SR X.K y o σ H ρ F → Rp X.K F v d →
    (f d ρ).wp (fun ρ' => ∀ σ', SR X.K y o σ' H ρ' F → Q σ' H) noE → t v σ H Q
def kName (i : Nat) : D → En → M En := fun d ρ => if i < ρ.length then .ret (ρ.set i (some d)) else .bad
theorem dg_name {i : Nat} {x : Str} {kp : List Nat} (hp : PG X (.Name x pos) (gName i)) (ho : o.lookup i = none := by rfl) (hk : i ∉ kp := by first | decide | (dsimp only; decide)) : DG X kp o (.Name x pos) (kName i) (gName i) := by
  refine ⟨hp, fun y σ H ρ F v d Q hz s hv w => ?_⟩
  unfold kName at w
  split at w
  · rename_i hl
    have s2 := sr_set s (fun p hp q => hk (by rw [← q]; exact hz p hp)) hv (show i < σ.length by rw [← s.len]; exact hl)
    refine w _ (sr_sub s2 (fun j kd hj => ?_) rfl (fun j d' hj => ⟨hj, fun hn => ?_⟩) fun _ _ _ => rfl)
    · have z : j ≠ i := fun z => by subst z; rw [ho] at hj; cases hj
      rw [lookup_rem z]; exact hj
    · by_cases z : j = i
      · subst z; exact lookup_rem_self _ _
      · rw [lookup_rem z]; exact hn
  · exact w.elim
structure DGs (X : Cx) (kp : List Nat) (o : Own) (tgs : List Expr) (f : List D → En → M En) (t : TGs) : Prop where
  p : PGs X tgs t
  q : ∀ (y : Y) (σ : Sl) (H : Hp) (ρ : En) (F : Hp) (vs : List V) (ds : List D) (Q : Sl → Hp → Prop), (∀ p ∈ y.Z, p.1 ∈ kp) → SR X.K y o σ H ρ F → RpAll X.K F vs ds →
    (f ds ρ).wp (fun ρ' => ∀ σ', SR X.K y o σ' H ρ' F → Q σ' H) noE → t vs σ H Q
def ksNil : List D → En → M En := fun ds ρ => match ds with
  | [] => .ret ρ
  | _ => .bad
def ksCons (f : D → En → M En) (g : List D → En → M En) : List D → En → M En := fun ds ρ => match ds with
  | d :: r => (f d ρ).bind fun ρ' => g r ρ'
  | [] => .bad
theorem dgs_nil {kp : List Nat} : DGs X kp o [] ksNil L2.gNil := ⟨pgs_nil, fun y σ H ρ F vs ds Q hz s hv w => by
  cases hv with
  | nil => exact ⟨rfl, w σ s⟩
  | cons _ _ => exact w.elim⟩
end
end DL

set_option Elab.async false
set_option linter.all false
set_option maxRecDepth 100000
set_option maxHeartbeats 4000000
/-! DL1: loops and comprehensions. -/
namespace DL
open PySem PySem.Spec PyProof.Rows L2

/-- the slots at st stand as they stood -/
def Stb (st : List Nat) (σ0 : Sl) (ρ0 : En) (σ : Sl) (ρ : En) : Prop := ∀ i ∈ st, σ[i]? = σ0[i]? ∧ ρ[i]? = ρ0[i]?
structure ItS (K : PySem.W.Frag) (o : Own) (st : List Nat) (σ0 : Sl) (ρ0 : En) (J : It) (F : Hp) (items : List D) : Prop where
  go : ∀ y σ H ρ Fc i, SR K y o σ H ρ Fc → Same F Fc → Stb st σ0 ρ0 σ ρ → i < items.length → J.go i H
  stop : ∀ y σ H ρ Fc i, SR K y o σ H ρ Fc → Same F Fc → Stb st σ0 ρ0 σ ρ → items.length ≤ i → J.stop i H
  yld : ∀ y σ H ρ Fc i x H' d, SR K y o σ H ρ Fc → Same F Fc → Stb st σ0 ρ0 σ ρ → J.yld i H x H' → items[i]? = some d → ∃ F', Ext Fc H F' H' ∧ Rp K F' x d
/-- what is walked; st: the slots that must stand meanwhile -/
structure DJ (X : Cx) (o : Own) (st : List Nat) (tg iter : Expr) (f : En → M (List D)) (wi : TI) : Prop where
  p : PI X tg iter wi
  q : ∀ (y : Y) (σ : Sl) (H : Hp) (ρ : En) (F : Hp) (R : It → Hp → Prop), SR X.K y o σ H ρ F →
    (f ρ).wp (fun ds => ∀ J H' F', SR X.K y o σ H' ρ F' → Same F F' → ItS X.K o st σ ρ J F' ds → R J H') noE → wi σ H R
section
variable {X : Cx} {C : Sc} {ol o o' : Own} {e : Expr} {es : List Expr} {f : En → M D} {te : TE} {ta : TA} {pos : Pos} {K : PySem.W.Frag} {y : Y} {σ : Sl} {H F : Hp} {ρ : En}

/-! ### targets of several names -/
theorem dgs_cons {kp : List Nat} {t1 : Expr} {ts : List Expr} {f1 : D → En → M En} {f2 : List D → En → M En} {g1 : TG} {g2 : TGs} (h1 : DG X kp o t1 f1 g1) (h2 : DGs X kp o ts f2 g2)
    (hs : (assignEach (t1 :: ts) X.env).map (·.2) = assign t1 X.env :: (assignEach ts X.env).map (·.2) := by rfl) : DGs X kp o (t1 :: ts) (ksCons f1 f2) (gCons g1 g2) := by
  refine ⟨pgs_cons h1.p h2.p hs, fun y σ H ρ F vs ds Q hz s hv w => ?_⟩
  cases hv with
  | nil => exact w.elim
  | cons r1 r2 =>
    refine ⟨_, _, rfl, h1.q y σ H ρ F _ _ _ hz s r1 (M.wp_mono (fun ρ' k σ' s' => ?_) (fun _ z => z) (M.wp_bind.mp w))⟩
    exact h2.q y σ' H ρ' F _ _ _ hz s' r2 k
def kTup (f : List D → En → M En) : D → En → M En := fun d ρ => match d with
  | .tuple ds => f ds ρ
  | _ => .bad
theorem dg_tup {kp : List Nat} {ts : List Expr} {k n : Nat} {f2 : List D → En → M En} {g2 : TGs} (hc : X.calm = true) (h : DGs X kp o ts f2 g2) (hn : (assignEach ts X.env).length = n := by rfl) (hst : (assignEach ts X.env).findIdx? (·.1) = none := by rfl)
    (hl : ∀ ds ρ, ds.length ≠ n → ∀ Q, ¬ (f2 ds ρ).wp Q noE) : DG X kp o (.Tuple ts k pos) (kTup f2) (gTup X.K n g2) := by
  refine ⟨pg_tup hc h.p hn hst, fun y σ H ρ F v d Q hz s hv w => ?_⟩
  cases hv with
  | tup ht ha =>
    refine ⟨_, _, rfl, ?_, ?_, h.q y σ H ρ F _ _ Q hz s ha w⟩
    · rcases ht with (h | ⟨o, h⟩) | h
      · exact .inl (.inl (s.fz _ _ h))
      · exact .inl (.inr ⟨o, s.fz _ _ h⟩)
      · exact .inr h
    · rw [rpAll_len ha]
      exact Classical.byContradiction fun z => hl _ _ z _ w
  | _ => exact w.elim
theorem ksNil_len (ds : List D) (ρ : En) (h : ds.length ≠ 0) (Q : En → Prop) : ¬ (ksNil ds ρ).wp Q noE := by
  cases ds with
  | nil => exact absurd rfl h
  | cons _ _ => exact fun z => z
theorem ksCons_len {n : Nat} {f1 : D → En → M En} {f2 : List D → En → M En} (h2 : ∀ ds ρ, ds.length ≠ n → ∀ Q, ¬ (f2 ds ρ).wp Q noE) (ds : List D) (ρ : En) (h : ds.length ≠ n + 1) (Q : En → Prop) : ¬ (ksCons f1 f2 ds ρ).wp Q noE := by
  cases ds with
  | nil => exact fun z => z
  | cons d r =>
    intro w
    have w := M.wp_bind.mp w
    have hr : r.length ≠ n := fun z => h (by rw [List.length_cons, z])
    have : ∀ {m : M En}, m.wp (fun x => (f2 r x).wp Q noE) noE → False := fun {m} => by
      induction m with
      | ret x => exact fun z => h2 r x hr Q z
      | bad => exact fun z => z
      | err _ => exact fun z => z
      | draw n k ih => exact fun z => ih 0 (z.2 0 z.1)
    exact this w

/-! ### for -/
def forL (tg : D → En → M En) (body : G) : List D → En → M (Fl × En)
  | [], ρ => .ret (.nx, ρ)
  | x :: xs, ρ => (tg x ρ).bind fun ρ1 => (body ρ1).bind fun p => match p.1 with
    | .nx => forL tg body xs p.2
    | .ct => forL tg body xs p.2
    | .br => .ret (.nx, p.2)
    | .rt d => .ret (.rt d, p.2)
def gFor (items : En → M (List D)) (tg : D → En → M En) (body : G) : G := fun ρ => (items ρ).bind fun xs => forL tg body xs ρ
theorem ds_for {tg iter : Expr} {body : List Stmt} {fi : En → M (List D)} {wi : TI} {ft : D → En → M En} {gt : TG} {g : G} {tb : TS} (hp : PassesOwn (model X.prog X.w) X.A X.env X.xe) (hc : X.calm = true) (hi : DJ X o [] tg iter fi wi) (hg : DG X C.kp o tg ft gt) (hb : DSs X C o o body o g tb)
    (hs : ∀ x, foldedSetIterable iter X.env x = pure x := by intro _; rfl) : DS X C ol o (.For tg iter body [] pos) o (gFor fi ft g) (tFor wi gt tb) := by
  refine ⟨ps_for hp hc hi.p hg.p hb.p hs, fun y σ H ρ F D' hz s w => hi.q y σ H ρ F _ s (M.wp_mono (fun items k J H1 F1 s1 e1 it => ?_) (fun _ z => z) (M.wp_bind.mp w))⟩
  refine ⟨fun i m σ' H' => m + i = items.length ∧ ∃ ρ' F', SR X.K y o σ' H' ρ' F' ∧ Same F1 F' ∧ (forL ft g (items.drop i) ρ').wp (Post X.K y C ol o F D') noE, ⟨items.length, rfl, ρ, F1, s1, .refl _, k⟩, fun i m σ' H' ⟨hm, ρ', F', s', e', k'⟩ => ?_⟩
  have e0 : Same F F' := e1.trans e'
  by_cases hlt : i < items.length
  · refine .inr ⟨it.go y σ' H' ρ' F' i s' e' (fun _ z => nomatch z) hlt, fun σ2 H2 => ∃ ρ2 F2, SR X.K y o σ2 H2 ρ2 F2 ∧ Same F1 F2 ∧ (forL ft g (items.drop (i + 1)) ρ2).wp (Post X.K y C ol o F D') noE, fun σ2 H2 ⟨ρ2, F2, s2, e2, k2⟩ => ⟨m - 1, by omega, by omega, ρ2, F2, s2, e2, k2⟩, fun x H2 hy => ?_⟩
    obtain ⟨F2, x2, r2⟩ := it.yld y σ' H' ρ' F' i x H2 items[i] s' e' (fun _ z => nomatch z) hy (List.getElem?_eq_getElem hlt)
    have s2 := s'.ext x2
    have e2 := e'.trans x2.f
    rw [List.drop_eq_getElem_cons hlt] at k'
    refine hg.q y σ' H2 ρ' F2 x _ _ hz s2 r2 (M.wp_mono (fun ρ3 k3 σ3 s3 => ?_) (fun _ z => z) (M.wp_bind.mp k'))
    refine hb.q y σ3 H2 ρ3 F2 _ hz s3 (M.wp_mono (fun p k4 => ?_) (fun _ z => z) (M.wp_bind.mp k3))
    obtain ⟨fl, ρ4⟩ := p
    cases fl with
    | nx => exact fun σ5 H5 F5 s5 e5 => ⟨ρ4, F5, s5, e2.trans e5, k4⟩
    | ct => exact fun σ5 H5 F5 s5 e5 => ⟨ρ4, F5, s5, e2.trans e5, k4⟩
    | br => exact fun σ5 H5 F5 s5 e5 => k4 σ5 H5 F5 s5 ((e1.trans e2).trans e5)
    | rt d => exact fun v σ5 H5 F5 s5 e5 hv => k4 v σ5 H5 F5 s5 ((e1.trans e2).trans e5) hv
  · refine .inl ⟨it.stop y σ' H' ρ' F' i s' e' (fun _ z => nomatch z) (by omega), ?_⟩
    rw [List.drop_eq_nil_of_le (by omega)] at k'
    exact k' σ' H' F' s' e0

/-! ### while -/
def whileN (c : En → M Bool) (body : G) : Nat → En → M (Fl × En)
  | 0, _ => .bad
  | n + 1, ρ => (c ρ).bind fun b => if b then (body ρ).bind fun p => match p.1 with
      | .nx => whileN c body n p.2
      | .ct => whileN c body n p.2
      | .br => .ret (.nx, p.2)
      | .rt d => .ret (.rt d, p.2)
    else .ret (.nx, ρ)
theorem ds_while (n : Nat) {c : Expr} {body : List Stmt} {fc : En → M Bool} {tc : TT} {g : G} {tb : TS} (hp : PassesOwn (model X.prog X.w) X.A X.env X.xe) (hc : DT X o c fc tc) (hb : DSs X C o o body o g tb) : DS X C ol o (.While c body [] pos) o (whileN fc g n) (tWhile tc tb) := by
  refine ⟨ps_while hp hc.p hb.p, fun y σ H ρ F D' hz s w => ?_⟩
  refine ⟨fun m σ' H' => ∃ ρ' F', SR X.K y o σ' H' ρ' F' ∧ Same F F' ∧ (whileN fc g m ρ').wp (Post X.K y C ol o F D') noE, ⟨n, ρ, F, s, .refl _, w⟩, fun m σ' H' ⟨ρ', F', s', e', k'⟩ => ?_⟩
  cases m with
  | zero => exact k'.elim
  | succ m =>
    refine hc.q y σ' H' ρ' F' _ s' (M.wp_mono (fun b k2 H2 F2 s2 e2 => ?_) (fun _ z => z) (M.wp_bind.mp k'))
    cases b with
    | false => exact iteF (k2 σ' H2 F2 s2 (e'.trans e2))
    | true =>
      refine iteT ⟨fun σ3 H3 => ∃ ρ3 F3, SR X.K y o σ3 H3 ρ3 F3 ∧ Same F F3 ∧ (whileN fc g m ρ3).wp (Post X.K y C ol o F D') noE, fun σ3 H3 z => ⟨m, Nat.lt_succ_self m, z⟩, ?_⟩
      refine hb.q y σ' H2 ρ' F2 _ hz s2 (M.wp_mono (fun p k4 => ?_) (fun _ z => z) (M.wp_bind.mp k2))
      obtain ⟨fl, ρ4⟩ := p
      cases fl with
      | nx => exact fun σ5 H5 F5 s5 e5 => ⟨ρ4, F5, s5, (e'.trans e2).trans e5, k4⟩
      | ct => exact fun σ5 H5 F5 s5 e5 => ⟨ρ4, F5, s5, (e'.trans e2).trans e5, k4⟩
      | br => exact fun σ5 H5 F5 s5 e5 => k4 σ5 H5 F5 s5 ((e'.trans e2).trans e5)
      | rt d => exact fun v σ5 H5 F5 s5 e5 hv => k4 v σ5 H5 F5 s5 ((e'.trans e2).trans e5) hv

/-! ### what is walked -/
theorem pi_seq {tg l : Expr} {tl : TE} (hl : PE X l tl) : PI X tg l (fun σ H R => tl σ H fun x H1 => ∃ a, x = .ref a ∧ (((∃ xs, SqL X.K H1 a xs) ∧ R (Itl X.K a) H1) ∨ ((∃ xs, SqT X.K H1 a xs) ∧ R (Itt X.K a) H1))) := by
  refine ⟨fun pins s σ H R I h => ?_⟩
  refine thn (hl.run pins s σ H _ I h) fun v s1 ⟨x, H1, I1, r1, q1⟩ => ?_
  obtain ⟨a, e, q⟩ := q1
  subst e
  cases r1
  rcases q with ⟨⟨xs, hq⟩, q⟩ | ⟨⟨xs, hq⟩, q⟩
  · obtain ⟨its, rv, p, hz⟩ := I1.list hq
    refine wpAny_pyIter_list p.isList ?_
    refine ⟨s1.heap.objs.size, [s1.heap.objs.size], _, _, H1, rfl, I1.kept (t' := s1.toks) fun b o e => Heap.get?_push_of_some _ e, turn_list a _, ⟨_, Heap.get?_push_size _ rfl, rfl, rfl⟩, fun b hb => ?_, q⟩
    have e : b = s1.heap.objs.size := by simpa using hb
    subst e
    exact I1.fpOk (Nat.le_refl _) (I1.hok.fresh (Nat.le_refl _))
  · obtain ⟨its, rv, p, hz⟩ := I1.tuple hq
    refine wpAny_pyIter_tuple (show s1.heap.IsTuple a its.toArray from p) ?_
    refine ⟨s1.heap.objs.size, [s1.heap.objs.size], _, _, H1, rfl, I1.kept (t' := s1.toks) fun b o e => Heap.get?_push_of_some _ e, turn_tuple a _, ⟨_, Heap.get?_push_size _ rfl, rfl, rfl⟩, fun b hb => ?_, q⟩
    have e : b = s1.heap.objs.size := by simpa using hb
    subst e
    exact I1.fpOk (Nat.le_refl _) (I1.hok.fresh (Nat.le_refl _))
def seqItems : D → M (List D)
  | .list xs => .ret xs
  | .tuple xs => .ret xs
  | _ => .bad
def iSeq (f : En → M D) : En → M (List D) := fun ρ => (f ρ).bind seqItems
theorem sqT_mono {F H : Hp} {a : Addr} {xs : List V} (f : Same F H) (hs : SqT K F a xs) : SqT K H a xs := by
  rcases hs with (h | ⟨o, h⟩) | h
  · exact .inl (.inl (f _ _ h))
  · exact .inl (.inr ⟨o, f _ _ h⟩)
  · exact .inr h
theorem its_list {a : Addr} {vs : List V} {ds : List D} {st : List Nat} {σ0 : Sl} {ρ0 : En} (hF : F a = some (.lst vs)) (r : RpAll K F vs ds) : ItS K o st σ0 ρ0 (Itl K a) F ds where
  go := fun y σ H ρ Fc i s e _ hi => by
    have hi' : i < vs.length := by rw [rpAll_len r]; exact hi
    exact ⟨vs, vs[i], SqL.of (s.fz _ _ (e _ _ hF)), List.getElem?_eq_getElem hi'⟩
  stop := fun y σ H ρ Fc i s e _ hi => ⟨vs, SqL.of (s.fz _ _ (e _ _ hF)), by rw [rpAll_len r]; exact hi⟩
  yld := fun y σ H ρ Fc i x H' d s e _ hy hd => by
    obtain ⟨rfl, h⟩ := hy
    obtain ⟨v, e1, q⟩ := rpAll_get r hd
    have := h vs (SqL.of (s.fz _ _ (e _ _ hF)))
    rw [e1] at this
    cases this
    exact ⟨Fc, .refl s.fz, rp_mono e q⟩
theorem its_tup {a : Addr} {vs : List V} {ds : List D} {st : List Nat} {σ0 : Sl} {ρ0 : En} (hF : SqT K F a vs) (r : RpAll K F vs ds) : ItS K o st σ0 ρ0 (Itt K a) F ds where
  go := fun y σ H ρ Fc i s e _ hi => by
    have hi' : i < vs.length := by rw [rpAll_len r]; exact hi
    exact ⟨vs, vs[i], sqT_mono s.fz (sqT_mono e hF), List.getElem?_eq_getElem hi'⟩
  stop := fun y σ H ρ Fc i s e _ hi => ⟨vs, sqT_mono s.fz (sqT_mono e hF), by rw [rpAll_len r]; exact hi⟩
  yld := fun y σ H ρ Fc i x H' d s e _ hy hd => by
    obtain ⟨rfl, h⟩ := hy
    obtain ⟨v, e1, q⟩ := rpAll_get r hd
    have := h vs (sqT_mono s.fz (sqT_mono e hF))
    rw [e1] at this
    cases this
    exact ⟨Fc, .refl s.fz, rp_mono e q⟩
theorem dj_seq {tg : Expr} (h : DE X o e f te) : DJ X o [] tg e (iSeq f) (fun σ H R => te σ H fun x H1 => ∃ a, x = .ref a ∧ (((∃ xs, SqL X.K H1 a xs) ∧ R (Itl X.K a) H1) ∨ ((∃ xs, SqT X.K H1 a xs) ∧ R (Itt X.K a) H1))) := by
  refine ⟨pi_seq h.p, fun y σ H ρ F R s w => h.q y σ H ρ F _ s (M.wp_mono (fun d k v H' F' s' e' hd => ?_) (fun _ z => z) (M.wp_bind.mp w))⟩
  cases hd with
  | lst hs ha => exact ⟨_, rfl, .inl ⟨⟨_, SqL.of (s'.fz _ _ hs)⟩, k _ H' F' s' e' (its_list hs ha)⟩⟩
  | tup hs ha => exact ⟨_, rfl, .inr ⟨⟨_, sqT_mono s'.fz hs⟩, k _ H' F' s' e' (its_tup hs ha)⟩⟩
  | _ => exact k.elim
/-- a held list -/
theorem dj_own {tg : Expr} (i : Nat) (h : PE X e (tVar i)) (ho : o.lookup i = some .lst := by rfl) : DJ X o [i] tg e (heldAt i) (fun σ H R => tVar i σ H fun x H1 => ∃ a, x = .ref a ∧ (((∃ xs, SqL X.K H1 a xs) ∧ R (Itl X.K a) H1) ∨ ((∃ xs, SqT X.K H1 a xs) ∧ R (Itt X.K a) H1))) := by
  refine ⟨pi_seq h, fun y σ H ρ F R s w => ?_⟩
  obtain ⟨a, vs, ds, e1, e2, eH, f1, r⟩ := held_of s ho
  unfold heldAt at w
  rw [e2] at w
  have key : ∀ {y σ' H' ρ' F'}, SR X.K y o σ' H' ρ' F' → Stb [i] σ ρ σ' ρ' → ∃ vs', H' a = some (.lst vs') ∧ RpAll X.K F' vs' ds := fun {y σ' H' ρ' F'} s' st => by
    obtain ⟨a', vs', ds', q1, q2, q3, _, q4⟩ := held_of s' ho
    obtain ⟨p1, p2⟩ := st i List.mem_cons_self
    rw [p1, e1] at q1; cases q1
    rw [p2, e2] at q2; cases q2
    exact ⟨vs', q3, q4⟩
  refine ⟨.ref a, e1, a, rfl, .inl ⟨⟨vs, SqL.of eH⟩, w _ H F s (.refl _) ⟨fun y' σ' H' ρ' Fc j s' _ st hj => ?_, fun y' σ' H' ρ' Fc j s' _ st hj => ?_, fun y' σ' H' ρ' Fc j x H2 d s' _ st hy hd => ?_⟩⟩⟩
  · obtain ⟨vs', q1, q2⟩ := key s' st
    have hj' : j < vs'.length := by rw [rpAll_len q2]; exact hj
    exact ⟨vs', vs'[j], SqL.of q1, List.getElem?_eq_getElem hj'⟩
  · obtain ⟨vs', q1, q2⟩ := key s' st
    exact ⟨vs', SqL.of q1, by rw [rpAll_len q2]; exact hj⟩
  · obtain ⟨vs', q1, q2⟩ := key s' st
    obtain ⟨rfl, h⟩ := hy
    obtain ⟨v, e1, q⟩ := rpAll_get q2 hd
    have := h vs' (SqL.of q1)
    rw [e1] at this
    cases this
    exact ⟨Fc, .refl s'.fz, q⟩
def rangeL (lo : Int) (n : Nat) : List D := (List.range n).map fun i => .int (lo + (i : Nat))
theorem its_range {lo : Int} {n : Nat} {st : List Nat} {σ0 : Sl} {ρ0 : En} : ItS K o st σ0 ρ0 (Itr lo n) F (rangeL lo n) where
  go := fun y σ H ρ Fc i s e _ hi => by
    show i < n
    simpa [rangeL] using hi
  stop := fun y σ H ρ Fc i s e _ hi => by
    show n ≤ i
    simpa [rangeL] using hi
  yld := fun y σ H ρ Fc i x H' d s e _ hy hd => by
    obtain ⟨rfl, rfl⟩ := hy
    unfold rangeL at hd
    rw [List.getElem?_map] at hd
    by_cases hi : i < n
    · rw [List.getElem?_range hi] at hd
      cases hd
      exact ⟨Fc, .refl s.fz, .int _⟩
    · rw [List.getElem?_eq_none (by rw [List.length_range]; omega)] at hd
      cases hd
def smallI (i : Int) : Bool := decide (-(2 ^ 62) ≤ i) && decide (i < 2 ^ 62)
def iRange1 (f : En → M (List D)) : En → M (List D) := fun ρ => (f ρ).bind fun ds => match ds with
  | [.int j] => if smallI j then .ret (rangeL 0 j.toNat) else .bad
  | _ => .bad
def iRange2 (f : En → M (List D)) : En → M (List D) := fun ρ => (f ρ).bind fun ds => match ds with
  | [.int i, .int j] => if smallI i && smallI j then .ret (rangeL i (j - i).toNat) else .bad
  | _ => .bad
theorem dj_range1 {tg a : Expr} {fs : En → M (List D)} {p : Pos} (hg : Gl X "range") (hm : X.mg "range" = none) (ha : DBs X o [a] fs ta) (hs : starEach [a] X.env = [(false, eval a X.env)] := by rfl) : DJ X o [] tg (.Call (.Name "range" p) [a] [] pos) (iRange1 fs) (iRng1 ta) := by
  refine ⟨pi_range1 hg hm ha.p hs, fun y σ H ρ F R s w => ha.q y σ H ρ F _ s (M.wp_mono (fun d k v H' F' s' e' hd => ?_) (fun _ z => z) (M.wp_bind.mp w))⟩
  split at k
  · rename_i j
    split at k
    · rename_i hj
      simp only [smallI, Bool.and_eq_true, decide_eq_true_eq] at hj
      cases hd with
      | cons h1 h2 =>
        cases h2
        have h1 := RB.rp s' h1
        cases h1
        exact ⟨j, rfl, hj.1, hj.2, k _ H' F' s' e' its_range⟩
    · exact k.elim
  · exact k.elim
theorem dj_range2 {tg a b : Expr} {fs : En → M (List D)} {p : Pos} (hg : Gl X "range") (hm : X.mg "range" = none) (ha : DBs X o [a, b] fs ta) (hs : starEach [a, b] X.env = [(false, eval a X.env), (false, eval b X.env)] := by rfl) (hs2 : starEach [b] X.env = [(false, eval b X.env)] := by rfl) :
    DJ X o [] tg (.Call (.Name "range" p) [a, b] [] pos) (iRange2 fs) (iRng2 ta) := by
  refine ⟨pi_range2 hg hm ha.p hs hs2, fun y σ H ρ F R s w => ha.q y σ H ρ F _ s (M.wp_mono (fun d k v H' F' s' e' hd => ?_) (fun _ z => z) (M.wp_bind.mp w))⟩
  split at k
  · rename_i i j
    split at k
    · rename_i hj
      simp only [smallI, Bool.and_eq_true, decide_eq_true_eq] at hj
      cases hd with
      | cons h1 h2 =>
        cases h2 with
        | cons h3 h4 =>
          cases h4
          have h1 := RB.rp s' h1
          have h3 := RB.rp s' h3
          cases h1; cases h3
          exact ⟨i, j, rfl, ⟨hj.1.1, hj.1.2, hj.2.1, hj.2.2⟩, k _ H' F' s' e' its_range⟩
    · exact k.elim
  · exact k.elim
end
end DL

set_option Elab.async false
set_option linter.all false
set_option maxRecDepth 100000
set_option maxHeartbeats 4000000
/-! DL2: list comprehensions. -/
namespace DL
open PySem PySem.Spec PyProof.Rows L2

theorem wp_some {α : Type} {Q : α → Prop} : ∀ {m : M α}, m.wp Q noE → ∃ x, Q x
  | .ret x, h => ⟨x, h⟩
  | .bad, h => h.elim
  | .err _, h => h.elim
  | .draw _ _, h => wp_some (h.2 0 h.1)

theorem wipe_out {σ : Sl} {i : Nat} : ∀ {vs : List Nat}, i ∉ vs → (wipe σ vs)[i]? = σ[i]?
  | [], _ => rfl
  | v :: vs, h => by
    simp only [List.mem_cons, not_or] at h
    unfold wipe
    rw [List.getElem?_set_ne (Ne.symm h.1)]
    exact wipe_out h.2
section
variable {K : PySem.W.Frag} {y : Y} {o o' : Own} {σ : Sl} {H H' F F' : Hp} {ρ : En}
theorem killS_notin {i : Nat} {d : D} : ∀ {is : List Nat} {ρ : En}, (killS is ρ)[i]? = some (some d) → i ∉ is
  | [], _, _ => by simp
  | j :: is, ρ, h => by
    have h' : (killS is (ρ.set j none))[i]? = some (some d) := h
    simp only [List.mem_cons, not_or]
    refine ⟨fun z => ?_, killS_notin h'⟩
    have h1 := killS_get h'
    subst z
    by_cases hj : i < ρ.length
    · rw [List.getElem?_set_self hj] at h1; cases h1
    · rw [List.getElem?_eq_none (by rw [List.length_set]; omega)] at h1; cases h1
theorem sr_wipe {vs : List Nat} (s : SR K y o σ H ρ F) (hZ : y.Z = []) (hv : ∀ i ∈ vs, o.lookup i = none) : SR K y o (wipe σ vs) H (killS vs ρ) F where
  len := by rw [killS_len, wipe_length]; exact s.len
  fz := s.fz
  bs := s.bs
  f0 := s.f0
  pr := s.pr
  pin := fun p hp => by rw [hZ] at hp; cases hp
  imm := fun i d h1 h2 => by
    obtain ⟨v, e, q⟩ := s.imm i d (killS_get h1) h2
    exact ⟨v, by rw [wipe_out (killS_notin h1)]; exact e, q⟩
  own := by
    obtain ⟨S, g1, g2⟩ := s.own
    refine ⟨S, fun i kd hi => ?_, g2⟩
    have ni : i ∉ vs := fun z => by rw [hv i z] at hi; cases hi
    obtain ⟨v, d, e1, e2, e3⟩ := g1 i kd hi
    exact ⟨v, d, by rw [wipe_out ni]; exact e1, by rw [killS_out ni]; exact e2, e3⟩
/-- back from the block: the slots as they were -/
theorem sr_back {σ' : Sl} {ρ' : En} {y' : Y} (s0 : SR K y o σ H ρ F) (s : SR K y' o σ' H' ρ' F') (e : Same F F') (hσ : ∀ i kd, o.lookup i = some kd → σ'[i]? = σ[i]? ∧ ρ'[i]? = ρ[i]?) (hB : ∀ a u, y.B a = some u → y'.B a = some u) (h0 : Same y.F0 F') (hF : ∀ a, y.B a ≠ none → y.F0 a = none → F' a = none) : SR K y o σ H' ρ F' where
  len := s0.len
  fz := s.fz
  bs := fun a u q => s.bs a u (hB a u q)
  f0 := h0
  pr := hF
  pin := s0.pin
  imm := fun i d h1 h2 => let ⟨v, e1, q⟩ := s0.imm i d h1 h2; ⟨v, e1, rp_mono e q⟩
  own := by
    obtain ⟨S, g1, g2⟩ := s.own
    refine ⟨S, fun i kd hi => ?_, g2⟩
    obtain ⟨v, d, e1, e2, e3, e4⟩ := g1 i kd hi
    refine ⟨v, d, by rw [← (hσ i kd hi).1]; exact e1, by rw [← (hσ i kd hi).2]; exact e2, e3, fun a ha => ?_⟩
    obtain ⟨r1, r2, r3⟩ := e4 a ha
    refine ⟨r1, ?_, r3⟩
    cases q : y.B a with
    | none => rfl
    | some u => rw [hB a u q] at r2; cases r2
/-- all that stands and is no slot's own is kept from here on -/
theorem sr_rebase (s : SR K y o σ H ρ F) (hZ : y.Z = []) : ∃ y' : Y, y'.Z = [] ∧ y'.F0 = F ∧ SR K y' o σ H ρ F ∧ (∀ a u, y.B a = some u → y'.B a = some u) ∧ (∀ a u, y'.B a = some u → H a = some u) := by
  obtain ⟨S, g1, g2⟩ := s.own
  have hB : ∀ a u, y.B a = some u → H a = some u ∧ ¬ ∃ i kd, o.lookup i = some kd ∧ a ∈ S i := fun a u q => ⟨s.bs a u q, fun ⟨i, kd, hi, ha⟩ => by
    obtain ⟨_, _, _, _, _, e4⟩ := g1 i kd hi
    rw [(e4 a ha).2.1] at q; cases q⟩
  refine ⟨⟨fun a => open Classical in if ∃ i kd, o.lookup i = some kd ∧ a ∈ S i then none else H a, F, []⟩, rfl, rfl, ⟨s.len, s.fz, fun a u q => ?_, .refl _, fun a _ h => h, (fun p hp => nomatch hp), s.imm, ⟨S, fun i kd hi => ?_, g2⟩⟩, fun a u q => ?_, fun a u q => ?_⟩
  · simp only at q
    split at q
    · cases q
    · exact q
  · obtain ⟨v, d, e1, e2, e3, e4⟩ := g1 i kd hi
    refine ⟨v, d, e1, e2, e3, fun a ha => ⟨(e4 a ha).1, ?_, (e4 a ha).2.2⟩⟩
    simp only
    rw [if_pos ⟨i, kd, hi, ha⟩]
  · simp only
    rw [if_neg (hB a u q).2]
    exact (hB a u q).1
  · simp only at q
    split at q
    · cases q
    · exact q
/-- a list that nobody holds yet grows -/
theorem sr_grow {a : Addr} {vs ws : List V} (s : SR K (y.with a vs) o σ H ρ F) (h0 : y.F0 a = none) : SR K (y.with a ws) o σ (upd H a (.lst ws)) ρ F := by
  have hb : (y.with a vs).B a = some (.lst vs) := upd_same
  have hHa : H a = some (.lst vs) := s.bs _ _ hb
  have hFa : F a = none := s.pr a (by rw [hb]; exact nofun) h0
  refine ⟨s.len, fun b u q => by rw [upd_ne (ne_of_none q hFa)]; exact s.fz _ _ q, fun b u q => ?_, s.f0, fun b h1 h2 => ?_, s.pin, s.imm, ?_⟩
  · have q : upd y.B a (.lst ws) b = some u := q
    by_cases z : b = a
    · subst z; rw [upd_same] at q ⊢; exact q
    · rw [upd_ne z] at q ⊢
      exact s.bs b u (by show upd y.B a (.lst vs) b = some u; rw [upd_ne z]; exact q)
  · by_cases z : b = a
    · subst z; exact hFa
    · refine s.pr b ?_ h2
      have h1 : upd y.B a (.lst ws) b ≠ none := h1
      rw [upd_ne z] at h1
      show upd y.B a (.lst vs) b ≠ none
      rw [upd_ne z]; exact h1
  · obtain ⟨S, g1, g2⟩ := s.own
    refine ⟨S, fun i kd hi => ?_, g2⟩
    obtain ⟨v, d, e1, e2, e3, e4⟩ := g1 i kd hi
    have ne : ∀ b ∈ S i, b ≠ a := fun b hb z => by
      have r : upd y.B a (.lst vs) b = none := (e4 b hb).2.1
      rw [z, upd_same] at r; cases r
    refine ⟨v, d, e1, e2, ownAt_ext e3 (.refl _) fun b hb => by rw [upd_ne (ne b hb)], fun b hb => ⟨(e4 b hb).1, ?_, by rw [upd_ne (ne b hb)]; exact (e4 b hb).2.2⟩⟩
    have r : upd y.B a (.lst vs) b = none := (e4 b hb).2.1
    rw [upd_ne (ne b hb)] at r
    show upd y.B a (.lst ws) b = none
    rw [upd_ne (ne b hb)]; exact r
end

/-- a clause's tests -/
structure DTs (X : Cx) (o : Own) (es : List Expr) (f : En → M Bool) (t : TT) : Prop where
  p : PTs X es t
  q : ∀ (y : Y) (σ : Sl) (H : Hp) (ρ : En) (F : Hp) (Q : Bool → Hp → Prop), SR X.K y o σ H ρ F →
    (f ρ).wp (fun b => ∀ H' F', SR X.K y o σ H' ρ F' → Same F F' → Q b H') noE → t σ H Q
def tYesD : En → M Bool := fun _ => .ret true
theorem dts_nil {X : Cx} {o : Own} : DTs X o [] tYesD tYes := ⟨pts_nil, fun y σ H ρ F Q s w => w H F s (.refl _)⟩
theorem dts_one {X : Cx} {o : Own} {c : Expr} {f : En → M Bool} {t : TT} (h : DT X o c f t) : DTs X o [c] f t := ⟨pts_one h.p, h.q⟩

def compL (tg : D → En → M En) (c : En → M Bool) (e : En → M D) (ρ : En) : List D → M (List D)
  | [] => .ret []
  | x :: xs => (tg x ρ).bind fun ρ1 => (c ρ1).bind fun b => if b then (e ρ1).bind fun d => (compL tg c e ρ xs).bind fun ds => .ret (d :: ds) else compL tg c e ρ xs
def eComp (items : En → M (List D)) (vs : List Nat) (tg : D → En → M En) (c : En → M Bool) (e : En → M D) : En → M D := fun ρ => (items ρ).bind fun xs =>
  if xs.length ≤ sizeLine then (compL tg c e (killS vs ρ) xs).bind fun ds => .ret (.list ds) else .bad
theorem wipe_idem (vs : List Nat) (σ : Sl) : wipe (wipe σ vs) vs = wipe σ vs := by
  apply List.ext_getElem?
  intro i
  by_cases h : i ∈ vs
  · have key : ∀ (τ : Sl) (us : List Nat), i ∈ us → ∀ v, (wipe τ us)[i]? ≠ some (some v) := fun τ us hi v e => (wipe_some e).2 hi
    have l1 : (wipe (wipe σ vs) vs).length = (wipe σ vs).length := wipe_length _ _
    by_cases hl : i < (wipe σ vs).length
    · have h1 := List.getElem?_eq_getElem (l := wipe (wipe σ vs) vs) (i := i) (by rw [l1]; exact hl)
      have h2 := List.getElem?_eq_getElem (l := wipe σ vs) (i := i) hl
      have k1 := key (wipe σ vs) vs h
      have k2 := key σ vs h
      rw [h1] at k1 ⊢
      rw [h2] at k2 ⊢
      have z1 : (wipe (wipe σ vs) vs)[i]'(by rw [l1]; exact hl) = none := by
        cases q : (wipe (wipe σ vs) vs)[i]'(by rw [l1]; exact hl) with
        | none => rfl
        | some v => exact absurd (by rw [q]) (k1 v)
      have z2 : (wipe σ vs)[i] = none := by
        cases q : (wipe σ vs)[i] with
        | none => rfl
        | some v => exact absurd (by rw [q]) (k2 v)
      rw [z1, z2]
    · rw [List.getElem?_eq_none (by rw [l1]; omega), List.getElem?_eq_none (by omega)]
  · rw [wipe_out h]
/-- a block's target stores into the block's own slots alone -/
structure TW (vs : List Nat) (ft : D → En → M En) (gt : TG) : Prop where
  s : ∀ v σ H (Q : Sl → Hp → Prop), gt v σ H Q → gt v σ H fun σ' H' => wipe σ' vs = wipe σ vs ∧ Q σ' H'
  m : ∀ v σ H (Q Q' : Sl → Hp → Prop), (∀ σ' H', Q σ' H' → Q' σ' H') → gt v σ H Q → gt v σ H Q'
  r : ∀ d ρ (Q : En → Prop), (ft d ρ).wp Q noE → (ft d ρ).wp (fun ρ' => (∀ j, j ∉ vs → ρ'[j]? = ρ[j]?) ∧ Q ρ') noE
section
variable {X : Cx} {o : Own} {st : List Nat} {tg iter elt : Expr} {ifs : List Expr} {fi : En → M (List D)} {wi : TI} {ft : D → En → M En} {gt : TG} {fc : En → M Bool} {tc : TT} {fe : En → M D} {te : TE} {scope : Scope} {own : List (Str × Nat)} {pos : Pos}
theorem wipe_stb {vs : List Nat} {σ σ' : Sl} {ρ ρ' : En} {st : List Nat} (h : ∀ i ∈ st, i ∉ vs) (hs : ∀ i ∈ st, σ'[i]? = (wipe σ vs)[i]? ∧ ρ'[i]? = (killS vs ρ)[i]?) : Stb st σ ρ σ' ρ' := fun i hi => by
  obtain ⟨h1, h2⟩ := hs i hi
  exact ⟨h1.trans (wipe_out (h i hi)), h2.trans (killS_out (h i hi))⟩
/-- the reading of a comprehension -/
theorem lc_w (hst : ∀ i ∈ st, i ∉ own.map (·.2)) (hov : ∀ i ∈ own.map (·.2), o.lookup i = none)
    (qi : ∀ (y : Y) (σ : Sl) (H : Hp) (ρ : En) (F : Hp) (R : It → Hp → Prop), SR X.K y o σ H ρ F → (fi ρ).wp (fun ds => ∀ J H' F', SR X.K y o σ H' ρ F' → Same F F' → ItS X.K o st σ ρ J F' ds → R J H') noE → wi σ H R)
    (qg : ∀ (y : Y) (σ : Sl) (H : Hp) (ρ : En) (F : Hp) (v : V) (d : D) (Q : Sl → Hp → Prop), (∀ p ∈ y.Z, p.1 ∈ ([] : List Nat)) → SR X.K y o σ H ρ F → Rp X.K F v d → (ft d ρ).wp (fun ρ' => ∀ σ', SR X.K y o σ' H ρ' F → Q σ' H) noE → gt v σ H Q)
    (tw : TW (own.map (·.2)) ft gt)
    (qc : ∀ (y : Y) (σ : Sl) (H : Hp) (ρ : En) (F : Hp) (Q : Bool → Hp → Prop), SR X.K y o σ H ρ F → (fc ρ).wp (fun b => ∀ H' F', SR X.K y o σ H' ρ F' → Same F F' → Q b H') noE → tc σ H Q)
    (qe : ∀ (y : Y) (σ : Sl) (H : Hp) (ρ : En) (F : Hp) (Q : VK), SR X.K y o σ H ρ F → (fe ρ).wp (fun d => ∀ v H' F', SR X.K y o σ H' ρ F' → Same F F' → Rp X.K F' v d → Q v H') noE → te σ H Q)
    (y : Y) (σ : Sl) (H : Hp) (ρ : En) (F : Hp) (Q : VK) (s : SR X.K y o σ H ρ F)
    (w : (eComp fi (own.map (·.2)) ft fc fe ρ).wp (fun d => ∀ a vs ds H' F', d = .list ds → y.B a = none → y.F0 a = none → SR X.K (y.with a vs) o σ H' ρ F' → Same F F' → RpAll X.K F' vs ds → Q (.ref a) H') noE) :
    tLc wi gt tc te (own.map (·.2)) σ H Q := by
  generalize hvs : own.map (·.2) = vs at *
  refine qi y σ H ρ F _ s (M.wp_mono (fun items k J H1 F1 s1 e1 it => ?_) (fun _ z => z) (M.wp_bind.mp w))
  intro Da hDa
  split at k
  case isFalse => exact k.elim
  rename_i hlen
  obtain ⟨s2, b1, b2⟩ := sr_new (vs := []) s1 hDa
  -- the block's own y: no pins
  have nz : ∀ {ws : List V} {H' F'}, SR X.K (y.with Da ws) o σ H' ρ F' → SR X.K ⟨(y.with Da ws).B, y.F0, []⟩ o σ H' ρ F' := fun s => ⟨s.len, s.fz, s.bs, s.f0, s.pr, (fun _ z => nomatch z), s.imm, s.own⟩
  have k0 := M.wp_bind.mp k
  refine ⟨fun i m H' => m + i = items.length ∧ ∃ F' vacc dacc, SR X.K (y.with Da vacc) o σ H' ρ F' ∧ Same F1 F' ∧ RpAll X.K F' vacc dacc ∧ dacc.length ≤ i ∧
    (compL ft fc fe (killS vs ρ) (items.drop i)).wp (fun ds => ∀ a vs' ds' H2 F2, PyData.list (dacc ++ ds) = .list ds' → y.B a = none → y.F0 a = none → SR X.K (y.with a vs') o σ H2 ρ F2 → Same F F2 → RpAll X.K F2 vs' ds' → Q (.ref a) H2) noE,
    ⟨items.length, rfl, F1, [], [], s2, .refl _, .nil, Nat.zero_le _, by rw [List.drop_zero]; exact k0⟩, fun i m H' ⟨hm, F', vacc, dacc, s', e', ra, hl, k'⟩ => ?_⟩
  have e0 : Same F F' := e1.trans e'
  have stb0 : ∀ {σ' : Sl} {ρ' : En}, (∀ i ∈ st, σ'[i]? = (wipe σ vs)[i]? ∧ ρ'[i]? = (killS vs ρ)[i]?) → Stb st σ ρ σ' ρ' := fun h => wipe_stb hst h
  have sw := sr_wipe (nz s') rfl hov
  by_cases hlt : i < items.length
  · refine .inr ⟨it.go _ _ H' _ F' i sw e' (stb0 fun _ _ => ⟨rfl, rfl⟩) hlt, fun H2 => ∃ F2 vacc2 dacc2, SR X.K (y.with Da vacc2) o σ H2 ρ F2 ∧ Same F1 F2 ∧ RpAll X.K F2 vacc2 dacc2 ∧ dacc2.length ≤ i + 1 ∧
      (compL ft fc fe (killS vs ρ) (items.drop (i + 1))).wp (fun ds => ∀ a vs' ds' H3 F3, PyData.list (dacc2 ++ ds) = .list ds' → y.B a = none → y.F0 a = none → SR X.K (y.with a vs') o σ H3 ρ F3 → Same F F3 → RpAll X.K F3 vs' ds' → Q (.ref a) H3) noE,
      fun H2 z => ⟨m - 1, by omega, by omega, z⟩, fun x H2 hy => ?_⟩
    obtain ⟨F2, x2, r2⟩ := it.yld _ _ H' _ F' i x H2 items[i] sw e' (stb0 fun _ _ => ⟨rfl, rfl⟩) hy (List.getElem?_eq_getElem hlt)
    have sw2 := sw.ext x2
    have s2' := s'.ext x2
    have e2 := e'.trans x2.f
    rw [List.drop_eq_getElem_cons hlt] at k'
    have k' := M.wp_bind.mp (show ((ft items[i] (killS vs ρ)).bind _).wp _ _ from k')
    suffices q1 : gt x (wipe σ vs) H2 (fun σ3 H3 => wipe σ3 vs = wipe σ vs → tc σ3 H3 fun b H3 =>
      if b = true then te σ3 H3 fun y_1 H4 => ∃ acc, H4 Da = some (HO.lst acc) ∧ acc.length < sizeLine ∧ (∃ F2 vacc2 dacc2, SR X.K (y.with Da vacc2) o σ (upd H4 Da (HO.lst (acc ++ [y_1]))) ρ F2 ∧ Same F1 F2 ∧ RpAll X.K F2 vacc2 dacc2 ∧ dacc2.length ≤ i + 1 ∧
      (compL ft fc fe (killS vs ρ) (items.drop (i + 1))).wp (fun ds => ∀ a vs' ds' H3 F3, PyData.list (dacc2 ++ ds) = .list ds' → y.B a = none → y.F0 a = none → SR X.K (y.with a vs') o σ H3 ρ F3 → Same F F3 → RpAll X.K F3 vs' ds' → Q (.ref a) H3) noE)
      else ∃ F2 vacc2 dacc2, SR X.K (y.with Da vacc2) o σ H3 ρ F2 ∧ Same F1 F2 ∧ RpAll X.K F2 vacc2 dacc2 ∧ dacc2.length ≤ i + 1 ∧
      (compL ft fc fe (killS vs ρ) (items.drop (i + 1))).wp (fun ds => ∀ a vs' ds' H3 F3, PyData.list (dacc2 ++ ds) = .list ds' → y.B a = none → y.F0 a = none → SR X.K (y.with a vs') o σ H3 ρ F3 → Same F F3 → RpAll X.K F3 vs' ds' → Q (.ref a) H3) noE) by
      have qq := tw.s _ _ _ _ q1
      rw [wipe_idem] at qq
      exact tw.m _ _ _ _ _ (fun σ3 H3 ⟨h1, h2⟩ => ⟨h1, h2 h1⟩) qq
    have hz0 : ∀ p ∈ (⟨(y.with Da vacc).B, y.F0, []⟩ : Y).Z, p.1 ∈ ([] : List Nat) := fun p hp => absurd hp (by simp)
    refine qg _ (wipe σ vs) H2 (killS vs ρ) F2 x items[i] _ hz0 sw2 r2 (M.wp_mono (fun ρ3 ⟨hρ3, k3⟩ σ3 s3 hσ3 => ?_) (fun _ z => z) (tw.r _ _ _ k'))
    -- rebase: from here on all stands
    obtain ⟨y', hz', hf0, s3', hB1, hB2⟩ := sr_rebase s3 rfl
    have back : ∀ {H4 F4}, SR X.K y' o σ3 H4 ρ3 F4 → Same F2 F4 → SR X.K (y.with Da vacc) o σ H4 ρ F4 := fun {H4 F4} s4 e4 => by
      refine sr_back s2' s4 e4 (fun j kd hj => ?_) (fun a u q => hB1 a u q) (s2'.f0.trans e4) (fun a q1 q2 => ?_)
      · have nj : j ∉ vs := fun z => by rw [hov j z] at hj; cases hj
        refine ⟨?_, (hρ3 j nj).trans (killS_out nj)⟩
        rw [← wipe_out (σ := σ3) nj, hσ3, wipe_out nj]
      · cases q : (y.with Da vacc).B a with
        | none => exact absurd q q1
        | some u => exact s4.pr a (by rw [hB1 a u q]; exact nofun) (by rw [hf0]; exact s2'.pr a q1 q2)
    refine qc y' σ3 H2 ρ3 F2 _ s3' (M.wp_mono (fun b k4 H4 F4 s4 e4 => ?_) (fun _ z => z) (M.wp_bind.mp k3))
    cases b with
    | false => exact iteF ⟨F4, vacc, dacc, back s4 e4, e2.trans e4, rpAll_mono (x2.f.trans e4) ra, by omega, k4⟩
    | true =>
      refine iteT (qe y' σ3 H4 ρ3 F4 _ s4 (M.wp_mono (fun d k5 v H5 F5 s5 e5 hv => ?_) (fun _ z => z) (M.wp_bind.mp k4)))
      have s6 := back s5 (e4.trans e5)
      refine ⟨vacc, s6.bs Da _ upd_same, ?_, F5, vacc ++ [v], dacc ++ [d], sr_grow s6 b2, (e2.trans e4).trans e5, rpAll_append (rpAll_mono ((x2.f.trans e4).trans e5) ra) (.cons hv .nil), by rw [List.length_append]; simp; omega, ?_⟩
      · rw [rpAll_len ra]
        omega
      · refine M.wp_mono (fun ds k6 => ?_) (fun _ z => z) (M.wp_bind.mp k5)
        rw [List.append_assoc]
        exact k6
  · refine .inl ⟨it.stop _ _ H' _ F' i sw e' (stb0 fun _ _ => ⟨rfl, rfl⟩) (by omega), ?_⟩
    rw [List.drop_eq_nil_of_le (by omega)] at k'
    have k' := k' Da vacc dacc H' F' (by rw [List.append_nil]) b1 b2 s' e0 ra
    exact k'

theorem wipe_set {vs : List Nat} {i : Nat} (h : i ∈ vs) (σ : Sl) (x : Option V) : wipe (σ.set i x) vs = wipe σ vs := by
  have l1 : (wipe (σ.set i x) vs).length = (wipe σ vs).length := by rw [wipe_length, wipe_length, List.length_set]
  apply List.ext_getElem?
  intro j
  by_cases hj : j ∈ vs
  · have key : ∀ (τ : Sl) v, (wipe τ vs)[j]? ≠ some (some v) := fun τ v e => (wipe_some e).2 hj
    by_cases hl : j < (wipe σ vs).length
    · have h1 := List.getElem?_eq_getElem (l := wipe (σ.set i x) vs) (i := j) (by rw [l1]; exact hl)
      have h2 := List.getElem?_eq_getElem (l := wipe σ vs) (i := j) hl
      have k1 := key (σ.set i x)
      have k2 := key σ
      rw [h1] at k1 ⊢
      rw [h2] at k2 ⊢
      have z1 : (wipe (σ.set i x) vs)[j]'(by rw [l1]; exact hl) = none := by
        cases q : (wipe (σ.set i x) vs)[j]'(by rw [l1]; exact hl) with
        | none => rfl
        | some v => exact absurd (by rw [q]) (k1 v)
      have z2 : (wipe σ vs)[j] = none := by
        cases q : (wipe σ vs)[j] with
        | none => rfl
        | some v => exact absurd (by rw [q]) (k2 v)
      rw [z1, z2]
    · rw [List.getElem?_eq_none (by rw [l1]; omega), List.getElem?_eq_none (by omega)]
  · have ne : i ≠ j := fun z => hj (z ▸ h)
    rw [wipe_out hj, wipe_out hj, List.getElem?_set_ne ne]
theorem tw_name {vs : List Nat} {i : Nat} (h : i ∈ vs := by decide) : TW vs (kName i) (gName i) where
  s := fun v σ H Q q => ⟨wipe_set h _ _, q⟩
  m := fun v σ H Q Q' hq q => hq _ _ q
  r := fun d ρ Q w => by
    unfold kName at w ⊢
    split at w
    · rename_i hl
      rw [if_pos hl]
      exact ⟨fun j hj => List.getElem?_set_ne (fun z : i = j => hj (z ▸ h)), w⟩
    · exact w.elim
structure TWs (vs : List Nat) (ft : List D → En → M En) (gt : TGs) : Prop where
  s : ∀ v σ H (Q : Sl → Hp → Prop), gt v σ H Q → gt v σ H fun σ' H' => wipe σ' vs = wipe σ vs ∧ Q σ' H'
  m : ∀ v σ H (Q Q' : Sl → Hp → Prop), (∀ σ' H', Q σ' H' → Q' σ' H') → gt v σ H Q → gt v σ H Q'
  r : ∀ d ρ (Q : En → Prop), (ft d ρ).wp Q noE → (ft d ρ).wp (fun ρ' => (∀ j, j ∉ vs → ρ'[j]? = ρ[j]?) ∧ Q ρ') noE
theorem tws_nil {vs : List Nat} : TWs vs ksNil L2.gNil where
  s := fun v σ H Q q => ⟨q.1, rfl, q.2⟩
  m := fun v σ H Q Q' hq q => ⟨q.1, hq _ _ q.2⟩
  r := fun d ρ Q w => by
    cases d with
    | nil => exact ⟨fun _ _ => rfl, w⟩
    | cons _ _ => exact w.elim
theorem tws_cons {vs : List Nat} {f1 : D → En → M En} {f2 : List D → En → M En} {g1 : TG} {g2 : TGs} (h1 : TW vs f1 g1) (h2 : TWs vs f2 g2) : TWs vs (ksCons f1 f2) (gCons g1 g2) where
  s := fun v σ H Q ⟨x, r, e, q⟩ => ⟨x, r, e, h1.m _ _ _ _ _ (fun σ1 H1 ⟨z1, q1⟩ => h2.m _ _ _ _ _ (fun σ2 H2 ⟨z2, q2⟩ => ⟨z2.trans z1, q2⟩) (h2.s _ _ _ _ q1)) (h1.s _ _ _ _ q)⟩
  m := fun v σ H Q Q' hq ⟨x, r, e, q⟩ => ⟨x, r, e, h1.m _ _ _ _ _ (fun σ1 H1 q1 => h2.m _ _ _ _ _ hq q1) q⟩
  r := fun d ρ Q w => by
    cases d with
    | nil => exact w.elim
    | cons d r =>
      have w := M.wp_bind.mp (show ((f1 d ρ).bind _).wp _ _ from w)
      refine M.wp_bind.mpr (M.wp_mono (fun ρ1 ⟨z1, q1⟩ => ?_) (fun _ z => z) (h1.r _ _ _ w))
      exact M.wp_mono (fun ρ2 ⟨z2, q2⟩ => ⟨fun j hj => (z2 j hj).trans (z1 j hj), q2⟩) (fun _ z => z) (h2.r _ _ _ q1)
theorem tw_tup {vs : List Nat} {K : PySem.W.Frag} {n : Nat} {f2 : List D → En → M En} {g2 : TGs} (h : TWs vs f2 g2) : TW vs (kTup f2) (gTup K n g2) where
  s := fun v σ H Q ⟨a, xs, e, hq, hl, q⟩ => ⟨a, xs, e, hq, hl, h.s _ _ _ _ q⟩
  m := fun v σ H Q Q' hq ⟨a, xs, e, hx, hl, q⟩ => ⟨a, xs, e, hx, hl, h.m _ _ _ _ _ hq q⟩
  r := fun d ρ Q w => by
    cases d with
    | tuple ds => exact h.r ds ρ Q w
    | _ => exact w.elim
theorem dn_lc (vs : List Nat) (hc : X.calm = true) (hN : X.N.Nodup) (hi : DJ X o st tg iter fi wi) (ok : BlkOk X.N X.env.scope scope own)
    (hg : ∀ (s : Shared) (H : Hp) (C : Addr) (cl : List (Str × Addr)) (fp : List Addr), DG (X.blk s H scope (compEnvC scope cl C X.env) fp) [] o tg ft gt)
    (ht : ∀ (s : Shared) (H : Hp) (C : Addr) (cl : List (Str × Addr)) (fp : List Addr), DTs (X.blk s H scope (compEnvC scope cl C X.env) fp) o ifs fc tc)
    (he : ∀ (s : Shared) (H : Hp) (C : Addr) (cl : List (Str × Addr)) (fp : List Addr), DE (X.blk s H scope (compEnvC scope cl C X.env) fp) o elt fe te)
    (tw : TW vs ft gt) (hvs : own.map (·.2) = vs := by rfl) (hst : ∀ i ∈ st, i ∉ vs := by decide) (hov : (vs.all fun i => (o.lookup i).isNone) = true := by rfl)
    (hs : ∀ x, foldedSetIterable iter X.env x = pure x := by intro _; rfl) : DN X o (.ListComp elt [⟨tg, iter, ifs, 0⟩] scope pos) (eComp fi vs ft fc fe) (tLc wi gt tc te (own.map (·.2))) := by
  subst hvs
  have hx : ∀ (s : Shared), True := fun _ => trivial
  refine ⟨pe_lc hc hN hi.p ok (fun s H C cl fp => (hg s H C cl fp).p) (fun s H C cl fp => (ht s H C cl fp).p) (fun s H C cl fp => (he s H C cl fp).p) hs, fun y σ H ρ F Q s w => ?_⟩
  have s0 : Shared := {}
  exact lc_w hst (fun i hi => by
    have := List.all_eq_true.mp hov i hi
    simpa using this) hi.q (hg s0 H 0 [] []).q tw (ht s0 H 0 [] []).q (he s0 H 0 [] []).q y σ H ρ F Q s w
end
end DL

set_option Elab.async false
set_option linter.all false
set_option maxRecDepth 100000
set_option maxHeartbeats 4000000
/-! DF: defs and their calls. -/
namespace DL
open PySem PySem.Spec PyProof.Rows L2


/-! ### defs that may ask who is being shown: no guard stands around -/
structure FnG (P : Program) (w : World) (K : PySem.W.Frag) (mg : Str → Option Value) (base : Heap) (CX : CXT) (k : Nat) (f : Addr) (fd : FuncData) (ps : List Str) (sp : Sp) : Prop where
  len : ∀ vs H Q E, sp vs H Q E → vs.length = ps.length
  run : ∀ (A : Around) (outer : List Env) (s : Shared) (H : Hp) (args : Args) (us : List Value) (vs : List V) (Q : VK) (E : XK), A.guards = some [] → Room k A → Env0 P w K mg base A outer s H →
    BindsTo s fd args (ps.zip us) → Vals vs us → sp vs H Q E → codeAny (model P w) A (.call (.ref f) args) (CR CX outer P w H s Q E) s
/-- room, and no guard -/
structure Rm (k : Nat) (A : Around) : Prop where
  r : Room k A
  g : A.guards = some []
theorem Rm.mono {j k : Nat} {A : Around} (r : Rm k A) (h : j ≤ k) : Rm j A := ⟨r.r.mono h, r.g⟩
section
variable {P : Program} {w : World} {K : PySem.W.Frag} {mg : Str → Option Value} {base : Heap} {CX : CXT}
theorem FnG.mono {j k : Nat} {f : Addr} {fd : FuncData} {ps : List Str} {sp : Sp} (F : FnG P w K mg base CX j f fd ps sp) (h : j ≤ k) : FnG P w K mg base CX k f fd ps sp :=
  ⟨F.len, fun A outer s H args us vs Q E hg hr => F.run A outer s H args us vs Q E hg (hr.mono h)⟩
theorem FnG.imp {k : Nat} {f : Addr} {fd : FuncData} {ps : List Str} {sp sp' : Sp} (F : FnG P w K mg base CX k f fd ps sp) (h : ∀ vs H Q E, sp' vs H Q E → sp vs H Q E) : FnG P w K mg base CX k f fd ps sp' :=
  ⟨fun vs H Q E q => F.len vs H Q E (h _ _ _ _ q), fun A outer s H args us vs Q E hg hr he hb hv hs => F.run A outer s H args us vs Q E hg hr he hb hv (h _ _ _ _ hs)⟩
/-- a def by its body -/
theorem funG_ok {x qual : Str} {st : Stmt} {f : Addr} {fd : FuncData} {N ps : List Str} {k : Nat} {sp : Sp} (F : Fun K x qual st f fd) (S : FnScope N ps (defScope st)) (len : ∀ vs H Q E, sp vs H Q E → vs.length = ps.length)
    (hbody : ∀ (cdv : Value) (A : Around) (outer : List Env) (s : Shared) (H : Hp) (vs : List V) (Q : VK) (E : XK), Rm k (A.deeper (envOfC qual (defScope st) s.heap.objs.size f cdv)) → sp vs H Q E →
      ∃ t, PSs (cxOf CX P w K mg base N qual (defScope st) f cdv A outer s H E) (defBody st) t ∧ t { nx := fun _ H' => Q .non H', rt := Q } (L2.start N vs) H) : FnG P w K mg base CX (k + 1) f fd ps sp := by
  obtain ⟨oc, od, kV, doc, pm, an, cdv, ct, osl, rfl, lk, hcd⟩ := F.ex
  constructor
  · exact len
  intro A outer s H args us vs Q E hg hr e0 hb r hsp
  have stays := fun b o (e : base.get? b = some o) => (e0.bs b o e).1
  have hin : K.In s.heap := e0.mod.kin.keeps stays
  have locs : ∀ y ∈ ps.zip us, (defScope st).names.lookup y.1 = some .local ∨ ((defScope st).names.lookup y.1 = some .cell ∧ ((cellsFrom (s.heap.objs.size + 1) (defScope st).names []).lookup y.1).isSome = true) := by
    intro y hy
    obtain ⟨n, u⟩ := y
    rcases S.par n (List.of_mem_zip hy).1 with loc | cell
    · exact Or.inl loc
    · exact Or.inr ⟨cell, PySem.W.cellsFrom_some _ _ _ (.inl cell)⟩
  have room : Rm k (A.deeper (envOfC qual (defScope st) s.heap.objs.size f cdv)) := ⟨hr.deeper _, hg⟩
  obtain ⟨t, ht, hq⟩ := hbody cdv A outer s H vs Q E room hsp
  have bound := hb
  apply codeAny_call_function hr.depth (hin _ _ lk) rfl S.co S.gen rfl (PySem.W.codeRec_of hin hcd)
  apply bound
  apply wpAny_newFunctionEnv_cells S.kind locs
  intro env he s1 x
  subst he
  refine ⟨(e0.mod.nolimit.keeps stays).keeps x.toInCall.keep, codeAny_func ?_⟩
  have I := inv_start (CX := CX) (E := E) (cd := cdv) S hr.hd e0 (len _ _ _ _ hsp) r x
  have done := ht.run [] s1 _ H _ I hq
  apply wpAny_mono done
  · intro fl s' hs
    match fl, hs with
    | .ret u, ⟨v, σ', H', J, rv, q⟩ => exact ⟨v, H', J.os, J.bare, J.base, J.hok, rv, q⟩
    | .next, ⟨σ', H', J, q⟩ => exact ⟨V.non, H', J.os, J.bare, J.base, J.hok, rfl, q⟩
    | .brk, ⟨_, _, _, q⟩ => exact q.elim
    | .cont, ⟨_, _, _, q⟩ => exact q.elim
  · intro e s' hs
    exact hs
end
section
variable {X : Cx} {CX : CXT} {k : Nat} {f : Addr} {fd : FuncData} {ps ks : List Str} {sp : Sp} {dvs : List V} {ds : List Value} {E : XK} {x : Str} {p pos : Pos} {e : Expr} {es : List Expr} {kws : List Keyword} {t tk : TA}
theorem cr_in {pins : List (Addr × Obj)} {σ : Sl} {H : Hp} {s s' : Shared} {Q : VK} {r : Result} (I : Inv X pins σ H s) (hx : Passes CX X E) (hq : CR CX X.stack X.prog X.w H s Q E r s') :
    match r with
    | .ok (.ret u) => EP X pins σ Q u s'
    | .ok _ => False
    | .error e => X.xe e s' := by
  cases r with
  | error e => exact hx pins σ H s e s' I hq
  | ok fl =>
    cases fl with
    | ret u => exact I.after hq
    | _ => exact hq
theorem runG_fn {pins : List (Addr × Obj)} {σ : Sl} {H : Hp} {s : Shared} {Q : VK} {us : List Value} {vs : List V} (F : FnG X.prog X.w X.K X.mg X.base CX k f fd ps sp) (hr : Rm k X.A) (hb : Binds X.K fd ps ds) (hd : Vals dvs ds) (hx : Passes CX X E)
    (I : Inv X pins σ H s) (r : Vals vs us) (h : sp (vs ++ dvs) H Q E) : wpAny (model X.prog X.w) X.A (call (.ref f) us) (EP X pins σ Q) X.xe s := by
  have both := r.append hd
  have hl : (us ++ ds).length = ps.length := both.length.symm.trans (F.len _ _ _ _ h)
  apply wpAny_call
  apply codeAny_mono (F.run X.A X.stack s H ⟨us, []⟩ _ _ Q E hr.g hr.r I.env0 (hb s us I.kIn hl) both h)
  intro r s' hq
  have z := cr_in I hx hq
  cases r with
  | error e => exact z
  | ok fl => cases fl with
    | ret u => exact z
    | _ => exact z.elim
/-- f(..) -/
theorem peG_call (F : FnG X.prog X.w X.K X.mg X.base CX k f fd ps sp) (hr : Rm k X.A) (hg : Gl X x) (hm : X.mg x = some (.ref f)) (hk : PySem.W.keepIn X.K (.ref f) = true) (hb : Binds X.K fd ps ds) (hd : Vals dvs ds) (hx : Passes CX X E)
    (ha : PA X (e :: es) t) (hdb : (x == ("__debug__" : Str)) = false := by decide) (he : starEach (e :: es) X.env = (false, eval e X.env) :: starEach es X.env := by rfl) (hpl : (backTo pos (starEach es X.env)).any (·.1) = false := by rfl) :
    PE X (.Call (.Name x p) (e :: es) [] pos) (tCall sp dvs E t) := by
  constructor
  intro pins s σ H Q I h
  apply wpAny_Call_Name_kw
  apply ld_glob I hg hm _ hdb
  apply PySem.W.callWith_K (h₀ := X.base) I.ok.mod.kin hk _ he hpl
  exact thn (ha.run pos pins s σ H _ I h) fun us s1 ⟨vs, H1, I1, r, q⟩ => ⟨I1.kIn, runG_fn F hr hb hd hx I1 r q⟩
/-- f() -/
theorem peG_call0 (F : FnG X.prog X.w X.K X.mg X.base CX k f fd ps sp) (hr : Rm k X.A) (hg : Gl X x) (hm : X.mg x = some (.ref f)) (hk : PySem.W.keepIn X.K (.ref f) = true) (hb : Binds X.K fd ps ds) (hd : Vals dvs ds) (hx : Passes CX X E)
    (hdb : (x == ("__debug__" : Str)) = false := by decide) : PE X (.Call (.Name x p) [] [] pos) (tCall sp dvs E tNil) := by
  constructor
  intro pins s σ H Q I h
  apply wpAny_Call_Name_kw
  exact ld_glob I hg hm (PySem.W.callWith_K0 I.kIn hk (runG_fn (us := []) F hr hb hd hx I .nil h)) hdb
/-- f(k = v, ..): by keywords alone -/
theorem peG_callK0 {g : List Value → List Value → List Value} {gV : List V → List V → List V} (F : FnG X.prog X.w X.K X.mg X.base CX k f fd ps sp) (hr : Rm k X.A) (hg : Gl X x) (hm : X.mg x = some (.ref f)) (hk : PySem.W.keepIn X.K (.ref f) = true) (hb : KBinds X.K fd ps ks g gV) (hx : Passes CX X E)
    (hkw : PK X kws tk) (hall : (backToKw pos (keywordEach kws X.env)).all (·.1.isSome) = true := by rfl) (hks : (backToKw pos (keywordEach kws X.env)).filterMap (·.1) = ks := by rfl)
    (hdb : (x == ("__debug__" : Str)) = false := by decide) (hpl : ((backTo pos (starEach [] X.env)).any (·.1) || (backToKw pos (keywordEach kws X.env)).any (·.1.isNone)) = false := by rfl) :
    PE X (.Call (.Name x p) [] kws pos) (fun σ H Q => tk σ H fun zs H2 => sp (gV [] zs) H2 Q E) := by
  constructor
  intro pins s σ H Q I h
  apply wpAny_Call_Name_kw
  apply ld_glob I hg hm _ hdb
  apply PySem.W.callWith_KW0 (h₀ := X.base) I.ok.mod.kin hk hall _ hpl
  apply thn (hkw.run pos pins s σ H _ I h)
  rintro ws s2 ⟨zs, H2, I2, rz, q2⟩
  refine ⟨I2.kIn, ?_⟩
  rw [hks]
  have r2 := hb.rel .nil rz
  have hl : (g [] ws).length = ps.length := r2.length.symm.trans (F.len _ _ _ _ q2)
  apply wpAny_call
  apply codeAny_mono (F.run X.A X.stack s2 H2 ⟨[], ks.zip ws⟩ _ _ Q E hr.g hr.r I2.env0 (hb.to s2 [] ws I2.kIn hl) r2 q2)
  intro r s' hq
  have z := cr_in I2 hx hq
  cases r with
  | error e => exact z
  | ok fl => cases fl with
    | ret u => exact z
    | _ => exact z.elim
end

/-- behind a call -/
structure CEnd (K : PySem.W.Frag) (o0 : Own) (vs : List V) (dof : Nat → D) (F H : Hp) (S : Nat → List Addr) (F' H' : Hp) : Prop where
  f : Same F F'
  fz : Same F' H'
  new : ∀ a, H a ≠ none → F a = none → (∀ i kd, o0.lookup i = some kd → a ∉ S i) → F' a = none
  keep : ∀ a u, H a = some u → (∀ i kd, o0.lookup i = some kd → a ∉ S i) → H' a = some u
  own : ∃ S' : Nat → List Addr, (∀ i kd, o0.lookup i = some kd → ∃ v, vs[i]? = some v ∧ OwnAt K F' H' kd v (dof i) (S' i) ∧ ∀ a ∈ S' i, F' a = none ∧ H' a ≠ none ∧ ((∃ j kd', o0.lookup j = some kd' ∧ a ∈ S j) ∨ H a = none)) ∧
    ∀ i j kd kd', o0.lookup i = some kd → o0.lookup j = some kd' → i ≠ j → ∀ a ∈ S' i, a ∉ S' j
/-- ahead of a call -/
structure CBeg (K : PySem.W.Frag) (n : Nat) (o0 : Own) (vs : List V) (ds : List D) (F H : Hp) (S : Nat → List Addr) : Prop where
  lv : vs.length = n
  ld : ds.length = n
  fz : Same F H
  imm : ∀ i d, ds[i]? = some d → o0.lookup i = none → ∃ v, vs[i]? = some v ∧ Rp K F v d
  own : ∀ i kd, o0.lookup i = some kd → ∃ v d, vs[i]? = some v ∧ ds[i]? = some d ∧ OwnAt K F H kd v d (S i) ∧ ∀ a ∈ S i, F a = none ∧ H a ≠ none
  dis : ∀ i j kd kd', o0.lookup i = some kd → o0.lookup j = some kd' → i ≠ j → ∀ a ∈ S i, a ∉ S j
def dofE (ρ : En) (i : Nat) : D := (ρ.getD i none).getD .none
/-- the promise of a def that gives back what its own parameters hold -/
def spG (K : PySem.W.Frag) (n : Nat) (o0 : Own) (f : List D → M (D × En)) : Sp := fun vs H Q _ => ∃ F ds S, CBeg K n o0 vs ds F H S ∧ (f ds).wp (fun p => ∀ v F' H', CEnd K o0 vs (dofE p.2) F H S F' H' → Rp K F' v p.1 → Q v H') noE
/-- .. whose own parameters are things known by a predicate -/
def spR (K : PySem.W.Frag) (n : Nat) (o0 : Own) (f : List D → M D) : Sp := fun vs H Q _ => ∃ F ds S, CBeg K n o0 vs ds F H S ∧ (f ds).wp (fun d => ∀ v F' H', CEnd K o0 vs (fun _ => .none) F H S F' H' → Rp K F' v d → Q v H') noE
theorem mem_lk {α : Type} : ∀ {o : List (Nat × α)} {i : Nat} {k : α}, o.lookup i = some k → (i, k) ∈ o
  | (j, k') :: r, i, k, h => by
    rw [List.lookup_cons] at h
    by_cases e : i = j
    · subst e
      simp only [beq_self_eq_true, Option.some.injEq] at h
      subst h
      exact List.mem_cons_self
    · have z : (i == j) = false := by simpa using e
      simp only [z] at h
      exact List.mem_cons_of_mem _ (mem_lk h)
def rawO (o0 : Own) : Bool := o0.all fun p => match p.2 with
  | .lst => false
  | .raw _ => true
  | .st _ => false
theorem rawO_of {o0 : Own} (h : rawO o0 = true) {i : Nat} {kd : Kd} (hi : o0.lookup i = some kd) : ∃ R, kd = .raw R := by
  have hm : (i, kd) ∈ o0 := mem_lk hi
  have := List.all_eq_true.mp h _ hm
  cases kd with
  | lst => cases this
  | raw R => exact ⟨R, rfl⟩
  | st R => cases this

def entE (m : Nat) (ds : List D) : En := ds.map some ++ List.replicate m none
def runG (g : G) (m : Nat) (o0 : Own) (ds : List D) : M (D × En) := (g (entE m ds)).bind fun p => match p.1 with
  | .rt d => .ret (d, mask o0 p.2)
  | .nx => .ret (.none, mask o0 p.2)
  | _ => .bad
def runR (g : G) (m : Nat) (ds : List D) : M D := (g (entE m ds)).bind fun p => match p.1 with
  | .rt d => .ret d
  | .nx => .ret .none
  | _ => .bad
section
variable {K : PySem.W.Frag}
theorem start_get {N : List Str} {vs : List V} {i : Nat} {v : V} (h : vs[i]? = some v) : (L2.start N vs)[i]? = some (some v) := by
  unfold L2.start
  have hl := (List.getElem?_eq_some_iff.mp h).1
  rw [List.getElem?_append_left (by rw [List.length_map]; exact hl), List.getElem?_map, h]
  rfl
theorem ent_get {m : Nat} {ds : List D} {i : Nat} {d : D} (h : (entE m ds)[i]? = some (some d)) : ds[i]? = some d := by
  unfold entE at h
  by_cases hl : i < ds.length
  · rw [List.getElem?_append_left (by rw [List.length_map]; exact hl), List.getElem?_map] at h
    rw [List.getElem?_eq_getElem hl] at h ⊢
    simpa using h
  · rw [List.getElem?_append_right (by rw [List.length_map]; omega)] at h
    have h2 := List.mem_of_getElem? h
    have := (List.mem_replicate.mp h2).2
    cases this
theorem ent_at {m : Nat} {ds : List D} {i : Nat} {d : D} (h : ds[i]? = some d) : (entE m ds)[i]? = some (some d) := by
  unfold entE
  have hl := (List.getElem?_eq_some_iff.mp h).1
  rw [List.getElem?_append_left (by rw [List.length_map]; exact hl), List.getElem?_map, h]
  rfl
open Classical in
/-- the entry -/
noncomputable def yOf (o0 : Own) (vs : List V) (F H : Hp) (S : Nat → List Addr) : Y := ⟨fun a => if ∃ i kd, o0.lookup i = some kd ∧ a ∈ S i then none else H a, F, o0.filterMap fun p => (vs[p.1]?).map fun v => (p.1, v)⟩
theorem sr_entry {n m : Nat} {o0 : Own} {vs : List V} {ds : List D} {F H : Hp} {S : Nat → List Addr} {N : List Str} (b : CBeg K n o0 vs ds F H S) (hN : N.length = n + m) : SR K (yOf o0 vs F H S) o0 (L2.start N vs) H (entE m ds) F where
  len := by unfold entE L2.start; simp only [List.length_append, List.length_map, List.length_replicate]; rw [b.lv, b.ld, hN]; omega
  fz := b.fz
  bs := fun a u q => by
    unfold yOf at q
    simp only at q
    split at q
    · cases q
    · exact q
  f0 := .refl _
  pr := fun _ _ h => h
  pin := fun p hp => by
    unfold yOf at hp
    simp only [List.mem_filterMap] at hp
    obtain ⟨q, _, hq⟩ := hp
    cases hv : vs[q.1]? with
    | none => rw [hv] at hq; cases hq
    | some v =>
      rw [hv] at hq
      cases hq
      exact start_get hv
  imm := fun i d h1 h2 => by
    obtain ⟨v, e, q⟩ := b.imm i d (ent_get h1) h2
    exact ⟨v, start_get e, q⟩
  own := ⟨S, fun i kd hi => by
    obtain ⟨v, d, e1, e2, e3, e4⟩ := b.own i kd hi
    refine ⟨v, d, start_get e1, ent_at e2, e3, fun a ha => ⟨(e4 a ha).1, ?_, (e4 a ha).2⟩⟩
    unfold yOf
    simp only
    rw [if_pos ⟨i, kd, hi, ha⟩], b.dis⟩
theorem sr_cend {n : Nat} {o0 : Own} {vs : List V} {ds : List D} {F H F' H' : Hp} {S : Nat → List Addr} {σ' : Sl} {ρ' : En} (b : CBeg K n o0 vs ds F H S) (s : SR K (yOf o0 vs F H S) o0 σ' H' ρ' F') : CEnd K o0 vs (dofE ρ') F H S F' H' where
  f := s.f0
  fz := s.fz
  new := fun a h1 h2 h3 => s.pr a (by
    unfold yOf
    simp only
    rw [if_neg (fun ⟨i, kd, hi, ha⟩ => h3 i kd hi ha)]
    exact h1) h2
  keep := fun a u h1 h2 => s.bs a u (by
    unfold yOf
    simp only
    rw [if_neg (fun ⟨i, kd, hi, ha⟩ => h2 i kd hi ha)]
    exact h1)
  own := by
    obtain ⟨S', g1, g2⟩ := s.own
    refine ⟨S', fun i kd hi => ?_, g2⟩
    obtain ⟨v, d, e1, e2, e3, e4⟩ := g1 i kd hi
    obtain ⟨v0, d0, p1, _⟩ := b.own i kd hi
    have hp := s.pin (i, v0) (by
      unfold yOf
      simp only [List.mem_filterMap]
      exact ⟨(i, kd), mem_lk hi, by simp only; rw [p1]; rfl⟩)
    have hp : σ'[i]? = some (some v0) := hp
    rw [e1] at hp
    cases hp
    refine ⟨v, p1, ?_, fun a ha => ?_⟩
    · have z : dofE ρ' i = d := by unfold dofE; rw [List.getD_eq_getElem?_getD, e2]; rfl
      rw [z]; exact e3
    · obtain ⟨r1, r2, r3⟩ := e4 a ha
      refine ⟨r1, r3, ?_⟩
      unfold yOf at r2
      simp only at r2
      split at r2
      · rename_i h; exact .inl (let ⟨j, kd', hj, ha'⟩ := h; ⟨j, kd', hj, ha'⟩)
      · exact .inr r2
end

section
variable {P : Program} {w : World} {K : PySem.W.Frag} {mg : Str → Option Value} {base : Heap}
theorem zOf_kp {o0 : Own} {vs : List V} {F H : Hp} {S : Nat → List Addr} {kp : List Nat} (h : o0.all (fun p => kp.contains p.1) = true) : ∀ p ∈ (yOf o0 vs F H S).Z, p.1 ∈ kp := fun p hp => by
  unfold yOf at hp
  simp only [List.mem_filterMap] at hp
  obtain ⟨q, hq, e⟩ := hp
  cases hv : vs[q.1]? with
  | none => rw [hv] at e; cases e
  | some v =>
    rw [hv] at e
    cases e
    have := List.all_eq_true.mp h q hq
    simpa using this
/-- a def that gives back what its own parameters hold -/
theorem fn_G {x qual : Str} {st : Stmt} {f : Addr} {fd : FuncData} {N ps : List Str} {k n m : Nat} {o0 o' : Own} {kp : List Nat} {g : G} (F : Fun K x qual st f fd) (S : FnScope N ps (defScope st)) (hps : ps.length = n) (hN : N.length = n + m) (hkp : o0.all (fun p => kp.contains p.1) = true)
    (hnx : ∀ i kd, o0.lookup i = some kd → o'.lookup i = some kd)
    (body : ∀ (cdv : Value) (A : Around) (outer : List Env) (s : Shared) (H : Hp) (E : XK), Rm k (A.deeper (envOfC qual (defScope st) s.heap.objs.size f cdv)) → ∃ t, DSs (cxOf CX0 P w K mg base N qual (defScope st) f cdv A outer s H E).nox ⟨kp, o0⟩ [] o0 (defBody st) o' g t) :
    FnG P w K mg base CX0 (k + 1) f fd ps (spG K n o0 (runG g m o0)) := by
  refine funG_ok F S (fun vs H Q E h => ?_) (fun cdv A outer s H vs Q E hr h => ?_)
  · obtain ⟨_, _, _, b, _⟩ := h
    rw [b.lv, hps]
  · obtain ⟨Fz, ds, Sa, b, w'⟩ := h
    obtain ⟨t, hb⟩ := body cdv A outer s H E hr
    refine ⟨t, hb.p.nox, hb.q (yOf o0 vs Fz H Sa) (L2.start N vs) H (entE m ds) Fz _ (zOf_kp hkp) (sr_entry b hN) (M.wp_mono (fun p k => ?_) (fun _ z => z) (M.wp_bind.mp w'))⟩
    obtain ⟨fl, ρ'⟩ := p
    cases fl with
    | nx => exact fun σ' H' F' s' e' => k .non F' H' (sr_cend b (sr_mask s' hnx)) .non
    | rt d => exact fun v σ' H' F' s' e' hv => k v F' H' (sr_cend b s') hv
    | br => exact k.elim
    | ct => exact k.elim
/-- .. whose own parameters are known by a predicate (or that has none) -/
theorem fn_R {x qual : Str} {st : Stmt} {f : Addr} {fd : FuncData} {N ps : List Str} {k n m : Nat} {o0 o' : Own} {kp : List Nat} {g : G} (F : Fun K x qual st f fd) (S : FnScope N ps (defScope st)) (hps : ps.length = n) (hN : N.length = n + m) (hkp : o0.all (fun p => kp.contains p.1) = true)
    (hnx : ∀ i kd, o0.lookup i = some kd → o'.lookup i = some kd) (hraw : rawO o0 = true)
    (body : ∀ (cdv : Value) (A : Around) (outer : List Env) (s : Shared) (H : Hp) (E : XK), Rm k (A.deeper (envOfC qual (defScope st) s.heap.objs.size f cdv)) → ∃ t, DSs (cxOf CX0 P w K mg base N qual (defScope st) f cdv A outer s H E).nox ⟨kp, o0⟩ [] o0 (defBody st) o' g t) :
    FnG P w K mg base CX0 (k + 1) f fd ps (spR K n o0 (runR g m)) := by
  refine funG_ok F S (fun vs H Q E h => ?_) (fun cdv A outer s H vs Q E hr h => ?_)
  · obtain ⟨_, _, _, b, _⟩ := h
    rw [b.lv, hps]
  · obtain ⟨Fz, ds, Sa, b, w'⟩ := h
    obtain ⟨t, hb⟩ := body cdv A outer s H E hr
    have fin : ∀ {σ' H' ρ' F'}, SR K (yOf o0 vs Fz H Sa) o0 σ' H' ρ' F' → CEnd K o0 vs (fun _ => .none) Fz H Sa F' H' := fun {σ' H' ρ' F'} s' => by
      have c := sr_cend b s'
      refine ⟨c.f, c.fz, c.new, c.keep, ?_⟩
      obtain ⟨S', g1, g2⟩ := c.own
      refine ⟨S', fun i kd hi => ?_, g2⟩
      obtain ⟨v, e1, e2, e3⟩ := g1 i kd hi
      obtain ⟨R, rfl⟩ := rawO_of hraw hi
      exact ⟨v, e1, ⟨rfl, e2.2⟩, e3⟩
    refine ⟨t, hb.p.nox, hb.q (yOf o0 vs Fz H Sa) (L2.start N vs) H (entE m ds) Fz _ (zOf_kp hkp) (sr_entry b hN) (M.wp_mono (fun p k => ?_) (fun _ z => z) (M.wp_bind.mp w'))⟩
    obtain ⟨fl, ρ'⟩ := p
    cases fl with
    | nx => exact fun σ' H' F' s' e' => k .non F' H' (fin (sr_mask s' hnx)) .non
    | rt d => exact fun v σ' H' F' s' e' hv => k v F' H' (fin s') hv
    | br => exact k.elim
    | ct => exact k.elim
end

/-! ### calls -/
/-- the handed-in values: frozen data, or what a slot holds alone -/
inductive ACs (K : PySem.W.Frag) (σ : Sl) (ρ : En) (F : Hp) : List (Option Nat) → List V → List D → Prop
  | nil : ACs K σ ρ F [] [] []
  | dat {om : List (Option Nat)} {v : V} {vs : List V} {d : D} {ds : List D} : Rp K F v d → ACs K σ ρ F om vs ds → ACs K σ ρ F (none :: om) (v :: vs) (d :: ds)
  | own {om : List (Option Nat)} {j : Nat} {v : V} {vs : List V} {d : D} {ds : List D} : σ[j]? = some (some v) → ρ[j]? = some (some d) → ACs K σ ρ F om vs ds → ACs K σ ρ F (some j :: om) (v :: vs) (d :: ds)
structure DCs (X : Cx) (o : Own) (es : List Expr) (om : List (Option Nat)) (f : En → M (List D)) (t : TA) : Prop where
  p : PA X es t
  q : ∀ (y : Y) (σ : Sl) (H : Hp) (ρ : En) (F : Hp) (Q : List V → Hp → Prop), SR X.K y o σ H ρ F →
    (f ρ).wp (fun ds => ∀ vs H' F', SR X.K y o σ H' ρ F' → Same F F' → ACs X.K σ ρ F' om vs ds → Q vs H') noE → t σ H Q
section
variable {X : Cx} {o : Own} {e : Expr} {es : List Expr} {om : List (Option Nat)} {f : En → M D} {g : En → M (List D)} {t : TE} {t2 : TA} {pos : Pos}
theorem ACs.mono {K : PySem.W.Frag} {σ : Sl} {ρ : En} {F F' : Hp} (e : Same F F') : ∀ {om : List (Option Nat)} {vs : List V} {ds : List D}, ACs K σ ρ F om vs ds → ACs K σ ρ F' om vs ds
  | _, _, _, .nil => .nil
  | _, _, _, .dat h1 h2 => .dat (rp_mono e h1) (ACs.mono e h2)
  | _, _, _, .own h1 h2 h3 => .own h1 h2 (ACs.mono e h3)
theorem ACs.lens {K : PySem.W.Frag} {σ : Sl} {ρ : En} {F : Hp} : ∀ {om : List (Option Nat)} {vs : List V} {ds : List D}, ACs K σ ρ F om vs ds → vs.length = om.length ∧ ds.length = om.length
  | _, _, _, .nil => ⟨rfl, rfl⟩
  | _, _, _, .dat _ h2 => by obtain ⟨a, b⟩ := ACs.lens h2; simp [a, b]
  | _, _, _, .own _ _ h3 => by obtain ⟨a, b⟩ := ACs.lens h3; simp [a, b]
theorem ACs.dat_at {K : PySem.W.Frag} {σ : Sl} {ρ : En} {F : Hp} : ∀ {om : List (Option Nat)} {vs : List V} {ds : List D} {i : Nat} {d : D}, ACs K σ ρ F om vs ds → ds[i]? = some d → om[i]? = some none → ∃ v, vs[i]? = some v ∧ Rp K F v d
  | _, _, _, _, _, .nil, h, _ => by simp at h
  | _, _, _, 0, _, .dat h1 _, h, _ => by simp at h; subst h; exact ⟨_, rfl, h1⟩
  | _, _, _, i + 1, _, .dat _ h2, h, h' => by
    obtain ⟨v, e, q⟩ := ACs.dat_at (i := i) h2 (by simpa using h) (by simpa using h')
    exact ⟨v, by simpa using e, q⟩
  | _, _, _, 0, _, .own _ _ _, _, h' => by simp at h'
  | _, _, _, i + 1, _, .own _ _ h2, h, h' => by
    obtain ⟨v, e, q⟩ := ACs.dat_at (i := i) h2 (by simpa using h) (by simpa using h')
    exact ⟨v, by simpa using e, q⟩
theorem ACs.own_at {K : PySem.W.Frag} {σ : Sl} {ρ : En} {F : Hp} : ∀ {om : List (Option Nat)} {vs : List V} {ds : List D} {i j : Nat}, ACs K σ ρ F om vs ds → om[i]? = some (some j) → ∃ v d, vs[i]? = some v ∧ ds[i]? = some d ∧ σ[j]? = some (some v) ∧ ρ[j]? = some (some d)
  | _, _, _, _, _, .nil, h => by simp at h
  | _, _, _, 0, _, .dat _ _, h => by simp at h
  | _, _, _, i + 1, _, .dat _ h2, h => by
    obtain ⟨v, d, e1, e2, q⟩ := ACs.own_at (i := i) h2 (by simpa using h)
    exact ⟨v, d, by simpa using e1, by simpa using e2, q⟩
  | _, _, _, 0, _, .own h1 h2 _, h => by simp at h; subst h; exact ⟨_, _, rfl, rfl, h1, h2⟩
  | _, _, _, i + 1, _, .own _ _ h2, h => by
    obtain ⟨v, d, e1, e2, q⟩ := ACs.own_at (i := i) h2 (by simpa using h)
    exact ⟨v, d, by simpa using e1, by simpa using e2, q⟩
theorem dcs_nil : DCs X o [] [] aNil tNil := ⟨pa_nil, fun y σ H ρ F Q s w => w [] H F s (.refl _) .nil⟩
theorem dcs_cons (h1 : DE X o e f t) (h2 : DCs X o es om g t2) (hs : starEach (e :: es) X.env = (false, eval e X.env) :: starEach es X.env := by rfl) : DCs X o (e :: es) (none :: om) (aCons f g) (tCons t t2) := by
  refine ⟨pa_cons h1.p h2.p hs, fun y σ H ρ F Q s w => h1.q y σ H ρ F _ s (M.wp_mono (fun d k v H' F' s' e' hd => ?_) (fun _ z => z) (M.wp_bind.mp w))⟩
  refine h2.q y σ H' ρ F' _ s' (M.wp_mono (fun ds k2 vs H2 F2 s2 e2 hds => ?_) (fun _ z => z) (M.wp_bind.mp k))
  exact k2 _ H2 F2 s2 (e'.trans e2) (.dat (rp_mono e2 hd) hds)
theorem dcs_own (j : Nat) {kd : Kd} (h1 : PE X e (tVar j)) (h2 : DCs X o es om g t2) (ho : o.lookup j = some kd := by rfl) (hs : starEach (e :: es) X.env = (false, eval e X.env) :: starEach es X.env := by rfl) : DCs X o (e :: es) (some j :: om) (aCons (eVar j) g) (tCons (tVar j) t2) := by
  refine ⟨pa_cons h1 h2.p hs, fun y σ H ρ F Q s w => ?_⟩
  obtain ⟨S, g1, _⟩ := id s.own
  obtain ⟨v, d, e1, e2, _, _⟩ := g1 j kd ho
  refine ⟨v, e1, ?_⟩
  have w := M.wp_bind.mp w
  unfold eVar at w
  rw [e2] at w
  refine h2.q y σ H ρ F _ s (M.wp_mono (fun ds k2 vs H2 F2 s2 ee hds => ?_) (fun _ z => z) (M.wp_bind.mp w))
  exact k2 _ H2 F2 s2 ee (.own e1 e2 hds)

/-- which of the caller's slots each own parameter is: om fits o0 -/
def fitsO (o o0 : Own) (om : List (Option Nat)) : Prop := ∀ i, (∀ kd, o0.lookup i = some kd → ∃ j, om[i]? = some (some j) ∧ o.lookup j = some kd) ∧ (i < om.length → o0.lookup i = none → om[i]? = some none) ∧ ∀ i' j, om[i]? = some (some j) → om[i']? = some (some j) → i = i'
theorem cbeg_of {y : Y} {σ : Sl} {H F : Hp} {ρ : En} {vs : List V} {ds : List D} {o0 : Own} {S : Nat → List Addr} (s : SR X.K y o σ H ρ F) (a : ACs X.K σ ρ F om vs ds) (fit : fitsO o o0 om)
    (g1 : ∀ i kd, o.lookup i = some kd → ∃ v d, σ[i]? = some (some v) ∧ ρ[i]? = some (some d) ∧ OwnAt X.K F H kd v d (S i) ∧ ∀ a ∈ S i, F a = none ∧ y.B a = none ∧ H a ≠ none)
    (g2 : ∀ i j kd kd', o.lookup i = some kd → o.lookup j = some kd' → i ≠ j → ∀ a ∈ S i, a ∉ S j) : CBeg X.K om.length o0 vs ds F H (fun i => match om[i]? with | some (some j) => S j | _ => []) where
  lv := a.lens.1
  ld := a.lens.2
  fz := s.fz
  imm := fun i d h1 h2 => a.dat_at h1 ((fit i).2.1 (by rw [← a.lens.2]; exact (List.getElem?_eq_some_iff.mp h1).1) h2)
  own := fun i kd hi => by
    obtain ⟨j, e1, e2⟩ := (fit i).1 kd hi
    obtain ⟨v, d, p1, p2, p3, p4⟩ := a.own_at e1
    obtain ⟨v', d', q1, q2, q3, q4⟩ := g1 j kd e2
    rw [p3] at q1; cases q1
    rw [p4] at q2; cases q2
    refine ⟨v, d, p1, p2, ?_, fun a ha => ?_⟩
    · simp only [e1]; exact q3
    · simp only [e1] at ha
      exact ⟨(q4 a ha).1, (q4 a ha).2.2⟩
  dis := fun i k kd kd' hi hk hik a ha => by
    obtain ⟨j, e1, e2⟩ := (fit i).1 kd hi
    obtain ⟨l, e3, e4⟩ := (fit k).1 kd' hk
    simp only [e1] at ha
    simp only [e3]
    exact g2 j l kd kd' e2 e4 (fun z => hik ((fit i).2.2 k j e1 (by rw [z]; exact e3))) a ha
/-- the caller's state behind the call: ρ' says what its slots hold then -/
theorem sr_after {y : Y} {σ : Sl} {H F H' F' : Hp} {ρ ρ' : En} {vs : List V} {ds : List D} {o0 : Own} {S : Nat → List Addr} {dof : Nat → D} (s : SR X.K y o σ H ρ F) (a : ACs X.K σ ρ F om vs ds) (fit : fitsO o o0 om)
    (g1 : ∀ i kd, o.lookup i = some kd → ∃ v d, σ[i]? = some (some v) ∧ ρ[i]? = some (some d) ∧ OwnAt X.K F H kd v d (S i) ∧ ∀ a ∈ S i, F a = none ∧ y.B a = none ∧ H a ≠ none)
    (g2 : ∀ i j kd kd', o.lookup i = some kd → o.lookup j = some kd' → i ≠ j → ∀ a ∈ S i, a ∉ S j)
    (c : CEnd X.K o0 vs dof F H (fun i => match om[i]? with | some (some j) => S j | _ => []) F' H')
    (hl : ρ'.length = ρ.length) (hr : ∀ j : Nat, (∀ i : Nat, om[i]? ≠ some (some j)) → ρ'[j]? = ρ[j]?) (ho : ∀ i j : Nat, om[i]? = some (some j) → ρ'[j]? = some (some (dof i))) : SR X.K y o σ H' ρ' F' := by
  have inS : ∀ b, (∃ i kd, o0.lookup i = some kd ∧ b ∈ (match om[i]? with | some (some j) => S j | _ => [])) → ∃ j kd, o.lookup j = some kd ∧ b ∈ S j := fun b ⟨i, kd, hi, hb⟩ => by
    obtain ⟨j, e1, e2⟩ := (fit i).1 kd hi
    simp only [e1] at hb
    exact ⟨j, kd, e2, hb⟩
  have outB : ∀ b, y.B b ≠ none → ∀ i kd, o0.lookup i = some kd → b ∉ (match om[i]? with | some (some j) => S j | _ => []) := fun b hb i kd hi hm => by
    obtain ⟨j, kd', e, hs⟩ := inS b ⟨i, kd, hi, hm⟩
    obtain ⟨_, _, _, _, _, q⟩ := g1 j kd' e
    exact hb (q b hs).2.1
  refine ⟨hl.trans s.len, c.fz, fun b u q => c.keep b u (s.bs b u q) (outB b (by rw [q]; exact nofun)), s.f0.trans c.f, fun b h1 h2 => ?_, s.pin, fun j d h1 h2 => ?_, ?_⟩
  · exact c.new b (fun z => h1 (s.bs.free z)) (s.pr b h1 h2) (outB b h1)
  · have hj : ∀ i, om[i]? ≠ some (some j) := fun i z => by
      have hi : i < om.length := (List.getElem?_eq_some_iff.mp z).1
      cases q : o0.lookup i with
      | none => rw [(fit i).2.1 hi q] at z; cases z
      | some kd =>
        obtain ⟨j', e1, e2⟩ := (fit i).1 kd q
        rw [z] at e1; cases e1
        rw [h2] at e2; cases e2
    rw [hr j hj] at h1
    obtain ⟨v, e1, q⟩ := s.imm j d h1 h2
    exact ⟨v, e1, rp_mono c.f q⟩
  · obtain ⟨S', k1, k2⟩ := c.own
    -- the slot j's footprint: the callee's where it was handed in
    have dec : ∀ j : Nat, (∃ i : Nat, om[i]? = some (some j)) ∨ ∀ i : Nat, om[i]? ≠ some (some j) := fun j => by
      by_cases h : ∃ i : Nat, om[i]? = some (some j)
      · exact .inl h
      · exact .inr fun i z => h ⟨i, z⟩
    have pick : ∃ S2 : Nat → List Addr, (∀ i j : Nat, om[i]? = some (some j) → S2 j = S' i) ∧ ∀ j : Nat, (∀ i : Nat, om[i]? ≠ some (some j)) → S2 j = S j := by
      refine ⟨fun j => open Classical in if h : ∃ i : Nat, om[i]? = some (some j) then S' h.choose else S j, fun i j hij => ?_, fun j hj => ?_⟩
      · have h : ∃ i : Nat, om[i]? = some (some j) := ⟨i, hij⟩
        simp only [dif_pos h]
        rw [(fit h.choose).2.2 i j h.choose_spec hij]
      · simp only [dif_neg (fun h : ∃ i : Nat, om[i]? = some (some j) => let ⟨i, q⟩ := h; hj i q)]
    obtain ⟨S2, pk1, pk2⟩ := pick
    have o0at : ∀ i j : Nat, om[i]? = some (some j) → ∃ kd, o0.lookup i = some kd ∧ o.lookup j = some kd := fun i j hij => by
      have hi : i < om.length := (List.getElem?_eq_some_iff.mp hij).1
      cases q : o0.lookup i with
      | none => rw [(fit i).2.1 hi q] at hij; cases hij
      | some kd =>
        obtain ⟨j', e1, e2⟩ := (fit i).1 kd q
        rw [hij] at e1; cases e1
        exact ⟨kd, rfl, e2⟩
    have nS : ∀ j : Nat, (∀ i : Nat, om[i]? ≠ some (some j)) → ∀ kd, o.lookup j = some kd → ∀ b ∈ S j, ∀ i kd', o0.lookup i = some kd' → b ∉ (match om[i]? with | some (some j) => S j | _ => []) := fun j hj kd hkd b hb i kd' hi hm => by
      obtain ⟨l, e1, e2⟩ := (fit i).1 kd' hi
      simp only [e1] at hm
      exact g2 j l kd kd' hkd e2 (fun z => hj i (by rw [z]; exact e1)) b hb hm
    refine ⟨S2, fun j kd hkd => ?_, fun j l kd kd' hj hl hjl b hb => ?_⟩
    · obtain ⟨v, d, p1, p2, p3, p4⟩ := g1 j kd hkd
      rcases dec j with ⟨i, hij⟩ | hj
      · obtain ⟨kd2, q1, q2⟩ := o0at i j hij
        rw [hkd] at q2; cases q2
        obtain ⟨v', e1, e2, e3⟩ := k1 i kd q1
        obtain ⟨v2, d2, r1, r2, r3, r4⟩ := a.own_at hij
        rw [e1] at r1; cases r1
        rw [p1] at r3; cases r3
        refine ⟨v, dof i, p1, ho i j hij, by rw [pk1 i j hij]; exact e2, fun b hb => ?_⟩
        rw [pk1 i j hij] at hb
        obtain ⟨z1, z2, z3⟩ := e3 b hb
        refine ⟨z1, ?_, z2⟩
        rcases z3 with ⟨i2, kd2, y1, y2⟩ | z3
        · obtain ⟨j2, kd3, y3, y4⟩ := inS b ⟨i2, kd2, y1, y2⟩
          obtain ⟨_, _, _, _, _, q⟩ := g1 j2 kd3 y3
          exact (q b y4).2.1
        · exact s.bs.free z3
      · refine ⟨v, d, p1, by rw [hr j hj]; exact p2, ?_, fun b hb => ?_⟩
        · rw [pk2 j hj]
          refine ownAt_ext p3 c.f fun b hb => ?_
          cases q : H b with
          | none => exact absurd q (p4 b hb).2.2
          | some u => exact c.keep b u q (nS j hj kd hkd b hb)
        · rw [pk2 j hj] at hb
          obtain ⟨z1, z2, z3⟩ := p4 b hb
          refine ⟨c.new b z3 z1 (nS j hj kd hkd b hb), z2, fun z => ?_⟩
          cases q : H b with
          | none => exact z3 q
          | some u => rw [c.keep b u q (nS j hj kd hkd b hb)] at z; cases z
    · rcases dec j with ⟨i, hij⟩ | hj'
      · obtain ⟨kd2, q1, q2⟩ := o0at i j hij
        rw [pk1 i j hij] at hb
        rcases dec l with ⟨i', hil⟩ | hl'
        · obtain ⟨kd3, q3, q4⟩ := o0at i' l hil
          rw [pk1 i' l hil]
          exact k2 i i' kd2 kd3 q1 q3 (fun z => hjl (by rw [z, hil] at hij; cases hij; rfl)) b hb
        · rw [pk2 l hl']
          intro hbl
          obtain ⟨_, _, e3⟩ := k1 i kd2 q1
          obtain ⟨_, _, z3⟩ := e3.2 b hb
          rcases z3 with ⟨i2, kd3, y1, y2⟩ | z3
          · exact nS l hl' kd' hl b hbl i2 kd3 y1 y2
          · obtain ⟨_, _, _, _, _, q⟩ := g1 l kd' hl
            exact (q b hbl).2.2 z3
      · rw [pk2 j hj'] at hb
        rcases dec l with ⟨i', hil⟩ | hl'
        · obtain ⟨kd3, q3, q4⟩ := o0at i' l hil
          rw [pk1 i' l hil]
          intro hbl
          obtain ⟨_, _, e3⟩ := k1 i' kd3 q3
          obtain ⟨_, _, z3⟩ := e3.2 b hbl
          rcases z3 with ⟨i2, kd4, y1, y2⟩ | z3
          · exact nS j hj' kd hj b hb i2 kd4 y1 y2
          · obtain ⟨_, _, _, _, _, q⟩ := g1 j kd hj
            exact (q b hb).2.2 z3
        · rw [pk2 l hl']
          exact g2 j l kd kd' hj hl hjl b hb

theorem fits_pure {o : Own} {om : List (Option Nat)} (h : om.all (·.isNone) = true) : fitsO o [] om := fun i => by
  have hn : ∀ (k : Nat) (x : Option Nat), om[k]? = some x → x = none := fun k x hx => by
    have := List.all_eq_true.mp h x (List.mem_of_getElem? hx)
    simpa using this
  refine ⟨(fun kd hk => nomatch hk), (fun hi _ => ?_), (fun i' j hj _ => nomatch (hn i _ hj))⟩
  rw [List.getElem?_eq_getElem hi]
  exact congrArg some (hn i _ (List.getElem?_eq_getElem hi))
theorem fits_one {o : Own} {om : List (Option Nat)} {i0 j : Nat} {kd : Kd} (h1 : om[i0]? = some (some j)) (h2 : (om.set i0 none).all (·.isNone) = true) (h3 : o.lookup j = some kd) : fitsO o [(i0, kd)] om := fun i => by
  have hn : ∀ (k : Nat) (x : Option Nat), k ≠ i0 → om[k]? = some x → x = none := fun k x hk hx => by
    have := List.all_eq_true.mp h2 x (List.mem_of_getElem? (i := k) (by rw [List.getElem?_set_ne (Ne.symm hk)]; exact hx))
    simpa using this
  have lk : ∀ {k : Nat} {kd'}, ([(i0, kd)] : Own).lookup k = some kd' → k = i0 ∧ kd' = kd := fun {k kd'} hk => by
    rw [List.lookup_cons] at hk
    by_cases e : k = i0
    · subst e
      simp only [beq_self_eq_true, Option.some.injEq] at hk
      exact ⟨rfl, hk.symm⟩
    · have z : (k == i0) = false := by simpa using e
      simp [z] at hk
  refine ⟨fun kd' hk => ?_, fun hi hk => ?_, fun i' j' hj hj' => ?_⟩
  · obtain ⟨rfl, rfl⟩ := lk hk
    exact ⟨j, h1, h3⟩
  · have e : i ≠ i0 := fun z => by
      subst z
      rw [List.lookup_cons] at hk
      simp at hk
    rw [List.getElem?_eq_getElem hi]
    exact congrArg some (hn i _ e (List.getElem?_eq_getElem hi))
  · have e1 : i = i0 := Classical.byContradiction fun z => nomatch (hn i _ z hj)
    have e2 : i' = i0 := Classical.byContradiction fun z => nomatch (hn i' _ z hj')
    rw [e1, e2]
def updOm (om : List (Option Nat)) (ρ' ρ : En) : En := (List.range om.length).foldl (fun r i => match om[i]? with
  | some (some j) => r.set j (some (dofE ρ' i))
  | _ => r) ρ
section
variable {om : List (Option Nat)} {ρ' ρ : En}
theorem updOm_aux (l : List Nat) : ∀ (r : En), (l.foldl (fun r i => match om[i]? with
  | some (some j) => r.set j (some (dofE ρ' i))
  | _ => r) r).length = r.length ∧ (∀ j : Nat, (∀ i : Nat, om[i]? ≠ some (some j)) → (l.foldl (fun r i => match om[i]? with
  | some (some j) => r.set j (some (dofE ρ' i))
  | _ => r) r)[j]? = r[j]?) := by
  induction l with
  | nil => exact fun r => ⟨rfl, fun _ _ => rfl⟩
  | cons i l ih =>
    intro r
    simp only [List.foldl_cons]
    split
    · rename_i j hj
      obtain ⟨h1, h2⟩ := ih (r.set j (some (dofE ρ' i)))
      refine ⟨by rw [h1, List.length_set], fun k hk => ?_⟩
      rw [h2 k hk, List.getElem?_set_ne (fun z => hk i (by rw [← z]; exact hj))]
    · exact ih r
theorem updOm_at (inj : ∀ i i' j : Nat, om[i]? = some (some j) → om[i']? = some (some j) → i = i') {i j : Nat} (hij : om[i]? = some (some j)) (l : List Nat) : ∀ (r : En), (j < r.length) → (i ∈ l ∨ r[j]? = some (some (dofE ρ' i))) → (l.foldl (fun r i => match om[i]? with
  | some (some j) => r.set j (some (dofE ρ' i))
  | _ => r) r)[j]? = some (some (dofE ρ' i)) := by
  induction l with
  | nil => exact fun r _ h => h.elim (fun z => nomatch z) id
  | cons k l ih =>
    intro r hl h
    simp only [List.foldl_cons]
    split
    · rename_i j' hj'
      refine ih _ (by rw [List.length_set]; exact hl) ?_
      by_cases e : j' = j
      · subst e
        have := inj k i j' hj' hij
        subst this
        exact .inr (by rw [List.getElem?_set_self hl])
      · rcases h with h | h
        · rcases List.mem_cons.mp h with z | z
          · subst z
            rw [hij] at hj'; cases hj'
            exact absurd rfl e
          · exact .inl z
        · exact .inr (by rw [List.getElem?_set_ne e]; exact h)
    · rename_i hno
      refine ih _ hl ?_
      rcases h with h | h
      · rcases List.mem_cons.mp h with z | z
        · subst z
          exact absurd hij (hno j)
        · exact .inl z
      · exact .inr h
end
def eCallG (om : List (Option Nat)) (f : List D → M (D × En)) (fs : En → M (List D)) : En → M (D × En) := fun ρ => (fs ρ).bind fun ds => (f ds).bind fun p => .ret (p.1, updOm om p.2 ρ)
section
variable {k n : Nat} {f : Addr} {fd : FuncData} {ps : List Str} {o0 : Own} {om : List (Option Nat)} {x : Str} {p : Pos} {fs : En → M (List D)} {ta : TA}
theorem callR_w {fn : List D → M D} (hn : om.length = n) (hraw : rawO o0 = true) (fit : fitsO o o0 om) (q : ∀ (y : Y) (σ : Sl) (H : Hp) (ρ : En) (F : Hp) (Q : List V → Hp → Prop), SR X.K y o σ H ρ F →
    (fs ρ).wp (fun ds => ∀ vs H' F', SR X.K y o σ H' ρ F' → Same F F' → ACs X.K σ ρ F' om vs ds → Q vs H') noE → ta σ H Q) (y : Y) (σ : Sl) (H : Hp) (ρ : En) (F : Hp) (Q : VK) (s : SR X.K y o σ H ρ F)
    (w : (eCall fn fs ρ).wp (fun d => ∀ v H' F', SR X.K y o σ H' ρ F' → Same F F' → Rp X.K F' v d → Q v H') noE) : ta σ H fun vs H1 => spR X.K n o0 fn vs H1 Q E0 := by
  refine q y σ H ρ F _ s (M.wp_mono (fun ds k2 vs H' F' s' e' a => ?_) (fun _ z => z) (M.wp_bind.mp w))
  obtain ⟨S, g1, g2⟩ := id s'.own
  refine ⟨F', ds, _, hn ▸ cbeg_of s' a fit g1 g2, M.wp_mono (fun d k3 v F2 H2 c hv => ?_) (fun _ z => z) k2⟩
  refine k3 v H2 F2 (sr_after s' a fit g1 g2 c rfl (fun _ _ => rfl) fun i j hij => ?_) (e'.trans c.f) hv
  have hi : i < om.length := (List.getElem?_eq_some_iff.mp hij).1
  cases q : o0.lookup i with
  | none => rw [(fit i).2.1 hi q] at hij; cases hij
  | some kd =>
    obtain ⟨R, rfl⟩ := rawO_of hraw q
    obtain ⟨j', e1, e2⟩ := (fit i).1 _ q
    rw [hij] at e1; cases e1
    obtain ⟨v, d, p1, p2, p3, _⟩ := g1 j _ e2
    rw [p2, p3.1]
theorem de_call {fn : List D → M D} (F : FnG X.prog X.w X.K X.mg X.base CX0 k f fd ps (spR X.K n o0 fn)) (hr : Rm k X.A) (hg : Gl X x) (hm : X.mg x = some (.ref f)) (hk : PySem.W.keepIn X.K (.ref f) = true) (hb : Binds X.K fd ps []) (ha : DCs X o (e :: es) om fs ta) (fit : fitsO o o0 om)
    (hn : om.length = n := by rfl) (hraw : rawO o0 = true := by rfl)
    (hdb : (x == ("__debug__" : Str)) = false := by decide) (he : starEach (e :: es) X.env = (false, eval e X.env) :: starEach es X.env := by rfl) (hpl : (backTo pos (starEach es X.env)).any (·.1) = false := by rfl) :
    DE X o (.Call (.Name x p) (e :: es) [] pos) (eCall fn fs) (tCall (spR X.K n o0 fn) [] E0 ta) :=
  ⟨peG_call F hr hg hm hk hb .nil pass0 ha.p hdb he hpl, fun y σ H ρ F Q s w => by
    have := callR_w hn hraw fit ha.q y σ H ρ F Q s w
    unfold tCall
    simpa using this⟩
theorem callG_w {fn : List D → M (D × En)} (hn : om.length = n) (fit : fitsO o o0 om) (q : ∀ (y : Y) (σ : Sl) (H : Hp) (ρ : En) (F : Hp) (Q : List V → Hp → Prop), SR X.K y o σ H ρ F →
    (fs ρ).wp (fun ds => ∀ vs H' F', SR X.K y o σ H' ρ F' → Same F F' → ACs X.K σ ρ F' om vs ds → Q vs H') noE → ta σ H Q) (y : Y) (σ : Sl) (H : Hp) (ρ : En) (F : Hp) (Q : VK) (s : SR X.K y o σ H ρ F)
    (w : (eCallG om fn fs ρ).wp (fun d => ∀ v H' F', SR X.K y o σ H' d.2 F' → Same F F' → Rp X.K F' v d.1 → Q v H') noE) : ta σ H fun vs H1 => spG X.K n o0 fn vs H1 Q E0 := by
  refine q y σ H ρ F _ s (M.wp_mono (fun ds k2 vs H' F' s' e' a => ?_) (fun _ z => z) (M.wp_bind.mp w))
  obtain ⟨S, g1, g2⟩ := id s'.own
  refine ⟨F', ds, _, hn ▸ cbeg_of s' a fit g1 g2, M.wp_mono (fun d k3 v F2 H2 c hv => ?_) (fun _ z => z) (M.wp_bind.mp k2)⟩
  obtain ⟨l1, l2⟩ := updOm_aux (om := om) (ρ' := d.2) (List.range om.length) ρ
  refine k3 v H2 F2 (sr_after s' a fit g1 g2 c l1 l2 fun i j hij => ?_) (e'.trans c.f) hv
  have hi : i < om.length := (List.getElem?_eq_some_iff.mp hij).1
  refine updOm_at (fun i i' j h h' => (fit i).2.2 i' j h h') hij _ _ ?_ (.inl (List.mem_range.mpr hi))
  obtain ⟨v, d, p1, p2, p3, p4⟩ := a.own_at hij
  exact (List.getElem?_eq_some_iff.mp p4).1
theorem dee_call {fn : List D → M (D × En)} (F : FnG X.prog X.w X.K X.mg X.base CX0 k f fd ps (spG X.K n o0 fn)) (hr : Rm k X.A) (hg : Gl X x) (hm : X.mg x = some (.ref f)) (hk : PySem.W.keepIn X.K (.ref f) = true) (hb : Binds X.K fd ps []) (ha : DCs X o (e :: es) om fs ta) (fit : fitsO o o0 om)
    (hn : om.length = n := by rfl)
    (hdb : (x == ("__debug__" : Str)) = false := by decide) (he : starEach (e :: es) X.env = (false, eval e X.env) :: starEach es X.env := by rfl) (hpl : (backTo pos (starEach es X.env)).any (·.1) = false := by rfl) :
    DEE X o (.Call (.Name x p) (e :: es) [] pos) (eCallG om fn fs) (tCall (spG X.K n o0 fn) [] E0 ta) :=
  ⟨peG_call F hr hg hm hk hb .nil pass0 ha.p hdb he hpl, fun y σ H ρ F Q s w => by
    have := callG_w hn fit ha.q y σ H ρ F Q s w
    unfold tCall
    simpa using this⟩
end
end
end DL

set_option Elab.async false
set_option linter.all false
set_option maxRecDepth 100000
set_option maxHeartbeats 4000000
/-! DK1: built-in functions. -/
namespace DL
open PySem PySem.Spec PyProof.Rows L2
section
variable {X : Cx} {K : PySem.W.Frag}

/-! ### len, abs, int, max, min -/
def rLenAll (K : PySem.W.Frag) : List V → Hp → VK → Prop := fun xs H Q => (∃ p ys, xs = [.ref p] ∧ (SqL K H p ys ∨ SqT K H p ys) ∧ Q (.int ys.length) H) ∨ (∃ z : Str, xs = [.str z] ∧ z.length ≤ sizeLine ∧ Q (.int z.length) H)
theorem call_lenAll : CallR X (.builtin "len") (rLenAll X.K) := CallR.or call_len_seq call_len_str
def lenD : List D → M D
  | [.list xs] => .ret (.int xs.length)
  | [.tuple xs] => .ret (.int xs.length)
  | [.str x] => if x.length ≤ sizeLine then .ret (.int x.length) else .bad
  | _ => .bad
theorem fl_len : CallFl K (rLenAll K) lenD := by
  intro vs H ds Q hs w
  unfold lenD at w
  split at w
  · cases hs with
    | cons h1 h2 =>
      cases h2
      cases h1 with
      | lst hl ha => exact .inl ⟨_, _, rfl, .inl (SqL.of hl), by rw [rpAll_len ha]; exact w rfl⟩
  · cases hs with
    | cons h1 h2 =>
      cases h2
      cases h1 with
      | tup hl ha => exact .inl ⟨_, _, rfl, .inr hl, by rw [rpAll_len ha]; exact w rfl⟩
  · split at w
    · rename_i hz
      cases hs with
      | cons h1 h2 =>
        cases h2
        cases h1
        exact .inr ⟨_, rfl, hz, w rfl⟩
    · exact w.elim
  · exact w.elim
theorem one_int {H : Hp} {i : Int} {vs : List V} (h : RpAll K H vs [.int i]) : vs = [.int i] := by
  cases h with
  | cons h1 h2 => cases h2; cases h1; rfl
theorem two_int {H : Hp} {i j : Int} {vs : List V} (h : RpAll K H vs [.int i, .int j]) : vs = [.int i, .int j] := by
  cases h with
  | cons h1 h2 =>
    cases h2 with
    | cons h3 h4 => cases h4; cases h1; cases h3; rfl
def absD : List D → M D
  | [.int i] => .ret (.int (if i < 0 then -i else i))
  | _ => .bad
theorem fl_abs : CallFl K (fun xs H Q => ∃ i, xs = [.int i] ∧ Q (.int (if i < 0 then -i else i)) H) absD := by
  intro vs H ds Q hs w
  unfold absD at w
  split at w
  · exact ⟨_, one_int hs, w rfl⟩
  · exact w.elim
def intD : List D → M D
  | [.int i] => .ret (.int i)
  | [.bool b] => .ret (.int (if b then 1 else 0))
  | _ => .bad
theorem fl_int1 : CallFl K (fun xs H Q => (∃ i, xs = [.int i] ∧ Q (.int i) H) ∨ ∃ k, xs = [.bl k] ∧ Q (.int (if k then 1 else 0)) H) intD := by
  intro vs H ds Q hs w
  unfold intD at w
  split at w
  · exact .inl ⟨_, one_int hs, w rfl⟩
  · cases hs with
    | cons h1 h2 => cases h2; cases h1; exact .inr ⟨_, rfl, w rfl⟩
  · exact w.elim
def boolD : List D → M D
  | [.int i] => .ret (.bool (i != 0))
  | [.bool b] => .ret (.bool b)
  | _ => .bad
theorem fl_bool1 : CallFl K (fun xs H Q => (∃ i, xs = [.int i] ∧ Q (.bl (i != 0)) H) ∨ ∃ k, xs = [.bl k] ∧ Q (.bl k) H) boolD := by
  intro vs H ds Q hs w
  unfold boolD at w
  split at w
  · exact .inl ⟨_, one_int hs, w rfl⟩
  · cases hs with
    | cons h1 h2 => cases h2; cases h1; exact .inr ⟨_, rfl, w rfl⟩
  · exact w.elim
def max2D : List D → M D
  | [.int i, .int j] => .ret (.int (if j > i then j else i))
  | _ => .bad
def min2D : List D → M D
  | [.int i, .int j] => .ret (.int (if j < i then j else i))
  | _ => .bad
theorem fl_max2 : CallFl K (fun xs H Q => ∃ i j, xs = [.int i, .int j] ∧ Q (.int (if j > i then j else i)) H) max2D := by
  intro vs H ds Q hs w
  unfold max2D at w
  split at w
  · exact ⟨_, _, two_int hs, w rfl⟩
  · exact w.elim
theorem fl_min2 : CallFl K (fun xs H Q => ∃ i j, xs = [.int i, .int j] ∧ Q (.int (if j < i then j else i)) H) min2D := by
  intro vs H ds Q hs w
  unfold min2D at w
  split at w
  · exact ⟨_, _, two_int hs, w rfl⟩
  · exact w.elim

/-! ### list(x), tuple(x) -/
def listD : List D → M D
  | [.list xs] => .ret (.list xs)
  | [.tuple xs] => .ret (.list xs)
  | _ => .bad
theorem n_list : CallN K (fun xs H Q => ∃ p ys, xs = [.ref p] ∧ (SqL K H p ys ∨ SqT K H p ys) ∧ ∀ l, H l = none → Q (.ref l) (upd H l (.lst ys))) listD := by
  intro vs H F ds Q f hs w
  unfold listD at w
  split at w
  · cases hs with
    | cons h1 h2 =>
      cases h2
      obtain ⟨a, us, rfl, t1, r1⟩ := h1.list f
      exact ⟨a, us, rfl, .inl (SqL.of t1), fun l hl => w _ l us rfl hl r1⟩
  · cases hs with
    | cons h1 h2 =>
      cases h2
      obtain ⟨a, us, rfl, t1, _, r1⟩ := h1.tup f
      exact ⟨a, us, rfl, .inr t1, fun l hl => w _ l us rfl hl r1⟩
  · exact w.elim
def tupleD : List D → M D
  | [.list xs] => .ret (.tuple xs)
  | [.tuple xs] => .ret (.tuple xs)
  | _ => .bad
theorem e_tuple : CallE K (fun xs H Q => ∃ p ys, xs = [.ref p] ∧ ((SqL K H p ys ∧ ∀ l, H l = none → Q (.ref l) (upd H l (.tup ys))) ∨ (SqT K H p ys ∧ Q (.ref p) H))) tupleD := by
  intro vs H F ds Q f hs w
  unfold tupleD at w
  split at w
  · cases hs with
    | cons h1 h2 =>
      cases h2
      obtain ⟨a, us, rfl, t1, r1⟩ := h1.list f
      exact ⟨a, us, rfl, .inl ⟨SqL.of t1, fun l hl => w _ _ _ (ext_new f hl) (rp_newT (f.free hl) r1)⟩⟩
  · cases hs with
    | cons h1 h2 =>
      cases h2
      obtain ⟨a, us, rfl, t1, t1', r1⟩ := h1.tup f
      exact ⟨a, us, rfl, .inr ⟨t1, w _ F H (.refl f) (.tup t1' r1)⟩⟩
  · exact w.elim

/-! ### sum(x) of a list of ints -/
def intsOf : List D → Option (List Int)
  | [] => some []
  | .int i :: r => (intsOf r).map (i :: ·)
  | _ :: _ => none
theorem intsOf_rp {H : Hp} : ∀ {vs : List V} {ds : List D} {ns : List Int}, RpAll K H vs ds → intsOf ds = some ns → vs = ns.map V.int
  | _, _, _, .nil, e => by cases e; rfl
  | _, _, _, .cons (ds := ds) h1 h2, e => by
    cases h1 with
    | int i =>
      unfold intsOf at e
      cases q : intsOf ds with
      | none => rw [q] at e; cases e
      | some r =>
        rw [q] at e
        cases e
        rw [List.map_cons, intsOf_rp h2 q]
    | _ => cases e
def sumD : List D → M D
  | [.list xs] => match intsOf xs with
    | some ns => .ret (.int ns.sum)
    | none => .bad
  | _ => .bad
theorem fl_sum : CallFl K (rSum K) sumD := by
  intro vs H ds Q hs w
  unfold sumD at w
  split at w
  · split at w
    · rename_i e
      cases hs with
      | cons h1 h2 =>
        cases h2
        cases h1 with
        | lst hl ha =>
          rw [intsOf_rp ha e] at hl
          exact ⟨_, _, rfl, SqL.of hl, w rfl⟩
    · exact w.elim
  · exact w.elim

/-! ### -x -/
def eUn (g : D → M D) (f : En → M D) : En → M D := fun ρ => (f ρ).bind g
def negD : D → M D
  | .int i => .ret (.int (-i))
  | _ => .bad
theorem de_neg {o : Own} {a : Expr} {fa : En → M D} {ta : TE} {pos : Pos} (ha : DE X o a fa ta) : DE X o (.UnaryOp .USub a pos) (eUn negD fa) (tUn (rU fun i => .int (-i)) ta) := by
  refine ⟨pe_un un_neg ha.p, fun y σ H ρ F Q s w => ha.q y σ H ρ F _ s (M.wp_mono (fun d k v H' F' s' e' hd => ?_) (fun _ z => z) (M.wp_bind.mp w))⟩
  cases hd with
  | int i => exact ⟨i, rfl, k _ H' F' s' e' (.int _)⟩
  | _ => exact k.elim

/-! ### a < b < c -/
def eChain (g1 g2 : D → D → M D) (f1 f2 f3 : En → M D) : En → M Bool := fun ρ => (f1 ρ).bind fun a => (f2 ρ).bind fun b => (g1 a b).bind fun x => match x with
  | .bool true => (f3 ρ).bind fun c => (g2 b c).bind fun y => match y with
    | .bool t => .ret t
    | _ => .bad
  | .bool false => .ret false
  | _ => .bad
theorem dt_chain {o : Own} {a b c : Expr} {fa fb fc : En → M D} {ta tb tc : TE} {op op' : CmpOp} {r r' : R2} {g g' : D → D → M D} {pos : Pos} (ho : OpR X (compareOp op) r) (ho' : OpR X (compareOp op') r') (hg : OpFl X.K r g) (hg' : OpFl X.K r' g')
    (ha : DE X o a fa ta) (hb : DE X o b fb tb) (hc : DE X o c fc tc) (hm : lastMarks [op, op'] [b, c] = false := by with_unfolding_all rfl) : DT X o (.Compare a [op, op'] [b, c] pos) (eChain g g' fa fb fc) (tTest (tChain r r' ta tb tc)) := by
  refine ⟨pt_chain ho ho' ha.p hb.p hc.p hm, fun y σ H ρ F Q s w => ?_⟩
  refine ha.q y σ H ρ F _ s (M.wp_mono (fun da k va H1 F1 s1 e1 h1 => ?_) (fun _ z => z) (M.wp_bind.mp w))
  refine hb.q y σ H1 ρ F1 _ s1 (M.wp_mono (fun db k vb H2 F2 s2 e2 h2 => ?_) (fun _ z => z) (M.wp_bind.mp k))
  refine hg va vb H2 da db _ (rp_mono (e2.trans s2.fz) h1) (rp_mono s2.fz h2) (M.wp_mono (fun x k hx => ?_) (fun _ z => z) (M.wp_bind.mp k))
  cases x with
  | bool t =>
    cases t with
    | false => exact ⟨false, rfl, false, rfl, k H2 F2 s2 (e1.trans e2)⟩
    | true =>
      refine ⟨true, rfl, ?_⟩
      refine hc.q y σ H2 ρ F2 _ s2 (M.wp_mono (fun dc k vc H3 F3 s3 e3 h3 => ?_) (fun _ z => z) (M.wp_bind.mp k))
      refine hg' vb vc H3 db dc _ (rp_mono (e3.trans s3.fz) h2) (rp_mono s3.fz h3) (M.wp_mono (fun x k hx => ?_) (fun _ z => z) (M.wp_bind.mp k))
      cases x with
      | bool t => exact ⟨t, rfl, k H3 F3 s3 ((e1.trans e2).trans e3)⟩
      | _ => exact k.elim
  | _ => exact k.elim

/-! ### list(range(..)), tuple(range(..)) -/
structure DRg (X : Cx) (o : Own) (e : Expr) (f : En → M (Int × Int)) (t : Sl → Hp → (Int → Int → Hp → Prop) → Prop) : Prop where
  p : PRg X e t
  q : ∀ (y : Y) (σ : Sl) (H : Hp) (ρ : En) (F : Hp) (Q : Int → Int → Hp → Prop), SR X.K y o σ H ρ F →
    (f ρ).wp (fun i => ∀ H' F', SR X.K y o σ H' ρ F' → Same F F' → Q i.1 i.2 H') noE → t σ H Q
def rg1 (f : En → M D) : En → M (Int × Int) := fun ρ => (f ρ).bind fun d => (asI d).bind fun i => .ret (0, i)
def rg2 (f g : En → M D) : En → M (Int × Int) := fun ρ => (f ρ).bind fun d => (g ρ).bind fun e => (asI d).bind fun i => (asI e).bind fun j => .ret (i, j)
variable {o : Own} {a b : Expr} {fa fb : En → M D} {ta tb : TE} {p pos : Pos}
theorem drg_1 (hg : Gl X "range") (hm : X.mg "range" = none) (ha : DB X o a fa ta) (na : starEach [a] X.env = (false, eval a X.env) :: starEach [] X.env := by rfl) : DRg X o (.Call (.Name "range" p) [a] [] pos) (rg1 fa) (tRg1 ta) := by
  refine ⟨prg_1 hg hm ha.p na, fun y σ H ρ F Q s w => ha.q y σ H ρ F _ s (M.wp_mono (fun d k v H' F' s' e' hd => ?_) (fun _ z => z) (M.wp_bind.mp w))⟩
  have hd := RB.rp s' hd
  cases hd with
  | int i => exact ⟨i, rfl, k H' F' s' e'⟩
  | _ => exact k.elim
theorem drg_2 (hg : Gl X "range") (hm : X.mg "range" = none) (ha : DB X o a fa ta) (hb : DB X o b fb tb) (na : starEach [a, b] X.env = (false, eval a X.env) :: starEach [b] X.env := by rfl)
    (nb : starEach [b] X.env = (false, eval b X.env) :: starEach [] X.env := by rfl) (hp : (backTo pos (starEach [b] X.env)).any (·.1) = false := by rfl) : DRg X o (.Call (.Name "range" p) [a, b] [] pos) (rg2 fa fb) (tRg2 ta tb) := by
  refine ⟨prg_2 hg hm ha.p hb.p na nb hp, fun y σ H ρ F Q s w => ha.q y σ H ρ F _ s (M.wp_mono (fun d k v H' F' s' e' hd => ?_) (fun _ z => z) (M.wp_bind.mp w))⟩
  refine hb.q y σ H' ρ F' _ s' (M.wp_mono (fun d2 k v2 H2 F2 s2 e2 hd2 => ?_) (fun _ z => z) (M.wp_bind.mp k))
  have hd := RB.rp s2 (hd.mono e2)
  have hd2 := RB.rp s2 hd2
  cases hd with
  | int i =>
    cases hd2 with
    | int j => exact ⟨i, j, rfl, rfl, k H2 F2 s2 (e'.trans e2)⟩
    | _ => exact k.elim
  | _ => exact k.elim
def rgL (i j : Int) : List D := (List.range (j - i).toNat).map fun k => .int (i + (k : Nat))
theorem rgL_rp {H : Hp} (i j : Int) : RpAll K H (rgV i j) (rgL i j) := by
  unfold rgV rgL
  induction List.range (j - i).toNat with
  | nil => exact .nil
  | cons k r ih => exact .cons (.int _) ih
def rgOkB (i j : Int) : Bool := decide (-(2 ^ 62) ≤ i) && decide (i < 2 ^ 62) && decide (-(2 ^ 62) ≤ j) && decide (j < 2 ^ 62) && decide ((j - i).toNat ≤ 2 ^ 24)
theorem rgOk_of {i j : Int} (h : rgOkB i j = true) : RgOk i j := by
  unfold rgOkB at h
  simp only [Bool.and_eq_true, decide_eq_true_eq] at h
  exact ⟨h.1.1.1.1, h.1.1.1.2, h.1.1.2, h.1.2, h.2⟩
def eLstRg (f : En → M (Int × Int)) : En → M D := fun ρ => (f ρ).bind fun p => if rgOkB p.1 p.2 then .ret (.list (rgL p.1 p.2)) else .bad
def eTupRg (f : En → M (Int × Int)) : En → M D := fun ρ => (f ρ).bind fun p => if rgOkB p.1 p.2 then .ret (.tuple (rgL p.1 p.2)) else .bad
variable {fr : En → M (Int × Int)} {tr : Sl → Hp → (Int → Int → Hp → Prop) → Prop}
theorem dn_listRg (hc : X.calm = true) (hg : Gl X "list") (hm : X.mg "list" = none) (he : DRg X o a fr tr) (na : starEach [a] X.env = (false, eval a X.env) :: starEach [] X.env := by rfl) : DN X o (.Call (.Name "list" p) [a] [] pos) (eLstRg fr) (tLstRg tr) := by
  refine ⟨pe_listRg hc hg hm he.p na, fun y σ H ρ F Q s w => he.q y σ H ρ F _ s (M.wp_mono (fun i k H' F' s' e' => ?_) (fun _ z => z) (M.wp_bind.mp w))⟩
  split at k
  · rename_i h
    refine ⟨rgOk_of h, fun q hq => ?_⟩
    obtain ⟨s2, b1, b2⟩ := sr_new (vs := rgV i.1 i.2) s' hq
    exact k q _ _ _ F' rfl b1 b2 s2 e' (rgL_rp _ _)
  · exact k.elim
theorem de_tupRg (hc : X.calm = true) (hg : Gl X "tuple") (hm : X.mg "tuple" = none) (he : DRg X o a fr tr) (na : starEach [a] X.env = (false, eval a X.env) :: starEach [] X.env := by rfl) : DE X o (.Call (.Name "tuple" p) [a] [] pos) (eTupRg fr) (tTupRg tr) := by
  refine ⟨pe_tupRg hc hg hm he.p na, fun y σ H ρ F Q s w => he.q y σ H ρ F _ s (M.wp_mono (fun i k H' F' s' e' => ?_) (fun _ z => z) (M.wp_bind.mp w))⟩
  split at k
  · rename_i h
    refine ⟨rgOk_of h, fun q hq => ?_⟩
    exact k _ _ _ (s'.ext (ext_new s'.fz hq)) (e'.trans (ext_new s'.fz hq).f) (rp_newT (s'.fz.free hq) (rgL_rp _ _))
  · exact k.elim
end
end DL

set_option Elab.async false
set_option linter.all false
set_option maxRecDepth 100000
set_option maxHeartbeats 4000000
/-! DK2: sorted, repr, any, all, index, is None. -/
namespace DL
open PySem PySem.Spec PyProof.Rows L2

/-! ### is None -/
def isNo : D → Bool
  | .none => true
  | _ => false
def isND : D → D → M D := fun d e => match e with
  | .none => .ret (.bool (isNo d))
  | _ => .bad
def notND : D → D → M D := fun d e => match e with
  | .none => .ret (.bool (!isNo d))
  | _ => .bad
def rIsNo : R2 := fun x y H Q => y = .non ∧ Q (.bl (decide (x = .non))) H
def rNotNo : R2 := fun x y H Q => y = .non ∧ Q (.bl (!decide (x = .non))) H
theorem op_isNo {X : Cx} : OpR X (compareOp .Is) rIsNo := op_isN
theorem op_notNo {X : Cx} : OpR X (compareOp .IsNot) rNotNo := op_notN
theorem rp_non {K : PySem.W.Frag} {H : Hp} {v : V} {d : D} (h : Rp K H v d) : decide (v = .non) = isNo d := by
  cases h <;> simp [isNo]
theorem fl_isN {K : PySem.W.Frag} : OpFl K rIsNo isND := by
  intro x z H d e Q hx hz w
  cases e with
  | none =>
    cases hz
    refine ⟨rfl, ?_⟩
    rw [rp_non hx]
    exact w rfl
  | _ => exact w.elim
theorem fl_notN {K : PySem.W.Frag} : OpFl K rNotNo notND := by
  intro x z H d e Q hx hz w
  cases e with
  | none =>
    cases hz
    refine ⟨rfl, ?_⟩
    rw [rp_non hx]
    exact w rfl
  | _ => exact w.elim

/-! ### repr(x) of a list or a tuple -/
mutual
def reprI : D → Bool
  | .none => true
  | .bool _ => true
  | .int i => decide (i.natAbs < 2 ^ 512)
  | .str x => x.cps.toList.all fun c => decide (c < 16 ^ 8)
  | .list xs => reprIs xs
  | .tuple xs => reprIs xs
  | .dict _ => false
def reprIs : List D → Bool
  | [] => true
  | x :: xs => reprI x && reprIs xs
end
theorem int_short {i : Int} (h : i.natAbs < 2 ^ 512) : (PyData.shown (.int i)).length ≤ 160 := by
  have := int_text_length_le10 (a := i) (k := 155) (by decide) (Nat.lt_of_lt_of_le h (by decide))
  rw [PyData.shown]
  rw [PySem.ofString_length]
  omega
mutual
theorem reprI_leaves : ∀ d : D, reprI d = true → d.leavesShort 160 = true
  | .none, _ => by simp only [PyData.leavesShort]
  | .bool _, _ => by simp only [PyData.leavesShort]
  | .int i, h => by
    simp only [reprI, decide_eq_true_eq] at h
    simp only [PyData.leavesShort, decide_eq_true_eq]
    exact int_short h
  | .str x, h => by simpa only [PyData.leavesShort, reprI] using h
  | .list xs, h => by simp only [PyData.leavesShort]; exact reprIs_leaves xs (by simpa only [reprI] using h)
  | .tuple xs, h => by simp only [PyData.leavesShort]; exact reprIs_leaves xs (by simpa only [reprI] using h)
  | .dict _, h => by simp [reprI] at h
theorem reprIs_leaves : ∀ xs : List D, reprIs xs = true → PyData.leavesShortAll 160 xs = true
  | [], _ => by simp only [PyData.leavesShortAll]
  | x :: xs, h => by
    simp only [reprIs, Bool.and_eq_true] at h
    simp only [PyData.leavesShortAll, Bool.and_eq_true]
    exact ⟨reprI_leaves x h.1, reprIs_leaves xs h.2⟩
end
mutual
theorem reprI_show : ∀ d : D, reprI d = true → d.showable = true ∧ d.hasDict = false
  | .none, _ => by simp [PyData.showable, PyData.hasDict]
  | .bool _, _ => by simp [PyData.showable, PyData.hasDict]
  | .int i, h => by
    simp only [reprI, decide_eq_true_eq] at h
    simp only [PyData.showable, PyData.hasDict, decide_eq_true_eq, and_true]
    by_cases z : i.natAbs = 0
    · rw [z]; decide
    · exact Nat.lt_trans ((Nat.log2_lt z).mpr (show i.natAbs < 2 ^ 512 from h)) (by decide)
  | .str x, h => by simp [PyData.showable, PyData.hasDict]
  | .list xs, h => by simp only [PyData.showable, PyData.hasDict]; exact reprIs_show xs (by simpa only [reprI] using h)
  | .tuple xs, h => by simp only [PyData.showable, PyData.hasDict]; exact reprIs_show xs (by simpa only [reprI] using h)
  | .dict _, h => by simp [reprI] at h
theorem reprIs_show : ∀ xs : List D, reprIs xs = true → PyData.showableAll xs = true ∧ PyData.hasDictAll xs = false
  | [], _ => by simp [PyData.showableAll, PyData.hasDictAll]
  | x :: xs, h => by
    simp only [reprIs, Bool.and_eq_true] at h
    have h1 := reprI_show x h.1
    have h2 := reprIs_show xs h.2
    simp [PyData.showableAll, PyData.hasDictAll, h1.1, h1.2, h2.1, h2.2]
end
def isSeqD : D → Bool
  | .list _ => true
  | .tuple _ => true
  | _ => false
def reprOk (d : D) : Bool := isSeqD d && reprI d && decide (d.bulk ≤ 100000) && decide (d.depth ≤ 64)
theorem reprOk_fits {d : D} (h : reprI d = true) (hb : d.bulk ≤ 100000) : d.shown.length ≤ sizeLine := by
  have := PyData.shown_le_bulk 160 (by decide) d (reprI_leaves d h)
  rw [sizeLine_eq]
  omega
def reprD : List D → M D
  | [d] => if reprOk d then .ret (.str d.shown) else .bad
  | _ => .bad
def rRepr (K : PySem.W.Frag) : List V → Hp → VK → Prop := fun xs H Q => ∃ a d, xs = [.ref a] ∧ Dp K H (.ref a) d ∧ reprOk d = true ∧ Q (.str d.shown) H
theorem call_repr {X : Cx} {k : Nat} (hr : Rm k X.A) : CallR X (.builtin "repr") (rRepr X.K) := by
  intro pins s σ H xs us Q I r h
  obtain ⟨a, d, rfl, hd, hk, q⟩ := h
  obtain ⟨u, rfl, rx⟩ := vals1 r
  cases rx
  obtain ⟨as, r1⟩ := Dp.reads I d (.ref a) (.ref a) hd rfl
  unfold reprOk at hk
  simp only [Bool.and_eq_true, decide_eq_true_eq] at hk
  obtain ⟨⟨⟨_, k1⟩, k2⟩, k3⟩ := hk
  obtain ⟨s1, s2⟩ := reprI_show d k1
  have hun := hr.r.un
  exact PySem.repr_of_reads' r1 s1 (fun z => by rw [s2] at z; cases z) hr.g (by omega) (fun _ _ e => e) (fun h' u tk hk => ⟨.str d.shown, H, I.kept hk, ⟨_, rfl⟩, q⟩) (reprOk_fits k1 k2)
theorem fl_repr {K : PySem.W.Frag} : CallFl K (rRepr K) reprD := by
  intro vs H ds Q hs w
  unfold reprD at w
  split at w
  · split at w
    · rename_i d hk
      cases hs with
      | cons h1 h2 =>
        cases h2
        have hd := h1.dp
        cases h1 with
        | lst _ _ => exact ⟨_, _, rfl, hd, hk, w rfl⟩
        | tup _ _ => exact ⟨_, _, rfl, hd, hk, w rfl⟩
        | _ => simp [reprOk, isSeqD] at hk
    · exact w.elim
  · exact w.elim

/-! ### any, all -/
def boolsOf : List D → Option (List Bool)
  | [] => some []
  | .bool b :: r => (boolsOf r).map (b :: ·)
  | _ :: _ => none
def anyD : List D → M D
  | [.list xs] => match boolsOf xs with
    | some bs => .ret (.bool (bs.any id))
    | none => .bad
  | _ => .bad
def allD : List D → M D
  | [.list xs] => match boolsOf xs with
    | some bs => .ret (.bool (bs.all id))
    | none => .bad
  | _ => .bad
theorem boolsOf_map : ∀ {ds : List D} {bs : List Bool}, boolsOf ds = some bs → ds = bs.map .bool
  | [], _, e => by cases e; rfl
  | d :: ds, bs, e => by
    cases d with
    | bool b =>
      unfold boolsOf at e
      cases q : boolsOf ds with
      | none => rw [q] at e; cases e
      | some r =>
        rw [q] at e
        cases e
        rw [List.map_cons, boolsOf_map q]
    | _ => cases e
def rAnyB (K : PySem.W.Frag) (f : List Bool → Bool) : List V → Hp → VK → Prop := fun xs H Q => ∃ (a : Addr) (bs : List Bool), xs = [.ref a] ∧ SqL K H a (bs.map V.bl) ∧ Q (.bl (f bs)) H
theorem bools_reads {s : Shared} : ∀ {bs : List Bool} {its : List Value}, Vals (bs.map V.bl) its → ReadsAll s.heap its (bs.map PyData.bool) []
  | [], _, h => by cases h; exact .nil
  | b :: bs, _, h => by
    cases h with
    | cons h1 h2 =>
      cases h1
      exact ReadsAll.cons (as := []) (bs := []) (.bool b) (bools_reads h2)
theorem plain_bools : ∀ bs : List Bool, PyData.plainAll (bs.map PyData.bool) = true
  | [] => by simp [PyData.plainAll]
  | b :: bs => by simp [PyData.plainAll, PyData.plain, plain_bools bs]
theorem fits_bools {bs : List Bool} : ∀ x ∈ bs.map PyData.bool, PyData.fits63 x := fun x hx => by
  obtain ⟨b, _, rfl⟩ := List.mem_map.mp hx
  exact trivial
theorem call_anyB {X : Cx} (hc : X.calm = true) : CallR X (.builtin "any") (rAnyB X.K fun bs => bs.any id) := by
  intro pins s σ H xs us Q I r h
  obtain ⟨a, bs, rfl, hs, q⟩ := h
  obtain ⟨u, rfl, rx⟩ := vals1 r
  cases rx
  have e : (bs.map PyData.bool).any PyData.truthy = bs.any id := by rw [List.any_map]; rfl
  obtain ⟨its, rv, hl, hz⟩ := I.list hs
  exact PySem.W.any_list_data (I.ok.hd hc) hl.isList (bools_reads rv) (plain_bools bs) fits_bools fun h' tk hk => ⟨.bl _, H, I.kept hk, rfl, by rw [e]; exact q⟩
theorem call_allB {X : Cx} (hc : X.calm = true) : CallR X (.builtin "all") (rAnyB X.K fun bs => bs.all id) := by
  intro pins s σ H xs us Q I r h
  obtain ⟨a, bs, rfl, hs, q⟩ := h
  obtain ⟨u, rfl, rx⟩ := vals1 r
  cases rx
  have e : (bs.map PyData.bool).all PyData.truthy = bs.all id := by rw [List.all_map]; rfl
  obtain ⟨its, rv, hl, hz⟩ := I.list hs
  exact PySem.W.all_list_data (I.ok.hd hc) hl.isList (bools_reads rv) (plain_bools bs) fits_bools fun h' tk hk => ⟨.bl _, H, I.kept hk, rfl, by rw [e]; exact q⟩
theorem bools_rp {K : PySem.W.Frag} {H : Hp} : ∀ {bs : List Bool} {vs : List V}, RpAll K H vs (bs.map PyData.bool) → vs = bs.map V.bl
  | [], _, h => by cases h; rfl
  | b :: bs, _, h => by
    cases h with
    | cons h1 h2 => cases h1; rw [bools_rp h2]; rfl
theorem boolseq {K : PySem.W.Frag} {H : Hp} {f : List Bool → Bool} {Q : VK} {xs : List D} {bs : List Bool} {vs : List V} (e2 : boolsOf xs = some bs) (hs : RpAll K H vs [.list xs]) (q : Q (.bl (f bs)) H) : rAnyB K f vs H Q := by
  have := boolsOf_map e2
  subst this
  cases hs with
  | cons h1 h2 =>
    cases h2
    cases h1 with
    | lst hl ha => exact ⟨_, bs, rfl, by rw [← bools_rp ha]; exact SqL.of hl, q⟩
theorem fl_any {K : PySem.W.Frag} : CallFl K (rAnyB K fun bs => bs.any id) anyD := by
  intro vs H ds Q hs w
  unfold anyD at w
  split at w
  · split at w
    · rename_i e2
      exact boolseq e2 hs (w rfl)
    · exact w.elim
  · exact w.elim
theorem fl_all {K : PySem.W.Frag} : CallFl K (rAnyB K fun bs => bs.all id) allD := by
  intro vs H ds Q hs w
  unfold allD at w
  split at w
  · split at w
    · rename_i e2
      exact boolseq e2 hs (w rfl)
    · exact w.elim
  · exact w.elim

/-! ### sorted(x) of a list -/
def leD2 (x y : D) : Bool := !PySem.W.dataLt y x
def insD (x : D) : List D → List D
  | [] => [x]
  | y :: r => if leD2 x y then x :: y :: r else y :: insD x r
def sortL : List D → List D
  | [] => []
  | x :: r => insD x (sortL r)
theorem leD2_total : PySem.W.TotalLe leD2 := by
  show PySem.W.TotalLe (PySem.W.dataLe false fun b : D => b)
  exact PySem.W.sortLe_total _ _ _
theorem ins_mem {x y : D} : ∀ {r : List D}, y ∈ insD x r → y = x ∨ y ∈ r
  | [], h => by simpa [insD] using h
  | z :: r, h => by
    unfold insD at h
    split at h
    · simpa using h
    · rcases List.mem_cons.mp h with e | h
      · exact .inr (by rw [e]; exact List.mem_cons_self)
      · rcases ins_mem h with e | h
        · exact .inl e
        · exact .inr (List.mem_cons_of_mem _ h)
theorem ins_sorted {x : D} : ∀ {r : List D}, r.Pairwise (fun a b => leD2 a b = true) → (insD x r).Pairwise fun a b => leD2 a b = true
  | [], _ => by simp [insD]
  | z :: r, h => by
    unfold insD
    obtain ⟨h1, h2⟩ := List.pairwise_cons.mp h
    split
    · rename_i e
      refine List.pairwise_cons.mpr ⟨fun y hy => ?_, h⟩
      rcases List.mem_cons.mp hy with rfl | hy
      · exact e
      · exact leD2_total.trans _ _ _ e (h1 y hy)
    · rename_i e
      refine List.pairwise_cons.mpr ⟨fun y hy => ?_, ins_sorted h2⟩
      rcases ins_mem hy with rfl | hy
      · rcases leD2_total.total y z with q | q
        · exact absurd q e
        · exact q
      · exact h1 y hy
theorem ins_filter {x c : D} : ∀ {r : List D}, (insD x r).filter (PySem.W.sameRank leD2 c) = (x :: r).filter (PySem.W.sameRank leD2 c)
  | [] => rfl
  | z :: r => by
    unfold insD
    split
    · rfl
    · rename_i e
      rw [List.filter_cons, ins_filter (r := r)]
      cases hz : PySem.W.sameRank leD2 c z with
      | false =>
        rw [if_neg (by decide)]
        cases hx : PySem.W.sameRank leD2 c x with
        | false => rw [List.filter_cons_of_neg (by rw [hx]; decide), List.filter_cons_of_neg (by rw [hx]; decide), List.filter_cons_of_neg (by rw [hz]; decide)]
        | true => rw [List.filter_cons_of_pos hx, List.filter_cons_of_pos hx, List.filter_cons_of_neg (by rw [hz]; decide)]
      | true =>
        rw [if_pos rfl]
        cases hx : PySem.W.sameRank leD2 c x with
        | false => rw [List.filter_cons_of_neg (by rw [hx]; decide), List.filter_cons_of_neg (by rw [hx]; decide), List.filter_cons_of_pos hz]
        | true =>
          unfold PySem.W.sameRank at hx hz
          rw [Bool.and_eq_true] at hx hz
          exact absurd (leD2_total.trans _ _ _ hx.2 hz.1) e
theorem sortL_sorted : ∀ r : List D, (sortL r).Pairwise fun a b => leD2 a b = true
  | [] => by simp [sortL]
  | x :: r => ins_sorted (sortL_sorted r)
theorem sortL_filter {c : D} : ∀ r : List D, (sortL r).filter (PySem.W.sameRank leD2 c) = r.filter (PySem.W.sameRank leD2 c)
  | [] => rfl
  | x :: r => by
    unfold sortL
    rw [ins_filter, List.filter_cons, sortL_filter r, ← List.filter_cons]
theorem sortL_eq (r : List D) : sortL r = r.mergeSort leD2 := PySem.W.sort_unique leD2_total (sortL_sorted r) fun c => sortL_filter r
def alikeTo (x : D) (xs : List D) : Bool := xs.all fun y => PySem.W.alike x y
def allAl : List D → Bool
  | [] => true
  | x :: r => alikeTo x (x :: r) && (r.all fun y => PySem.W.alike y x) && allAl r
theorem allAl_of : ∀ {xs : List D}, allAl xs = true → PySem.W.AllAlike xs
  | [], _ => fun d hd => nomatch hd
  | x :: r, h => by
    unfold allAl at h
    simp only [Bool.and_eq_true] at h
    obtain ⟨⟨h1, h2⟩, h3⟩ := h
    have h1 := List.all_eq_true.mp h1
    have h2 := List.all_eq_true.mp h2
    intro d hd d' hd'
    rcases List.mem_cons.mp hd with e | hd
    · rw [e]; exact h1 d' hd'
    · rcases List.mem_cons.mp hd' with e | hd'
      · rw [e]; exact h2 d hd
      · exact allAl_of h3 d hd d' hd'
def isInt : D → Bool
  | .int _ => true
  | _ => false
/-- tuples of n + 1 ints, or more -/
def isRow : D → Bool
  | .tuple (x :: r) => isInt x && r.all isInt
  | _ => false
theorem alike_intL : ∀ {xs ys : List D}, xs.all isInt = true → ys.all isInt = true → PySem.W.alikeAll xs ys = true
  | [], _, _, _ => by simp [PySem.W.alikeAll]
  | _ :: _, [], _, _ => by simp [PySem.W.alikeAll]
  | x :: xs, y :: ys, h1, h2 => by
    simp only [List.all_cons, Bool.and_eq_true] at h1 h2
    rw [PySem.W.alikeAll, alike_intL h1.2 h2.2]
    cases x <;> cases y <;> simp_all [isInt, PySem.W.alike]
/-- what can be sorted -/
def sortOk (xs : List D) : Bool := xs.all isInt || xs.all isRow || (allAl xs && ((xs.all fun d => match d with
  | .tuple (_ :: _) => true
  | _ => false) || xs.all fun d => match d with
  | .tuple _ => false
  | .none => false
  | _ => true) && decide (PyData.depthAll xs ≤ 64))
theorem depth_intL : ∀ {xs : List D}, xs.all isInt = true → PyData.depthAll xs = 0
  | [], _ => by simp [PyData.depthAll]
  | x :: xs, h => by
    simp only [List.all_cons, Bool.and_eq_true] at h
    rw [PyData.depthAll, depth_intL h.2]
    cases x <;> simp_all [isInt, PyData.depth]
theorem depth_mem : ∀ {xs : List D} {d : D}, d ∈ xs → d.depth ≤ PyData.depthAll xs
  | x :: xs, d, h => by
    rw [PyData.depthAll]
    rcases List.mem_cons.mp h with rfl | h
    · exact Nat.le_max_left _ _
    · exact Nat.le_trans (depth_mem h) (Nat.le_max_right _ _)
theorem sortOk_of {xs : List D} (h : sortOk xs = true) : PySem.W.AllAlike xs ∧ PySem.W.Sortable xs ∧ ∀ d ∈ xs, d.depth ≤ 64 := by
  unfold sortOk at h
  rw [Bool.or_eq_true, Bool.or_eq_true] at h
  rcases h with (h | h) | h
  · have h := List.all_eq_true.mp h
    refine ⟨fun d hd d' hd' => ?_, .inr fun d hd => ?_, fun d hd => ?_⟩
    · have a := h d hd; have b := h d' hd'
      cases d <;> cases d' <;> simp_all [isInt, PySem.W.alike]
    · have a := h d hd
      cases d <;> simp_all [isInt]
    · have a := h d hd
      cases d <;> simp_all [isInt, PyData.depth]
  · have h := List.all_eq_true.mp h
    have row : ∀ d ∈ xs, ∃ x r, d = .tuple (x :: r) ∧ (x :: r).all isInt = true := fun d hd => by
      have a := h d hd
      cases d with
      | tuple ys =>
        cases ys with
        | nil => cases a
        | cons x r => exact ⟨x, r, rfl, by simpa [isRow] using a⟩
      | _ => cases a
    refine ⟨fun d hd d' hd' => ?_, .inl fun d hd => ?_, fun d hd => ?_⟩
    · obtain ⟨x, r, rfl, a⟩ := row d hd
      obtain ⟨x', r', rfl, a'⟩ := row d' hd'
      rw [PySem.W.alike]
      exact alike_intL a a'
    · obtain ⟨x, r, rfl, _⟩ := row d hd
      exact ⟨x, r, rfl⟩
    · obtain ⟨x, r, rfl, a⟩ := row d hd
      rw [PyData.depth, depth_intL a]
      omega
  · simp only [Bool.and_eq_true, decide_eq_true_eq, Bool.or_eq_true] at h
    obtain ⟨⟨h1, h2⟩, h3⟩ := h
    refine ⟨allAl_of h1, ?_, fun d hd => Nat.le_trans (depth_mem hd) h3⟩
    rcases h2 with h2 | h2
    · have h2 := List.all_eq_true.mp h2
      refine .inl fun d hd => ?_
      have a := h2 d hd
      cases d with
      | tuple ys =>
        cases ys with
        | nil => cases a
        | cons x r => exact ⟨x, r, rfl⟩
      | _ => cases a
    · have h2 := List.all_eq_true.mp h2
      refine .inr fun d hd => ?_
      have a := h2 d hd
      cases d <;> simp_all
def oneOk (xs : List D) : Bool := match xs with
  | [] => true
  | [d] => PySem.W.alike d d && notNone d && decide (d.depth ≤ 64)
  | _ => false
def leP (p q : V × D) : Bool := leD2 p.2 q.2
def rSortD (K : PySem.W.Frag) : List V → Hp → VK → Prop := fun xs H Q => ∃ a vs ds, xs = [.ref a] ∧ (SqL K H a vs ∨ SqT K H a vs) ∧ DpAll K H vs ds ∧ (sortOk ds = true ∨ oneOk ds = true) ∧
  ∀ p, H p = none → Q (.ref p) (upd H p (.lst (((vs.zip ds).mergeSort leP).map (·.1))))
theorem oneOk_al {ds : List D} (h : oneOk ds = true) : PySem.W.AllAlike ds := fun d hd d' hd' => by
    match ds, h with
    | [x], h =>
      simp only [List.mem_singleton] at hd hd'
      subst hd
      subst hd'
      simp only [oneOk, Bool.and_eq_true] at h
      exact h.1.1
    | [], _ => nomatch hd
theorem sortsAt_one {prog : Program} {w : World} {A : Around} {s : Shared} {vs : List Value} {ds : List D} (e : PySem.W.EachIs (fun v d => ∃ as, Reads s.heap v d as) vs ds) (h : oneOk ds = true) (hu : A.units + 64 < cLine) : PySem.W.SortsAt prog w A s (PySem.W.dataKind s.heap ds) vs := by
  have hal : PySem.W.AllAlike ds := oneOk_al h
  have hl : ds.length ≤ 1 := by
    match ds, h with
    | [x], _ => exact Nat.le_refl _
    | [], _ => exact Nat.zero_le _
  have hp : ∀ d ∈ ds, d ≠ .none ∧ d.depth ≤ 64 := fun d hd => by
    match ds, h with
    | [x], h =>
      simp only [List.mem_singleton] at hd
      subst hd
      simp only [oneOk, Bool.and_eq_true, decide_eq_true_eq] at h
      refine ⟨fun z => ?_, h.2⟩
      have := h.1.2
      rw [z] at this
      cases this
    | [], _ => nomatch hd
  refine ⟨fun v hv => ?_, general', fun E x y a b Q ha hb hq => ?_, fun h2 => absurd h2 (by rw [e.length]; omega)⟩
  · obtain ⟨d, hd, as, r⟩ := e.left v hv
    exact ⟨_, PySem.W.dataKind_some hal hd r⟩
  · obtain ⟨d, as, hd, ra, rfl⟩ := PySem.W.dataKind_inv ha
    obtain ⟨d', as', hd', rb, rfl⟩ := PySem.W.dataKind_inv hb
    have hm : min d.depth d'.depth ≤ 64 := Nat.le_trans (Nat.min_le_left _ _) (hp d hd).2
    exact PySem.W.oneLt_alike (f := false) (fun z => nomatch z) ra rb (hal d hd d' hd') (hp d hd).1 (by omega) hq
theorem each_reads {X : Cx} {pins : List (Addr × Obj)} {σ : Sl} {H : Hp} {s : Shared} (I : Inv X pins σ H s) : ∀ {vs : List V} {ds : List D} {us : List Value}, DpAll X.K H vs ds → Vals vs us →
    PySem.W.EachIs (fun u (p : V × D) => RelV p.1 u ∧ ∃ as, Reads s.heap u p.2 as) us (vs.zip ds)
  | _, _, _, .nil, h => by cases h; exact .nil
  | _, _, _, .cons h1 h2, h => by
    cases h with
    | cons r1 r2 =>
      obtain ⟨as, r⟩ := Dp.reads I _ _ _ h1 r1
      exact .cons ⟨r1, as, r⟩ (each_reads I h2 r2)
theorem each_vals {zs : List (V × D)} {us : List Value} (h : PySem.W.EachIs (fun u (p : V × D) => RelV p.1 u) us zs) : Vals (zs.map (·.1)) us := by
  induction h with
  | nil => exact .nil
  | cons h _ ih => exact .cons h ih
theorem dpAll_len {K : PySem.W.Frag} {H : Hp} : ∀ {vs : List V} {ds : List D}, DpAll K H vs ds → vs.length = ds.length
  | _, _, .nil => rfl
  | _, _, .cons _ h2 => by simp only [List.length_cons, dpAll_len h2]
section
variable {prog : Program} {w : World} {A : Around} {E : Value → Shared → Prop} {s : Shared}
open PySem.Calls
/-- a tuple's items, gathered in a new list -/
theorem gather_tuple {l : Addr} {vs : List Value} {Q : List Value → Shared → Prop} (hl : s.heap.IsTuple l vs.toArray)
    (h : Q vs { s with heap := (s.heap.push (seqObj "list" #[] 0)).update s.heap.objs.size (Obj.mapSeq (· ++ vs.toArray)) }) (hsz : vs.length ≤ sizeLine) :
    wpAny (model prog w) A (collect (.ref l)) Q E s := by
  obtain ⟨o, ho, hc, n, hd⟩ := id hl
  unfold collect
  refine wpAny_bind (wpAny_runValue (codeAny_builtin entry_proto_collect' ?_))
  show wpAny _ _ (do again (.builtin "list.__iadd__" ⟨[← newList [], .ref l], []⟩)) _ _ s
  refine wpAny_bind (wpAny_newList (wpAny_pure ⟨Code.quiet_builtin _ (by decide +kernel), codeAny_builtin entry_list_iadd' ?_⟩))
  show wpAny _ _ (Builtin.List.listExtendWith (.ref s.heap.objs.size) (.ref l) (.ref s.heap.objs.size)) _ _ { s with heap := s.heap.push (seqObj "list" #[] 0) }
  unfold Builtin.List.listExtendWith
  have h2 : (s.heap.push (seqObj "list" #[] 0)).get? l = some o := Heap.get?_push_of_some _ ho
  refine wpAny_bind (wpAny_typeOf (T := "tuple") ⟨o, h2, hc⟩ ?_)
  rw [if_pos (by rw [show (Value.type "tuple" == Value.type "tuple") = true from rfl]; simp)]
  refine wpAny_bind (listItems_at h2 hd ?_)
  refine wpAny_bind (listItems_at (xs := #[]) (n := 0) (Heap.get?_push_size _ rfl) rfl ?_)
  rw [if_neg (by simp)]
  refine wpAny_bind (listUpdate_at (xs := #[]) (n := 0) (Heap.get?_push_size _ rfl) rfl ?_ (Nat.zero_le _) (by show (#[] ++ vs.toArray).size ≤ sizeLine + 1; simp only [Array.size_append, List.size_toArray, List.length_nil]; omega))
  refine wpAny_pure ?_
  show wpAny (model prog w) A (do
      let o ← load s.heap.objs.size
      match o.data with
      | .seq xs _ => pure xs.toList
      | _ => unsupported "internal:collect") Q E { s with heap := (s.heap.push (seqObj "list" #[] 0)).update s.heap.objs.size (Obj.mapSeq (· ++ vs.toArray)) }
  refine wpAny_bind (wpAny_load (get?_update_seq (Heap.get?_push_size _ rfl) _) ?_)
  show wpAny _ _ (pure ((#[] : Array Value) ++ vs.toArray).toList) Q E _
  rw [show ((#[] : Array Value) ++ vs.toArray).toList = vs by simp]
  exact wpAny_pure h
/-- sorted(x), x's items gathered -/
theorem sorted_seq {κ : PyProof.Rows.KeyKind} {l : Addr} {vs : List Value} {Q : Value → Shared → Prop} (hl : s.heap.IsList l vs.toArray ∨ s.heap.IsTuple l vs.toArray) (S : PySem.W.SortsAt prog w A.in1.in1 { s with heap := PySem.W.sortingHeap (PySem.W.copyHeap s.heap vs) (s.heap.objs.size + 1) vs } κ vs) (hL : vs.length ≤ sizeLine)
    (h : Q (.ref (s.heap.objs.size + 1)) { s with heap := sortedAll s.heap vs (PySem.W.sortVals κ false vs vs).toArray }) : wpAny (model prog w) A (call (.builtin "sorted") [.ref l]) Q E s := by
  refine PyProof.Rows.call_function_entry_kw kind_sorted plain_sorted entry_sorted (args_sorted1 _) ?_
  unfold Builtin.«sorted»
  refine wpAny_bind (m := checkCount "sorted" 1 1 _) (wpAny_pure ?_)
  have col : ∀ {Q' : List Value → Shared → Prop} {E' : Value → Shared → Prop}, Q' vs { s with heap := (s.heap.push (seqObj "list" #[] 0)).update s.heap.objs.size (Obj.mapSeq (· ++ vs.toArray)) } → wpAny (model prog w) A.in1 (collect (.ref l)) Q' E' s := fun q => by
    rcases hl with hl | hl
    · exact collect_list hl q hL
    · exact gather_tuple hl q hL
  refine wpAny_bind (col ?_)
  refine wpAny_bind (wpAny_newList ?_ hL)
  have hsz : ((s.heap.push (seqObj "list" #[] 0)).update s.heap.objs.size (Obj.mapSeq (· ++ vs.toArray))).objs.size = s.heap.objs.size + 1 := by
    rw [Heap.size_update]; exact Heap.size_push ..
  show wpAny _ _ _ _ _ { s with heap := PySem.W.copyHeap s.heap vs }
  rw [hsz]
  refine wpAny_bind (wpAny_holding (PyProof.Rows.wpAny_call_entry_kw slot_list_sort ⟨_, PySem.W.copyHeap_at s.heap vs, rfl⟩ entry_list_sort ?body (args_list_sort _)))
  case body =>
    show wpAny (model prog w) A.in1.in1 (Builtin.«list.sort» ⟨[.ref (s.heap.objs.size + 1)], []⟩) _ _ _
    refine wpAny_mono (PySem.W.list_sort_vals (P := fun f s' => f = .done (.ret .none) ∧ Q (.ref (s.heap.objs.size + 1)) s') (s := { s with heap := PySem.W.copyHeap s.heap vs }) (PySem.W.copyHeap_at s.heap vs) S hL ⟨rfl, h⟩) (fun f s' hf => ?_) fun _ _ e => e
    obtain ⟨rfl, hq⟩ := hf
    exact ⟨_, rfl, wpAny_pure ⟨_, rfl, hq⟩⟩
end
theorem call_sortD {X : Cx} {k : Nat} (hr : Room k X.A) : CallR X (.builtin "sorted") (rSortD X.K) := by
  intro pins s σ H xs us Q I r h
  obtain ⟨a, vs, ds, rfl, hs, hd, hk, q⟩ := h
  obtain ⟨u, rfl, rx⟩ := vals1 r
  cases rx
  obtain ⟨its, rv, hl, hz⟩ : ∃ its : List Value, Vals vs its ∧ (s.heap.IsList a its.toArray ∨ s.heap.IsTuple a its.toArray) ∧ vs.length ≤ sizeLine := by
    rcases hs with hs | hs
    · obtain ⟨its, rv, hl, hz⟩ := I.list hs
      exact ⟨its, rv, .inl hl.isList, hz⟩
    · obtain ⟨its, rv, hl, hz⟩ := I.tuple hs
      exact ⟨its, rv, .inr hl, hz⟩
  have er := each_reads I hd rv
  have hlen := dpAll_len hd
  have hzl : (vs.zip ds).length = vs.length := by rw [List.length_zip]; omega
  have hmap : (vs.zip ds).map (·.2) = ds := List.map_snd_zip (by omega)
  have hun := hr.un
  have eR : PySem.W.EachIs (fun u (p : V × D) => RelV p.1 u) its (vs.zip ds) := er.mono fun _ _ h => h.1
  have eD : PySem.W.EachIs (fun u (p : V × D) => ∃ as, Reads s.heap u p.2 as) its (vs.zip ds) := er.mono fun _ _ h => h.2
  have fin : ∀ out : List Value, PySem.W.EachIs (fun u (p : V × D) => RelV p.1 u) out ((vs.zip ds).mergeSort (PySem.W.dataLe false fun p => p.2)) → EP X pins σ Q (.ref (s.heap.objs.size + 1)) { s with heap := sortedAll s.heap its (List.toArray out) } := fun out eo => by
    obtain ⟨c, hc⟩ := sortedAll_at s.heap its out.toArray
    have hol : (((vs.zip ds).mergeSort leP).map (·.1)).length ≤ sizeLine := by rw [List.length_map, List.length_mergeSort, hzl]; exact hz
    refine ⟨.ref (s.heap.objs.size + 1), upd H (s.heap.objs.size + 1) (.lst (((vs.zip ds).mergeSort leP).map (·.1))), I.laid (t' := s.toks) (fun _ _ => sortedAll_old) (Nat.le_succ _) (show ObjOk X.prog X.w _ _ _ (.lst _) from ⟨hol, out, c, each_vals eo, hc⟩), rfl, q _ (I.hok.fresh (Nat.le_succ _))⟩
  have er' : PySem.W.EachIs (fun v (b : V × D) => ∃ as, Reads (PySem.W.sortingHeap (PySem.W.copyHeap s.heap its) (s.heap.objs.size + 1) its) v b.2 as) its (vs.zip ds) := eD.mono fun _ _ ⟨as, r⟩ => ⟨as, PyProof.Rows.Reads.keeps (fun _ _ => PySem.W.sorting_copy_old) r⟩
  rcases hk with hk | hk
  · obtain ⟨k1, k2, k3⟩ := sortOk_of hk
    have hal : PySem.W.AllAlike ((vs.zip ds).map fun p : V × D => p.2) := by rw [hmap]; exact k1
    refine sorted_seq hl (PySem.W.SortsAt.data (s := { s with heap := PySem.W.sortingHeap (PySem.W.copyHeap s.heap its) (s.heap.objs.size + 1) its }) (PySem.W.each_map (R := fun v d => ∃ as, Reads (PySem.W.sortingHeap (PySem.W.copyHeap s.heap its) (s.heap.objs.size + 1) its) v d as) (fun p : V × D => p.2) er') hal (by rw [hmap]; exact k2) (PySem.W.bound_map fun b hb => ?_)) (by rw [← rv.length]; exact hz) (fin _ (PySem.W.sortVals_data (enc := fun p : V × D => p.2) false eR er' hal))
    have := k3 b.2 (by rw [← hmap]; exact List.mem_map_of_mem hb)
    show X.A.units + 1 + 1 + _ < cLine
    omega
  · have hal : PySem.W.AllAlike ((vs.zip ds).map fun p : V × D => p.2) := by
      rw [hmap]
      exact oneOk_al hk
    refine sorted_seq hl (sortsAt_one (s := { s with heap := PySem.W.sortingHeap (PySem.W.copyHeap s.heap its) (s.heap.objs.size + 1) its }) (ds := (vs.zip ds).map fun p : V × D => p.2) (PySem.W.each_map (R := fun v d => ∃ as, Reads (PySem.W.sortingHeap (PySem.W.copyHeap s.heap its) (s.heap.objs.size + 1) its) v d as) _ er') (by rw [hmap]; exact hk) (show X.A.units + 1 + 1 + 64 < cLine by omega)) (by rw [← rv.length]; exact hz) ?_
    exact fin _ (PySem.W.sortVals_data (enc := fun p : V × D => p.2) false eR er' hal)
def sortedD : List D → M D
  | [.list xs] => if sortOk xs || oneOk xs then .ret (.list (sortL xs)) else .bad
  | [.tuple xs] => if sortOk xs || oneOk xs then .ret (.list (sortL xs)) else .bad
  | _ => .bad
theorem rpAll_zip {K : PySem.W.Frag} {H : Hp} : ∀ {vs : List V} {ds : List D}, RpAll K H vs ds → ∀ p ∈ vs.zip ds, Rp K H p.1 p.2
  | _, _, .nil => fun p hp => nomatch hp
  | _, _, .cons h1 h2 => fun p hp => by
    rw [List.zip_cons_cons] at hp
    rcases List.mem_cons.mp hp with rfl | hp
    · exact h1
    · exact rpAll_zip h2 p hp
theorem rpAll_of {K : PySem.W.Frag} {H : Hp} : ∀ {zs : List (V × D)}, (∀ p ∈ zs, Rp K H p.1 p.2) → RpAll K H (zs.map (·.1)) (zs.map (·.2))
  | [], _ => .nil
  | z :: zs, h => .cons (h z List.mem_cons_self) (rpAll_of fun p hp => h p (List.mem_cons_of_mem _ hp))
theorem n_sorted {K : PySem.W.Frag} : CallN K (rSortD K) sortedD := by
  intro vs H F ds Q f hs w
  unfold sortedD at w
  have fin : ∀ {xs' : List D} {us : List V}, RpAll K F us xs' → ∀ p, H p = none → M.wp (.ret (PyData.list (sortL xs'))) (fun u => ∀ us a rs, u = PyData.list us → H a = none → RpAll K F rs us → Q (.ref a) (upd H a (.lst rs))) noE → Q (.ref p) (upd H p (.lst (((us.zip xs').mergeSort leP).map (·.1)))) := fun {xs' us} r1 p hp w => by
    have hlen := rpAll_len r1
    refine w _ p _ rfl hp ?_
    have hr := rpAll_of (zs := (us.zip _).mergeSort leP) fun p hp => rpAll_zip r1 p ((List.mergeSort_perm _ _).mem_iff.mp hp)
    have e : ((us.zip xs').mergeSort leP).map (fun x => x.2) = sortL xs' := by
      rw [sortL_eq, PySem.W.sort_maps (r := leP) (s := leD2) (fun x : V × D => x.2) (fun _ _ _ _ => rfl), List.map_snd_zip (by omega)]
    rw [e] at hr
    exact hr
  split at w
  · split at w
    · rename_i xs' hk
      rw [Bool.or_eq_true] at hk
      cases hs with
      | cons h1 h2 =>
        cases h2
        obtain ⟨a, us, rfl, t1, r1⟩ := h1.list f
        exact ⟨a, us, _, rfl, .inl (SqL.of t1), (rpAll_mono f r1).dp, hk, fun p hp => fin r1 p hp w⟩
    · exact w.elim
  · split at w
    · rename_i xs' hk
      rw [Bool.or_eq_true] at hk
      cases hs with
      | cons h1 h2 =>
        cases h2
        obtain ⟨a, us, rfl, t1, _, r1⟩ := h1.tup f
        exact ⟨a, us, _, rfl, .inr t1, (rpAll_mono f r1).dp, hk, fun p hp => fin r1 p hp w⟩
    · exact w.elim
  · exact w.elim

/-! ### x.index(y), x a looked-at list -/
def idxD (d : D) : Nat → List D → Option Nat
  | _, [] => none
  | i, x :: r => if PyData.eqv x d then some i else idxD d (i + 1) r
theorem idxD_at {d : D} : ∀ {xs : List D} {i j : Nat}, idxD d i xs = some j → ∃ m z, j = i + m ∧ xs[m]? = some z ∧ PyData.eqv z d = true ∧ ∀ n z', n < m → xs[n]? = some z' → PyData.eqv z' d = false
  | [], _, _, h => nomatch h
  | x :: r, i, j, h => by
    unfold idxD at h
    split at h
    · rename_i e
      cases h
      exact ⟨0, x, rfl, rfl, e, fun n z' hn => absurd hn (Nat.not_lt_zero _)⟩
    · rename_i e
      obtain ⟨m, z, e1, e2, e3, e4⟩ := idxD_at h
      refine ⟨m + 1, z, by omega, by simpa using e2, e3, fun n z' hn hz => ?_⟩
      cases n with
      | zero =>
        simp only [List.getElem?_cons_zero, Option.some.injEq] at hz
        subst hz
        simpa using e
      | succ n => exact e4 n z' (by omega) (by simpa using hz)
def eIndex (f g : En → M D) : En → M D := fun ρ => (f ρ).bind fun x => (g ρ).bind fun d => match x with
  | .list xs => if SeqAt.shaped (.list xs) && SeqAt.shaped d then match idxD d 0 xs with
    | some j => .ret (.int (j : Nat))
    | none => .bad
    else .bad
  | _ => .bad
theorem de_index {X : Cx} {o : Own} {a b : Expr} {fa fb : En → M D} {ta tb : TE} {apos cpos : Pos} (ha : DB X o a fa ta) (hb : DB X o b fb tb)
    (hp : PE X (.Call (.Attribute a "index" apos) [b] [] cpos) (tBM X.K "list" (rIndexD X.K) ta (tCons tb tNil))) : DE X o (.Call (.Attribute a "index" apos) [b] [] cpos) (eIndex fa fb) (tBM X.K "list" (rIndexD X.K) ta (tCons tb tNil)) := by
  refine ⟨hp, fun y σ H ρ F Q s w => ha.q y σ H ρ F _ s (M.wp_mono (fun d k v H1 F1 s1 e1 h1 => ?_) (fun _ z => z) (M.wp_bind.mp w))⟩
  have hl : ∃ xs, d = .list xs := by
    obtain ⟨e, he⟩ := wp_some (M.wp_bind.mp k)
    cases d with
    | list xs => exact ⟨xs, rfl⟩
    | _ => exact he.elim
  obtain ⟨xs, rfl⟩ := hl
  obtain ⟨p, vs, rfl, hH, _⟩ := h1.list s1
  refine ⟨.inl ⟨rfl, _, SqL.of hH⟩, ?_⟩
  refine hb.q y σ H1 ρ F1 _ s1 (M.wp_mono (fun e k v2 H2 F2 s2 e2 h2 => ?_) (fun _ z => z) (M.wp_bind.mp k))
  have k : (if SeqAt.shaped (.list xs) && SeqAt.shaped e then match idxD e 0 xs with
    | some j => M.ret (PyData.int (j : Nat))
    | none => M.bad
    else .bad).wp (fun d => ∀ v H' F', SR X.K y o σ H' ρ F' → Same F F' → Rp X.K F' v d → Q v H') noE := k
  by_cases hk : (SeqAt.shaped (.list xs) && SeqAt.shaped e) = true
  · rw [if_pos hk] at k
    simp only [Bool.and_eq_true] at hk
    split at k
    · rename_i j hj
      obtain ⟨m, z, q1, q2, q3, q4⟩ := idxD_at hj
      have d1 := (RB.rp s2 (h1.mono e2)).dp
      have d2 := (RB.rp s2 h2).dp
      refine ⟨p, v2, e, xs, m, z, rfl, rfl, d1, d2, hk.1, hk.2, q2, q3, q4, ?_⟩
      have e0 : j = m := by omega
      subst e0
      exact k _ H2 F2 s2 (e1.trans e2) (.int _)
    · exact k.elim
  · rw [if_neg hk] at k
    exact k.elim
end DL

set_option Elab.async false
set_option linter.all false
set_option maxRecDepth 100000
set_option maxHeartbeats 4000000
/-! DK3: slices with a step. -/
namespace DL
open PySem PySem.Spec PyProof.Rows L2 HT

theorem vals_get {i : Nat} : ∀ {xs : List V} {us : List Value}, Vals xs us → (∃ x u, xs[i]? = some x ∧ us[i]? = some u ∧ RelV x u) ∨ (xs[i]? = none ∧ us[i]? = none) := fun {xs us} r => by
  induction r generalizing i with
  | nil => exact .inr ⟨by simp, by simp⟩
  | cons h t ih =>
    cases i with
    | zero => exact .inl ⟨_, _, rfl, rfl, h⟩
    | succ i => simpa using ih (i := i)
theorem vals_pick {xs : List V} {us : List Value} (r : Vals xs us) : ∀ is : List Nat, Vals (is.filterMap (xs[·]?)) (is.filterMap (us[·]?))
  | [] => .nil
  | i :: is => by
    rw [List.filterMap_cons, List.filterMap_cons]
    rcases vals_get (i := i) r with ⟨x, u, e1, e2, q⟩ | ⟨e1, e2⟩
    · rw [e1, e2]; exact .cons q (vals_pick r is)
    · rw [e1, e2]; exact vals_pick r is
theorem rp_pick {K : PySem.W.Frag} {H : Hp} {vs : List V} {ds : List D} (r : RpAll K H vs ds) : ∀ is : List Nat, RpAll K H (is.filterMap (vs[·]?)) (is.filterMap (ds[·]?))
  | [] => .nil
  | i :: is => by
    rw [List.filterMap_cons, List.filterMap_cons]
    cases e : ds[i]? with
    | none =>
      have h := List.getElem?_eq_none_iff.mp e
      rw [List.getElem?_eq_none (by rw [rpAll_len r]; exact h)]
      exact rp_pick r is
    | some d =>
      obtain ⟨v, e1, q⟩ := rpAll_get r e
      rw [e1]
      exact .cons q (rp_pick r is)
/-- the places of a list's slice -/
def placesL (n : Nat) (lo hi st : Option Int) : List Nat := sliceRange (sliceBounds lo hi st n).1 (sliceBounds lo hi st n).2.1 (sliceBounds lo hi st n).2.2
/-- of a tuple's -/
def placesT (n : Nat) (lo hi : Option Int) (st : Int) : List Nat := (List.range (Builtin.Slice.slicePlaces (Builtin.Slice.sliceAdjust lo hi st (n : Int)).1 (Builtin.Slice.sliceAdjust lo hi st (n : Int)).2 st)).map fun (k : Nat) => ((Builtin.Slice.sliceAdjust lo hi st (n : Int)).1 + (k : Int) * st).toNat
section
variable {prog : Program} {w : World} {A : Around} {E : Value → Shared → Prop} {s : Shared}
theorem sliceApplied_st {sl : Addr} {vl vu vs : Value} {lo hi : Option Int} {st : Int} {n : Nat} {Q : Int × Int × Nat → Shared → Prop} (hs : s.heap.IsSliceOf sl vl vu vs) (pl : IsPart vl lo) (pu : IsPart vu hi) (ps : IsPart vs (some st)) (h0 : st ≠ 0)
    (h : Q ((Builtin.Slice.sliceAdjust lo hi st (n : Int)).1, st, Builtin.Slice.slicePlaces (Builtin.Slice.sliceAdjust lo hi st (n : Int)).1 (Builtin.Slice.sliceAdjust lo hi st (n : Int)).2 st) s) : wpAny (model prog w) A (Builtin.Slice.sliceApplied (.ref sl) (pure (n : Int))) Q E s := by
  obtain ⟨os, hos, hcs, hds⟩ := id hs
  unfold Builtin.Slice.sliceApplied Builtin.Slice.sliceFields
  refine wpAny_bind (wpAny_bind (wpAny_field hos hds (x := vl) rfl (wpAny_bind (wpAny_field hos hds (x := vu) rfl (wpAny_bind (wpAny_field hos hds (x := vs) rfl (wpAny_pure ?_)))))))
  refine wpAny_bind (slicePart_ ps ?_)
  show wpAny _ _ (if (st == 0) = true then _ else _) _ _ s
  rw [if_neg (by simpa using h0)]
  refine wpAny_bind (slicePart_ pl (wpAny_bind (slicePart_ pu (wpAny_bind (wpAny_pure ?_)))))
  exact wpAny_pure h
theorem getItem_tuple_st {t sl : Addr} {items : Array Value} {vl vu vs : Value} {lo hi : Option Int} {st : Int} {Q : Value → Shared → Prop} (ht : IsTup s.heap t items) (hs : s.heap.IsSliceOf sl vl vu vs) (pl : IsPart vl lo) (pu : IsPart vu hi) (ps : IsPart vs (some st)) (h0 : st ≠ 0) (h1 : st ≠ 1)
    (h : Q (.ref s.heap.objs.size) { s with heap := s.heap.push { cls := .type "tuple", data := .seq ((placesT items.size lo hi st).filterMap (items.toList[·]?)).toArray } })
    (hsz : ((placesT items.size lo hi st).filterMap (items.toList[·]?)).length ≤ sizeLine) : wpAny (model prog w) A (getItem (.ref t) (.ref sl)) Q E s := by
  have htake : sizeOk (.seq ((placesT items.size lo hi st).filterMap (items.toList[·]?)).toArray) := by
    show ((placesT items.size lo hi st).filterMap (items.toList[·]?)).toArray.size ≤ sizeLine
    rw [List.size_toArray]; exact hsz
  obtain ⟨os, hos, hcs, hds⟩ := id hs
  have hTs : s.TypeIs (.ref sl) "slice" := ⟨os, hos, hcs⟩
  unfold getItem
  try with_reducible refine wpAny_holding ?_
  first | refine wpAny_bind (wpAny_pure ?_) | skip
  refine wpAny_bind (wpAny_sequenceKey ht.typeIs (by decide) ?_)
  refine wpAny_bind (wpAny_callSpecial?_slot (name := Str.ofString "__getitem__") ht.typeIs PyProof.Rows.slot_tuple_getitem
    (wpAny_call_entry PyProof.Rows.slot_tuple_getitem ht.typeIs entry_tuple_getitem ?_ (args_tuple_getitem _ _)))
  show wpAny _ _ (Builtin.Tuple.tupleItemsOf (.ref t) >>= _) _ _ s
  refine wpAny_bind (tupleItemsOf_ ht ?_)
  refine wpAny_bind (wpAny_typeOf hTs ?_)
  rw [if_pos (by decide)]
  refine wpAny_bind (sliceApplied_st hs pl pu ps h0 ?_)
  show wpAny _ _ (if ((Builtin.Slice.sliceAdjust lo hi st (items.size : Int)).1 == 0 && st == 1 && (Builtin.Slice.slicePlaces (Builtin.Slice.sliceAdjust lo hi st (items.size : Int)).1 (Builtin.Slice.sliceAdjust lo hi st (items.size : Int)).2 st) == items.size) = true then _ else _) _ _ s
  have hno : ¬ (((Builtin.Slice.sliceAdjust lo hi st (items.size : Int)).1 == 0 && st == 1 && (Builtin.Slice.slicePlaces (Builtin.Slice.sliceAdjust lo hi st (items.size : Int)).1 (Builtin.Slice.sliceAdjust lo hi st (items.size : Int)).2 st) == items.size) = true) := by
    intro q
    rw [Bool.and_eq_true, Bool.and_eq_true] at q
    exact h1 (eq_of_beq q.1.2)
  rw [if_neg hno]
  have e : ((List.range (Builtin.Slice.slicePlaces (Builtin.Slice.sliceAdjust lo hi st (items.size : Int)).1 (Builtin.Slice.sliceAdjust lo hi st (items.size : Int)).2 st)).filterMap fun (k : Nat) => items[((Builtin.Slice.sliceAdjust lo hi st (items.size : Int)).1 + (k : Int) * st).toNat]?).toArray = ((placesT items.size lo hi st).filterMap (items.toList[·]?)).toArray := by
    unfold placesT
    rw [List.filterMap_map]
    congr 2
    funext k
    simp
  rw [e]
  first
    | exact wpAny_bind (m := Builtin.Tuple.tupleExact _) (wpAny_newObj_type (wpAny_pure ⟨_, rfl, wpAny_pure h⟩) htake)
    | exact wpAny_bind (m := Builtin.Tuple.tupleExact _) (wpAny_newObj_type (wpAny_bind (wpAny_pure (wpAny_pure ⟨_, rfl, wpAny_pure h⟩))) htake)
    | exact wpAny_bind (wpAny_bind (m := Builtin.Tuple.tupleExact _) (wpAny_newObj_type (wpAny_pure (wpAny_pure ⟨_, rfl, wpAny_pure h⟩)) htake))
    | exact wpAny_bind (wpAny_bind (m := Builtin.Tuple.tupleExact _) (wpAny_newObj_type (wpAny_pure ⟨_, rfl, wpAny_pure h⟩) htake))
end
def stepL (xs : List α) (lo hi : Option Int) (st : Int) : List α := (placesL xs.length lo hi (some st)).filterMap (xs[·]?)
def stepT (xs : List α) (lo hi : Option Int) (st : Int) : List α := (placesT xs.length lo hi st).filterMap (xs[·]?)
def tSt (K : PySem.W.Frag) (te : TE) (tl th ts : TO) : TE := fun σ H Q => te σ H fun x H1 => tl σ H1 fun l H2 => th σ H2 fun u H3 => ts σ H3 fun k H4 => ∃ st, k = some st ∧ st ≠ 0 ∧ st ≠ 1 ∧
  ((∃ a xs, x = .ref a ∧ SqL K H4 a xs ∧ ∀ p, H4 p = none → Q (.ref p) (upd H4 p (.lst (stepL xs l u st)))) ∨
   (∃ a xs, x = .ref a ∧ SqT K H4 a xs ∧ (stepT xs l u st).length ≤ sizeLine ∧ ∀ p, H4 p = none → Q (.ref p) (upd H4 p (.tup (stepT xs l u st)))))
section
variable {X : Cx} {o : Own} {e : Expr} {te : TE} {lo hi : Option Expr} {st : Expr} {tl th ts : TO} {pos p2 : Pos}
theorem pe_step (he : PE X e te) (hl : PO X lo tl) (hu : PO X hi th) (hst : PO X (some st) ts) : PE X (.Subscript e (.Slice lo hi (some st) p2) pos) (tSt X.K te tl th ts) := by
  refine ⟨fun pins s σ H Q I h => ?_⟩
  refine Subscript_ (thn (he.run pins s σ H _ I h) fun v s1 ⟨x, H1, I1, r1, q1⟩ => ?_)
  refine wpAny_Slice (thn (hl.run pins s1 σ H1 _ I1 q1) fun vl s2 ⟨l, H2, I2, pl, q2⟩ => thn (hu.run pins s2 σ H2 _ I2 q2) fun vu s3 ⟨u, H3, I3, pu, q3⟩ => thn (hst.run pins s3 σ H3 _ I3 q3) fun vs s4 ⟨k, H4, I4, ps, q4⟩ => ?_)
  obtain ⟨stp, rfl, n0, n1, q⟩ := q4
  have I5 : Inv X pins σ H4 { s4 with heap := s4.heap.push { cls := .type "slice", data := .fields #[vl, vu, vs] } } := I4.kept (t' := s4.toks) fun b ob q => Heap.get?_push_of_some _ q
  rcases q with ⟨a, xs, rfl, hx, q⟩ | ⟨a, xs, rfl, hx, hz2, q⟩
  · cases r1
    obtain ⟨its, r, ht, hz⟩ := I5.list hx
    have hlen := r.length
    show wpAny (model X.prog X.w) X.A (subscriptTail e (.Slice lo hi (some st) p2) (.ref a) (.ref s4.heap.objs.size)) (EP X pins σ Q) X.xe { s4 with heap := s4.heap.push { cls := .type "slice", data := .fields #[vl, vu, vs] } }
    refine tail_any (ops := [.ref a, .ref s4.heap.objs.size]) ht.isList.typeIs (PySem.slot_list_getitem.lookup) ?_ (by with_unfolding_all rfl)
    refine wpAny_getItem_list_slice ht.isList (Heap.IsSliceOf.new _ vl vu vs) pl pu ps (by simpa using n0) ?_ (by rw [List.size_toArray]; omega)
    have e1 : slicePick its.toArray l u (some stp) = ((placesL xs.length l u (some stp)).filterMap (its[·]?)).toArray := by
      unfold slicePick placesL
      simp [hlen]
    rw [e1]
    have hv : Vals (stepL xs l u stp) ((placesL xs.length l u (some stp)).filterMap (its[·]?)) := vals_pick r _
    refine ⟨.ref _, _, I5.laid (t' := s4.toks) (o := .lst (stepL xs l u stp)) (fun b ob q => Heap.get?_push_of_some _ q) (Nat.le_refl _) ?_, rfl, q _ (I5.hok.fresh (Nat.le_refl _))⟩
    refine ⟨?_, _, 0, hv, Heap.get?_push_size _ rfl⟩
    have := slicePick_size_le its.toArray l u (some stp)
    rw [e1, List.size_toArray, List.size_toArray, ← hv.length] at this
    omega
  · cases r1
    obtain ⟨its, r, ht, hz⟩ := I5.tuple hx
    have hlen := r.length
    show wpAny (model X.prog X.w) X.A (subscriptTail e (.Slice lo hi (some st) p2) (.ref a) (.ref s4.heap.objs.size)) (EP X pins σ Q) X.xe { s4 with heap := s4.heap.push { cls := .type "slice", data := .fields #[vl, vu, vs] } }
    have hv : Vals (stepT xs l u stp) ((placesT xs.length l u stp).filterMap (its[·]?)) := vals_pick r _
    refine tail_any (ops := [.ref a, .ref s4.heap.objs.size]) ht.typeIs (PyProof.Rows.slot_tuple_getitem.lookup) ?_ (by with_unfolding_all rfl)
    refine getItem_tuple_st ht (Heap.IsSliceOf.new _ vl vu vs) pl pu ps n0 n1 ?_ (by rw [List.size_toArray, ← hlen]; rw [hv.length] at hz2; exact hz2)
    have e1 : ((placesT its.toArray.size l u stp).filterMap (its.toArray.toList[·]?)) = (placesT xs.length l u stp).filterMap (its[·]?) := by
      rw [List.size_toArray, ← hlen]
    rw [e1]
    refine ⟨.ref _, _, I5.laid (t' := s4.toks) (o := .tup (stepT xs l u stp)) (fun b ob q => Heap.get?_push_of_some _ q) (Nat.le_refl _) ?_, rfl, q _ (I5.hok.fresh (Nat.le_refl _))⟩
    exact ⟨hz2, _, hv, IsTup.new _ _⟩
def stD (d : D) (lo hi : Option Int) (st : Int) : M D := match d with
  | .list xs => .ret (.list (stepL xs lo hi st))
  | .tuple xs => if (stepT xs lo hi st).length ≤ sizeLine then .ret (.tuple (stepT xs lo hi st)) else .bad
  | _ => .bad
def eSt (f : En → M D) (l h k : En → M (Option Int)) : En → M D := fun ρ => (f ρ).bind fun d => (l ρ).bind fun lo => (h ρ).bind fun hi => (k ρ).bind fun st => match st with
  | some i => if i == 0 || i == 1 then .bad else stD d lo hi i
  | none => .bad
theorem de_step {f : En → M D} {fl fh fk : En → M (Option Int)} (h : DB X o e f te) (h1 : DPart X o lo fl tl) (h2 : DPart X o hi fh th) (h3 : DPart X o (some st) fk ts) : DE X o (.Subscript e (.Slice lo hi (some st) p2) pos) (eSt f fl fh fk) (tSt X.K te tl th ts) := by
  refine ⟨pe_step h.p h1.p h2.p h3.p, fun y σ H ρ F Q s w => h.q y σ H ρ F _ s (M.wp_mono (fun d k v H' F' s' e' hd => ?_) (fun _ z => z) (M.wp_bind.mp w))⟩
  refine h1.q y σ H' ρ F' _ s' (M.wp_mono (fun l k H1 F1 s1 e1 => ?_) (fun _ z => z) (M.wp_bind.mp k))
  refine h2.q y σ H1 ρ F1 _ s1 (M.wp_mono (fun u k H2 F2 s2 e2 => ?_) (fun _ z => z) (M.wp_bind.mp k))
  refine h3.q y σ H2 ρ F2 _ s2 (M.wp_mono (fun stp k H3 F3 s3 e3 => ?_) (fun _ z => z) (M.wp_bind.mp k))
  have sh := RB.sh s3 (hd.mono ((e1.trans e2).trans e3))
  have ee := e'.trans ((e1.trans e2).trans e3)
  cases stp with
  | none => exact k.elim
  | some i =>
    have k : (if i == 0 || i == 1 then .bad else stD d l u i : M D).wp (fun d => ∀ v H' F', SR X.K y o σ H' ρ F' → Same F F' → Rp X.K F' v d → Q v H') noE := k
    by_cases hi : (i == 0 || i == 1) = true
    · rw [if_pos hi] at k; exact k.elim
    · rw [if_neg hi] at k
      simp only [Bool.or_eq_true, beq_iff_eq, not_or] at hi
      refine ⟨i, rfl, hi.1, hi.2, ?_⟩
      cases d with
      | list xs =>
        obtain ⟨a, vs, rfl, t1, r1⟩ := sh.list s3.fz
        refine .inl ⟨a, vs, rfl, SqL.of t1, fun p hp => ?_⟩
        have x := ext_new (o := .lst (stepL vs l u i)) s3.fz hp
        have r2 : RpAll X.K F3 (stepL vs l u i) (stepL xs l u i) := by
          unfold stepL
          rw [rpAll_len r1]
          exact rp_pick r1 _
        exact k _ _ _ (s3.ext x) (ee.trans x.f) (rp_newL (s3.fz.free hp) r2)
      | tuple xs =>
        have k : (if (stepT xs l u i).length ≤ sizeLine then .ret (.tuple (stepT xs l u i)) else .bad : M D).wp (fun d => ∀ v H' F', SR X.K y o σ H' ρ F' → Same F F' → Rp X.K F' v d → Q v H') noE := k
        split at k
        · rename_i hz
          obtain ⟨a, vs, rfl, t1, t1', r1⟩ := sh.tup s3.fz
          have r2 : RpAll X.K F3 (stepT vs l u i) (stepT xs l u i) := by
            unfold stepT
            rw [rpAll_len r1]
            exact rp_pick r1 _
          refine .inr ⟨a, vs, rfl, t1, by rw [rpAll_len r2]; exact hz, fun p hp => ?_⟩
          have x := ext_new (o := .tup (stepT vs l u i)) s3.fz hp
          exact k _ _ _ (s3.ext x) (ee.trans x.f) (rp_newT (s3.fz.free hp) r2)
        · exact k.elim
      | _ => exact k.elim
end
end DL

set_option Elab.async false
set_option linter.all false
set_option maxRecDepth 100000
set_option maxHeartbeats 4000000
/-! DK4: what is walked: enumerate, zip, range with a step. -/
namespace DL
open PySem PySem.Spec PyProof.Rows L2

/-! ### enumerate of a tuple -/
theorem meets_enum1 {v : Value} {o : Obj} {H : Heap → Prop} (B : PySem.Begins v o H) :
    Meets (Builtin.«enumerate.__new__» ⟨[.type "enumerate", v], []⟩) (fun _ R s => H s.heap ∧
      R (.ok (.ret (.ref (s.heap.push o).objs.size))) { s with heap := (s.heap.push o).push { cls := .type "enumerate", data := .fields #[.none, .bool false, .ref s.heap.objs.size, rawInt 0, .none, .none] } }) :=
  .of_wp fun prog w A R s h => by
    obtain ⟨hp, g, d, tk, os⟩ := s; obtain ⟨h1, h⟩ := h
    have hsub := sub_enumerate
    have q1 : ∀ {A' : Around} {E : Value → Shared → Prop} {Q : Value → Shared → Prop}, Q (.ref hp.objs.size) ⟨hp.push o, g, d, tk, os⟩ → wpAny (model prog w) A' (pyIter v) Q E ⟨hp, g, d, tk, os⟩ :=
      fun q => B.iter prog w _ _ ⟨hp, g, d, tk, os⟩ _ h1 q
    wp_walk using q1
    refine wpAny_stack_any fun st => wpAny_pure ?_
    split
    · rename_i c _ _ _ _ _
      cases (c == Value.type "enumerate")
      · wp_walk using q1
        exact ⟨_, rfl, h⟩
      · wp_walk using q1
        exact ⟨_, rfl, h⟩
    · wp_walk using q1
      exact ⟨_, rfl, h⟩
section
variable {prog : Program} {w : World} {A : Around} {E : Value → Shared → Prop} {s : Shared}
theorem enum_begins1 {v : Value} {o : Obj} {H : Heap → Prop} {Q : Value → Shared → Prop} (B : PySem.Begins v o H) (h1 : H s.heap)
    (h : ∀ h', IsEnum h' (s.heap.objs.size + 1) s.heap.objs.size 0 .none → h'.get? s.heap.objs.size = some o → h'.objs.size = s.heap.objs.size + 2 →
      (∀ b o, s.heap.get? b = some o → h'.get? b = some o) → Q (.ref (s.heap.objs.size + 1)) { s with heap := h' }) :
    wpAny (model prog w) A (call (.type "enumerate") [v]) Q E s := by
  refine callType_new F.called_enumerate (by decide) (F.typeCall_enumerate_1 _) (F.newCall_enumerate_1 _) (fun obj => F.args_object_init_2 obj _) F.entry_enumerate_new
    (meets_enum1 B) ⟨h1, ?_⟩
  have hz : (s.heap.push o).objs.size = s.heap.objs.size + 1 := Heap.size_push ..
  show _ ∧ _
  rw [hz]
  have he : IsEnum ((s.heap.push o).push { cls := .type "enumerate", data := .fields #[.none, .bool false, .ref s.heap.objs.size, rawInt 0, .none, .none] }) (s.heap.objs.size + 1) s.heap.objs.size 0 .none := by
    have := Heap.get?_push_size (s.heap.push o) (o := { cls := .type "enumerate", data := .fields #[.none, .bool false, .ref s.heap.objs.size, rawInt 0, .none, .none] }) rfl
    rw [hz] at this; exact this
  refine ⟨⟨_, he, rfl⟩, h _ he (Heap.get?_push_of_some _ (Heap.get?_push_size _ B.free)) (by rw [Heap.size_push, hz]) fun b o x => Heap.get?_push_of_some _ (Heap.get?_push_of_some _ x)⟩
end

theorem pyNext_enumT_end {prog : Program} {w : World} {A : Around} {E : Value → Shared → Prop} {s : Shared} {e it l : Addr} {i : Nat} {c : Int} {items : Array Value} {old : Value} {Q : Option Value → Shared → Prop} (hh : A.handled = none)
    (he : IsEnum s.heap e it c old) (hit : s.heap.IsTupleIter it l i) (hl : s.heap.IsTuple l items) (hx : items[i]? = none)
    (hQ : ∀ h', Heap.ExtBut it s.heap h' → Q none { s with heap := h' }) : wpAny (model prog w) A (pyNext (.ref e)) Q E s := by
  have hT : s.TypeIs (.ref e) "enumerate" := ⟨_, he, rfl⟩
  unfold pyNext
  refine wpAny_bind (wpAny_attempt (wpAny_callSpecial?_slot (name := Str.ofString "__next__") hT F.slot_enumerate_next
    (wpAny_call_entry F.slot_enumerate_next hT F.entry_enumerate_next ?_ (F.args_enumerate_next_1 _))))
  show wpAny _ _ (field (.ref e) 2 >>= _) _ _ _
  refine wpAny_bind (wpAny_field he rfl (x := .ref it) rfl ?_)
  refine wpAny_bind (wpAny_nextOf_tuple_end hh hit hl hx fun h' x he' hx' => ?_)
  obtain ⟨o, ho, hc⟩ := hx'
  refine wpAny_bind (wpAny_isInstance (T := "StopIteration") (b := true) ⟨o, ho, hc⟩ isSubtype_stop ?_)
  exact wpAny_pure (hQ _ he')

/-- the tuple at a, each item in a new pair -/
def Itet (K : PySem.W.Frag) (a : Addr) : It :=
  ⟨fun i H => ∃ (xs : List V) (x : V), SqT K H a xs ∧ xs[i]? = some x, fun i H v H' => ∃ T x, v = .ref T ∧ H T = none ∧ H' = upd H T (.tup [.int (i : Nat), x]) ∧ ∀ xs, SqT K H a xs → xs[i]? = some x, fun i H => ∃ xs : List V, SqT K H a xs ∧ xs.length ≤ i⟩
theorem turn_enumT {P : Program} {w : World} {K : PySem.W.Frag} {elts : List Expr} {kk : Nat} {tpos : Pos} (a e it : Addr) :
    Turn P w K (.Tuple elts kk tpos) (Itet K a) [e, it] e (fun i h => (∃ old, IsEnum h e it ((i : Nat) : Int) old) ∧ h.IsTupleIter it a i ∧ e ≠ it ∧ a ≠ it ∧ a ≠ e) where
  mem := by simp
  obj := fun i h st b hb => by
    obtain ⟨⟨old, he⟩, ⟨o, ho, hc, hd⟩, _⟩ := st
    have e' : b = e ∨ b = it := by simpa using hb
    rcases e' with z | z
    · rw [z]; exact ⟨_, he, fun v q => nomatch q⟩
    · rw [z]; exact ⟨o, ho, fun v q => by rw [hd] at q; cases q⟩
  keep := fun i h h' st k => let ⟨⟨old, he⟩, hi, hne⟩ := st; ⟨⟨old, k e (by simp) _ he⟩, hi.at fun o q => k it (by simp) o q, hne⟩
  item := by
    intro X hP hw hK hc i pins s σ H E I hf st hg
    subst hP hw hK
    obtain ⟨⟨old, he⟩, hit, hne, hai, hae⟩ := st
    obtain ⟨xs, x, hq, hx⟩ := hg
    obtain ⟨its, rv, p, hz⟩ := I.tuple hq
    obtain ⟨u, hu, ru⟩ := rv.get hx
    have hel : e < s.heap.objs.size := Heap.lt_size he
    have hil : it < s.heap.objs.size := by obtain ⟨_, q, _⟩ := hit; exact Heap.lt_size q
    have hlt : i < its.toArray.size := by
      have := (List.getElem?_eq_some_iff.mp hu).1
      simpa using this
    refine wpAny_pyNext_enum_itemD (Draws.tuple (A := X.A.in1) (I.ok.hd hc) it a hai its.toArray) he ⟨hit, p⟩ hlt hne (by simp [hne, Ne.symm hae]) fun u2 h' tk hP ho hit' hT hsz hk => ?_
    have hu2 : u2 = u := by
      have hP : its.toArray[i]? = some u2 := hP
      rw [List.getElem?_toArray, hu] at hP
      exact (Option.some.inj hP).symm
    subst hu2
    refine ⟨_, rfl, wpAny_letOwnedTupleGo_enum (s := { s with heap := h', toks := tk + 1 }) ho fun h'' he' sb => ?_⟩
    have hT2 : h''.get? s.heap.objs.size = some { cls := .type "tuple", data := .seq #[.int i tk, u2] } := (sb.2 _ (Nat.ne_of_gt hel)).trans hT
    have new : ObjOk X.prog X.w (upd H s.heap.objs.size (.tup [.int (i : Nat), x])) h'' s.heap.objs.size (.tup [.int (i : Nat), x]) :=
      ⟨by show 2 ≤ sizeLine; decide, [.int i tk, u2], .cons ⟨_, rfl⟩ (.cons ru .nil), ⟨_, hT2, rfl, _, rfl⟩⟩
    have I1 : Inv X pins σ (upd H s.heap.objs.size (.tup [.int (i : Nat), x])) { s with heap := h'', toks := tk + 1 } :=
      I.turnedNew (ch := [e, it]) (fun b ob hb q => (sb.2 b (fun z => hb (by simp [z]))).trans (hk b ob (fun z => hb (by simp [z])) (fun z => hb (by simp [z])) q)) hf (Nat.le_refl _) new
    refine ⟨.ref s.heap.objs.size, _, I1, rfl, ⟨_, x, rfl, I.hok.fresh (Nat.le_refl _), rfl, fun ys hy => by rw [I.tuple_inj hy hq]; exact hx⟩, ⟨⟨u2, ?_⟩, hit'.1.at fun o q => (sb.2 it (Ne.symm hne)).trans q, hne, hai, hae⟩, fun b hb => ?_⟩
    · have e1 : ((i + 1 : Nat) : Int) = (i : Int) + 1 := by omega
      rw [e1]; exact he'
    · have hb' : b < s.heap.objs.size := by
        have e' : b = e ∨ b = it := by simpa using hb
        rcases e' with z | z
        · rw [z]; exact hel
        · rw [z]; exact hil
      rw [upd_ne (Nat.ne_of_lt hb')]
      exact (hf b hb).1
  done := by
    intro X hP hw hK hc i pins s σ H E I hf st hg
    subst hP hw hK
    obtain ⟨⟨old, he⟩, hit, hne, hai, hae⟩ := st
    obtain ⟨xs, hq, hx⟩ := hg
    obtain ⟨its, rv, p, hz⟩ := I.tuple hq
    obtain ⟨f0, f1, f2, f3, f4, f5⟩ := hf it (by simp)
    have hl := rv.length
    exact pyNext_enumT_end (I.ok.hd hc) he hit p (by simp; omega) fun h' eb => ⟨rfl, I.turned (t' := s.toks) (fun b o hb q => eb b o hb q) f0 f1 f3 f4 f5⟩
  self := fun A i s Q E st h => let ⟨⟨_, he⟩, _⟩ := st; wpAny_pyIter_enum he h

def iEnumA (K : PySem.W.Frag) (ta : TA) : TI := fun σ H R => ta σ H fun vs H1 => ∃ a xs, vs = [.ref a] ∧ ((SqL K H1 a xs ∧ R (Ite K a) H1) ∨ (SqT K H1 a xs ∧ R (Itet K a) H1))
theorem pi_enumA {X : Cx} {e : Expr} {ta : TA} {p pos tpos : Pos} {elts : List Expr} {kk : Nat} (hg : Gl X "enumerate") (hm : X.mg "enumerate" = none) (ha : PA X [e] ta) (hs : starEach [e] X.env = [(false, eval e X.env)] := by rfl) :
    PI X (.Tuple elts kk tpos) (.Call (.Name "enumerate" p) [e] [] pos) (iEnumA X.K ta) := by
  refine ⟨fun pins s σ H R I h => ?_⟩
  refine Call_ (ld_blt I hg hm boot_enumerate (PyProof.Rows.callWith_type1 (thn (ha.run pos pins s σ H _ I h) fun us s1 ⟨vs, H1, I1, r1, q1⟩ => ?_) hs rfl))
  obtain ⟨a, xs, ex, q1⟩ := q1
  subst ex
  cases r1 with
  | cons r rr =>
    cases rr
    cases r
    rcases q1 with ⟨hq, q⟩ | ⟨hq, q⟩
    · obtain ⟨its, rv, p', hz⟩ := I1.list hq
      refine call_enumerate_list p'.isList fun h' he hit hsz hk => wpAny_pyIter_enum he ?_
      have I2 : Inv X pins σ H1 { s1 with heap := h' } := I1.kept (t' := s1.toks) hk
      refine ⟨s1.heap.objs.size + 1, [s1.heap.objs.size + 1, s1.heap.objs.size], _, _, H1, rfl, I2, turn_enum a (s1.heap.objs.size + 1) s1.heap.objs.size, ⟨⟨.none, he⟩, hit, Nat.succ_ne_self _⟩, fun b hb => ?_, q⟩
      have e' : b = s1.heap.objs.size + 1 ∨ b = s1.heap.objs.size := by simpa using hb
      have hle : s1.heap.objs.size ≤ b := by
        rcases e' with z | z
        · rw [z]; exact Nat.le_add_right _ _
        · rw [z]; exact Nat.le_refl _
      exact I1.fpOk hle (I1.hok.fresh hle)
    · obtain ⟨its, rv, p', hz⟩ := I1.tuple hq
      have hal : a < s1.heap.objs.size := by obtain ⟨o, ho, _⟩ := p'; exact Heap.lt_size ho
      refine enum_begins1 (PySem.begins_tuple a its.toArray) p' fun h' he hit hsz hk => wpAny_pyIter_enum he ?_
      have I2 : Inv X pins σ H1 { s1 with heap := h' } := I1.kept (t' := s1.toks) hk
      refine ⟨s1.heap.objs.size + 1, [s1.heap.objs.size + 1, s1.heap.objs.size], _, _, H1, rfl, I2, turn_enumT a (s1.heap.objs.size + 1) s1.heap.objs.size, ⟨⟨.none, he⟩, ⟨_, hit, rfl, rfl⟩, Nat.succ_ne_self _, Nat.ne_of_lt hal, Nat.ne_of_lt (Nat.lt_succ_of_lt hal)⟩, fun b hb => ?_, q⟩
      have e' : b = s1.heap.objs.size + 1 ∨ b = s1.heap.objs.size := by simpa using hb
      have hle : s1.heap.objs.size ≤ b := by
        rcases e' with z | z
        · rw [z]; exact Nat.le_add_right _ _
        · rw [z]; exact Nat.le_refl _
      exact I1.fpOk hle (I1.hok.fresh hle)
section
variable {X : Cx} {o : Own} {e e2 : Expr} {fs : En → M (List D)} {ta : TA} {p pos tpos : Pos} {elts : List Expr} {kk : Nat} {K : PySem.W.Frag} {F : Hp}
def enumFr (k : Nat) : List D → List D
  | [] => []
  | x :: r => .tuple [.int (k : Nat), x] :: enumFr (k + 1) r
theorem enumFr_len : ∀ {k : Nat} {xs : List D}, (enumFr k xs).length = xs.length
  | _, [] => rfl
  | _, _ :: _ => by simp only [enumFr, List.length_cons, enumFr_len]
theorem enumFr_get : ∀ {k i : Nat} {xs : List D} {d : D}, (enumFr k xs)[i]? = some d → ∃ x, xs[i]? = some x ∧ d = .tuple [.int ((k + i : Nat) : Int), x]
  | _, _, [], _, h => by simp [enumFr] at h
  | k, 0, x :: r, d, h => by
    simp only [enumFr, List.getElem?_cons_zero, Option.some.injEq] at h
    exact ⟨x, rfl, h.symm⟩
  | k, i + 1, x :: r, d, h => by
    simp only [enumFr, List.getElem?_cons_succ] at h
    obtain ⟨x', e1, e2⟩ := enumFr_get h
    exact ⟨x', by simpa using e1, by rw [e2]; congr 3; omega⟩
theorem pair_ext {y : Y} {σ : Sl} {H Fc : Hp} {ρ : En} {T : Addr} {v1 v2 : V} {d1 d2 : D} (s : SR K y o σ H ρ Fc) (hT : H T = none) (h1 : Rp K Fc v1 d1) (h2 : Rp K Fc v2 d2) :
    ∃ F', Ext Fc H F' (upd H T (.tup [v1, v2])) ∧ Rp K F' (.ref T) (.tuple [d1, d2]) := by
  have x := ext_new (o := .tup [v1, v2]) s.fz hT
  exact ⟨_, x, rp_newT (s.fz.free hT) (.cons h1 (.cons h2 .nil))⟩
theorem its_enumL {a : Addr} {vs : List V} {ds : List D} {st : List Nat} {σ0 : Sl} {ρ0 : En} (hF : F a = some (.lst vs)) (r : RpAll K F vs ds) : ItS K o st σ0 ρ0 (Ite K a) F (enumFr 0 ds) where
  go := fun y σ H ρ Fc i s e _ hi => by
    have hi' : i < vs.length := by rw [rpAll_len r]; rw [enumFr_len] at hi; exact hi
    exact ⟨vs, vs[i], SqL.of (s.fz _ _ (e _ _ hF)), List.getElem?_eq_getElem hi'⟩
  stop := fun y σ H ρ Fc i s e _ hi => ⟨vs, SqL.of (s.fz _ _ (e _ _ hF)), by rw [rpAll_len r]; rw [enumFr_len] at hi; exact hi⟩
  yld := fun y σ H ρ Fc i x H' d s e _ hy hd => by
    obtain ⟨T, x', rfl, hT, rfl, h⟩ := hy
    obtain ⟨d', e1, rfl⟩ := enumFr_get hd
    obtain ⟨v, e2, q⟩ := rpAll_get r e1
    have := h vs (SqL.of (s.fz _ _ (e _ _ hF)))
    rw [e2] at this
    cases this
    rw [Nat.zero_add]
    exact pair_ext s hT (.int _) (rp_mono e q)
theorem its_enumT {a : Addr} {vs : List V} {ds : List D} {st : List Nat} {σ0 : Sl} {ρ0 : En} (hF : SqT K F a vs) (r : RpAll K F vs ds) : ItS K o st σ0 ρ0 (Itet K a) F (enumFr 0 ds) where
  go := fun y σ H ρ Fc i s e _ hi => by
    have hi' : i < vs.length := by rw [rpAll_len r]; rw [enumFr_len] at hi; exact hi
    exact ⟨vs, vs[i], sqT_mono s.fz (sqT_mono e hF), List.getElem?_eq_getElem hi'⟩
  stop := fun y σ H ρ Fc i s e _ hi => ⟨vs, sqT_mono s.fz (sqT_mono e hF), by rw [rpAll_len r]; rw [enumFr_len] at hi; exact hi⟩
  yld := fun y σ H ρ Fc i x H' d s e _ hy hd => by
    obtain ⟨T, x', rfl, hT, rfl, h⟩ := hy
    obtain ⟨d', e1, rfl⟩ := enumFr_get hd
    obtain ⟨v, e2, q⟩ := rpAll_get r e1
    have := h vs (sqT_mono s.fz (sqT_mono e hF))
    rw [e2] at this
    cases this
    rw [Nat.zero_add]
    exact pair_ext s hT (.int _) (rp_mono e q)
def iEnumD (f : En → M (List D)) : En → M (List D) := fun ρ => (f ρ).bind fun ds => match ds with
  | [.list xs] => .ret (enumFr 0 xs)
  | [.tuple xs] => .ret (enumFr 0 xs)
  | _ => .bad
theorem dj_enum (hg : Gl X "enumerate") (hm : X.mg "enumerate" = none) (ha : DFs X o [e] fs ta) (hs : starEach [e] X.env = [(false, eval e X.env)] := by rfl) :
    DJ X o [] (.Tuple elts kk tpos) (.Call (.Name "enumerate" p) [e] [] pos) (iEnumD fs) (iEnumA X.K ta) := by
  refine ⟨pi_enumA hg hm ha.p hs, fun y σ H ρ F R s w => ha.q y σ H ρ F _ s (M.wp_mono (fun d k v H' F' s' e' hd => ?_) (fun _ z => z) (M.wp_bind.mp w))⟩
  split at k
  · cases hd with
    | cons h1 h2 =>
      cases h2
      cases h1 with
      | lst hF r => exact ⟨_, _, rfl, .inl ⟨SqL.of (s'.fz _ _ hF), k _ H' F' s' e' (its_enumL hF r)⟩⟩
  · cases hd with
    | cons h1 h2 =>
      cases h2
      cases h1 with
      | tup hF r => exact ⟨_, _, rfl, .inr ⟨sqT_mono s'.fz hF, k _ H' F' s' e' (its_enumT hF r)⟩⟩
  · exact k.elim

/-! ### zip -/
def zipD : List D → List D → List D
  | x :: r, y :: q => .tuple [x, y] :: zipD r q
  | [], _ => []
  | _ :: _, [] => []
theorem zipD_get : ∀ {xs ys : List D} {i : Nat} {d : D}, (zipD xs ys)[i]? = some d → ∃ x y, xs[i]? = some x ∧ ys[i]? = some y ∧ d = .tuple [x, y]
  | x :: r, y :: q, 0, d, h => by
    simp only [zipD, List.getElem?_cons_zero, Option.some.injEq] at h
    exact ⟨x, y, rfl, rfl, h.symm⟩
  | x :: r, y :: q, i + 1, d, h => by
    simp only [zipD, List.getElem?_cons_succ] at h
    obtain ⟨x', y', e1, e2, e3⟩ := zipD_get h
    exact ⟨x', y', by simpa using e1, by simpa using e2, e3⟩
  | [], _, _, _, h => by simp [zipD] at h
  | _ :: _, [], _, _, h => by simp [zipD] at h
theorem zipD_len : ∀ {xs ys : List D}, (zipD xs ys).length = min xs.length ys.length
  | x :: r, y :: q => by simp only [zipD, List.length_cons, zipD_len]; omega
  | [], _ => by simp [zipD]
  | _ :: _, [] => by simp [zipD]
theorem its_zipL {a b : Addr} {vs us : List V} {ds es : List D} {st : List Nat} {σ0 : Sl} {ρ0 : En} (hF : F a = some (.lst vs)) (hG : F b = some (.lst us)) (r : RpAll K F vs ds) (r2 : RpAll K F us es) : ItS K o st σ0 ρ0 (Itz K a b) F (zipD ds es) where
  go := fun y σ H ρ Fc i s e _ hi => by
    rw [zipD_len, ← rpAll_len r, ← rpAll_len r2] at hi
    exact ⟨vs, us, vs[i]'(by omega), us[i]'(by omega), SqL.of (s.fz _ _ (e _ _ hF)), SqL.of (s.fz _ _ (e _ _ hG)), List.getElem?_eq_getElem _, List.getElem?_eq_getElem _⟩
  stop := fun y σ H ρ Fc i s e _ hi => by
    rw [zipD_len, ← rpAll_len r, ← rpAll_len r2] at hi
    exact ⟨vs, us, SqL.of (s.fz _ _ (e _ _ hF)), SqL.of (s.fz _ _ (e _ _ hG)), by omega⟩
  yld := fun y σ H ρ Fc i x H' d s e _ hy hd => by
    obtain ⟨T, x', y', rfl, hT, rfl, h, h'⟩ := hy
    obtain ⟨d1, d2, e1, e2, rfl⟩ := zipD_get hd
    obtain ⟨v, e3, q⟩ := rpAll_get r e1
    obtain ⟨u, e4, q2⟩ := rpAll_get r2 e2
    have t1 := h vs (SqL.of (s.fz _ _ (e _ _ hF)))
    have t2 := h' us (SqL.of (s.fz _ _ (e _ _ hG)))
    rw [e3] at t1; cases t1
    rw [e4] at t2; cases t2
    exact pair_ext s hT (rp_mono e q) (rp_mono e q2)
theorem its_zipT {a b : Addr} {vs us : List V} {ds es : List D} {st : List Nat} {σ0 : Sl} {ρ0 : En} (hF : SqT K F a vs) (hG : SqT K F b us) (r : RpAll K F vs ds) (r2 : RpAll K F us es) : ItS K o st σ0 ρ0 (RZ.ItzT K a b) F (zipD ds es) where
  go := fun y σ H ρ Fc i s e _ hi => by
    rw [zipD_len, ← rpAll_len r, ← rpAll_len r2] at hi
    exact ⟨vs, us, vs[i]'(by omega), us[i]'(by omega), sqT_mono s.fz (sqT_mono e hF), sqT_mono s.fz (sqT_mono e hG), List.getElem?_eq_getElem _, List.getElem?_eq_getElem _⟩
  stop := fun y σ H ρ Fc i s e _ hi => by
    rw [zipD_len, ← rpAll_len r, ← rpAll_len r2] at hi
    exact ⟨vs, us, sqT_mono s.fz (sqT_mono e hF), sqT_mono s.fz (sqT_mono e hG), by omega⟩
  yld := fun y σ H ρ Fc i x H' d s e _ hy hd => by
    obtain ⟨T, x', y', rfl, hT, rfl, h, h'⟩ := hy
    obtain ⟨d1, d2, e1, e2, rfl⟩ := zipD_get hd
    obtain ⟨v, e3, q⟩ := rpAll_get r e1
    obtain ⟨u, e4, q2⟩ := rpAll_get r2 e2
    have t1 := h vs (sqT_mono s.fz (sqT_mono e hF))
    have t2 := h' us (sqT_mono s.fz (sqT_mono e hG))
    rw [e3] at t1; cases t1
    rw [e4] at t2; cases t2
    exact pair_ext s hT (rp_mono e q) (rp_mono e q2)
def iZipD (f : En → M (List D)) : En → M (List D) := fun ρ => (f ρ).bind fun ds => match ds with
  | [.list xs, .list ys] => .ret (zipD xs ys)
  | [.tuple xs, .tuple ys] => .ret (zipD xs ys)
  | _ => .bad
theorem dj_zip (hg : Gl X "zip") (hm : X.mg "zip" = none) (ha : DFs X o [e, e2] fs ta)
    (hs : starEach [e, e2] X.env = (false, eval e X.env) :: starEach [e2] X.env := by rfl) (hpl : (backTo pos (starEach [e2] X.env)).any (·.1) = false := by rfl) :
    DJ X o [] (.Tuple elts kk tpos) (.Call (.Name "zip" p) [e, e2] [] pos) (iZipD fs) (RZ.iZipA X.K ta) := by
  refine ⟨RZ.pi_zipA hg hm ha.p hs hpl, fun y σ H ρ F R s w => ha.q y σ H ρ F _ s (M.wp_mono (fun d k v H' F' s' e' hd => ?_) (fun _ z => z) (M.wp_bind.mp w))⟩
  split at k
  · cases hd with
    | cons h1 h2 =>
      cases h2 with
      | cons h2 h3 =>
        cases h3
        cases h1 with
        | lst hF r =>
          cases h2 with
          | lst hG r2 => exact ⟨_, _, _, _, rfl, .inl ⟨SqL.of (s'.fz _ _ hF), SqL.of (s'.fz _ _ hG), k _ H' F' s' e' (its_zipL hF hG r r2)⟩⟩
  · cases hd with
    | cons h1 h2 =>
      cases h2 with
      | cons h2 h3 =>
        cases h3
        cases h1 with
        | tup hF r =>
          cases h2 with
          | tup hG r2 => exact ⟨_, _, _, _, rfl, .inr ⟨sqT_mono s'.fz hF, sqT_mono s'.fz hG, k _ H' F' s' e' (its_zipT hF hG r r2)⟩⟩
  · exact k.elim

/-! ### range(a, b, c) -/
def rangeC (lo c : Int) (n : Nat) : List D := (List.range n).map fun i => .int (lo + (i : Nat) * c)
theorem its_rangeC {lo c : Int} {n : Nat} {st : List Nat} {σ0 : Sl} {ρ0 : En} : ItS K o st σ0 ρ0 (Itc lo c n) F (rangeC lo c n) where
  go := fun y σ H ρ Fc i s e _ hi => by
    show i < n
    simpa [rangeC] using hi
  stop := fun y σ H ρ Fc i s e _ hi => by
    show n ≤ i
    simpa [rangeC] using hi
  yld := fun y σ H ρ Fc i x H' d s e _ hy hd => by
    obtain ⟨rfl, rfl⟩ := hy
    unfold rangeC at hd
    rw [List.getElem?_map] at hd
    by_cases hi : i < n
    · rw [List.getElem?_range hi] at hd
      cases hd
      exact ⟨Fc, .refl s.fz, .int _⟩
    · rw [List.getElem?_eq_none (by rw [List.length_range]; omega)] at hd
      cases hd
theorem rangeSize_nn (a b c : Int) : 0 ≤ Builtin.Range.rangeSize a b c := by
  unfold Builtin.Range.rangeSize
  split
  · split
    · have := Int.ediv_nonneg (a := b - a - 1) (b := c) (by omega) (by omega); omega
    · omega
  · split
    · have := Int.ediv_nonneg (a := a - b - 1) (b := -c) (by omega) (by omega); omega
    · omega
def iRange3 (f : En → M (List D)) : En → M (List D) := fun ρ => (f ρ).bind fun ds => match ds with
  | [.int i, .int j, .int c] => if c != 0 && decide (c.natAbs < 1073741824) && Builtin.Range.small i j c then .ret (rangeC i c (Builtin.Range.rangeSize i j c).toNat) else .bad
  | _ => .bad
theorem dj_range3 {tg a b c : Expr} (hg : Gl X "range") (hm : X.mg "range" = none) (ha : DBs X o [a, b, c] fs ta)
    (hs : starEach [a, b, c] X.env = (false, eval a X.env) :: starEach [b, c] X.env := by rfl) (hpl : (backTo pos (starEach [b, c] X.env)).any (·.1) = false := by rfl) :
    DJ X o [] tg (.Call (.Name "range" p) [a, b, c] [] pos) (iRange3 fs) (iRng3 ta) := by
  refine ⟨pi_range3 hg hm ha.p hs hpl, fun y σ H ρ F R s w => ha.q y σ H ρ F _ s (M.wp_mono (fun d k v H' F' s' e' hd => ?_) (fun _ z => z) (M.wp_bind.mp w))⟩
  split at k
  · rename_i i j c
    split at k
    · rename_i hj
      simp only [Bool.and_eq_true, decide_eq_true_eq, bne_iff_ne, ne_eq] at hj
      cases hd with
      | cons h1 h2 =>
        cases h2 with
        | cons h2 h3 =>
          cases h3 with
          | cons h3 h4 =>
            cases h4
            have h1 := RB.rp s' h1
            have h2 := RB.rp s' h2
            have h3 := RB.rp s' h3
            cases h1; cases h2; cases h3
            exact ⟨i, j, c, _, rfl, ⟨hj.1.1, hj.1.2, hj.2, (Int.toNat_of_nonneg (rangeSize_nn i j c)).symm⟩, k _ H' F' s' e' its_rangeC⟩
    · exact k.elim
  · exact k.elim
end
end DL

set_option Elab.async false
set_option linter.all false
set_option maxRecDepth 100000
set_option maxHeartbeats 4000000
/-! DK5: more statements. -/
namespace DL
open PySem PySem.Spec PyProof.Rows L2

/-! ### the owned slots in order -/
def insO (i : Nat) (kd : Kd) : Own → Own
  | [] => [(i, kd)]
  | (j, k) :: r => match Nat.blt i j with
    | true => (i, kd) :: (j, k) :: r
    | false => match Nat.beq i j with
      | true => (i, kd) :: r
      | false => (j, k) :: insO i kd r
theorem ins_self (i : Nat) (kd : Kd) : ∀ o : Own, (insO i kd o).lookup i = some kd
  | [] => by simp [insO, List.lookup_cons]
  | (j, k) :: r => by
    unfold insO
    split
    · simp [List.lookup_cons]
    · split
      · simp [List.lookup_cons]
      · rename_i h
        have h2 : (i == j) = false := by
          cases q : (i == j) with
          | false => rfl
          | true => rw [eq_of_beq q, Nat.beq_refl] at h; cases h
        rw [List.lookup_cons, h2]
        exact ins_self i kd r
theorem ins_ne {i j : Nat} (kd : Kd) (h : j ≠ i) : ∀ o : Own, (insO i kd o).lookup j = o.lookup j
  | [] => by
    have h2 : (j == i) = false := by simpa using h
    simp [insO, List.lookup_cons, h2]
  | (l, k) :: r => by
    have h2 : (j == i) = false := by simpa using h
    unfold insO
    split
    · rw [List.lookup_cons, h2]
    · split
      · rename_i q
        have e : i = l := Nat.eq_of_beq_eq_true q
        subst e
        rw [List.lookup_cons, h2, List.lookup_cons, h2]
      · rw [List.lookup_cons, List.lookup_cons, ins_ne kd h r]
theorem ins_rem {i : Nat} {kd : Kd} (o : Own) (j : Nat) : (insO i kd o).lookup j = ((i, kd) :: remO o i).lookup j := by
  by_cases h : j = i
  · subst h; rw [ins_self]; simp [List.lookup_cons]
  · have h2 : (j == i) = false := by simpa using h
    rw [ins_ne kd h, List.lookup_cons, h2]
    exact (lookup_rem h o).symm
section
variable {K : PySem.W.Frag} {y : Y} {o o' : Own} {σ : Sl} {H F : Hp} {ρ : En}
theorem sr_lk (s : SR K y o σ H ρ F) (h : ∀ j, o'.lookup j = o.lookup j) : SR K y o' σ H ρ F :=
  sr_sub s (fun i kd hi => by rw [h] at hi; exact hi) rfl (fun i d hd => ⟨hd, fun hn => by rw [h] at hn; exact hn⟩) fun _ _ _ => rfl
/-- a name is stored: a new list of its own -/
theorem sr_setI {i : Nat} {a : Addr} {vs : List V} {ds : List D} (s : SR K (y.with a vs) o σ H ρ F) (h0 : y.F0 a = none) (hB : y.B a = none) (hp : ∀ p ∈ y.Z, p.1 ≠ i) (hv : RpAll K F vs ds) (hi : i < σ.length) :
    SR K y (insO i .lst o) (σ.set i (some (.ref a))) H (ρ.set i (some (.list ds))) F := sr_lk (sr_setN s h0 hB hp hv hi) (ins_rem o)
end
def gSetN (i : Nat) (f : En → M D) : G := fun ρ => match Nat.blt i ρ.length with
  | true => gSet i f ρ
  | false => .bad
section
variable {X : Cx} {C : Sc} {ol o o' : Own} {e : Expr} {f : En → M D} {te : TE} {pos : Pos}
theorem ds_setNp {i : Nat} {x : Str} {pos' : Pos} (hp : PS X (.Assign [.Name x pos'] e pos) (tAsg te (gName i))) (he : DN X o e f te) (hk : i ∉ C.kp := by first | decide | (dsimp only; decide)) :
    DS X C ol o (.Assign [.Name x pos'] e pos) (insO i .lst o) (gSetN i f) (tAsg te (gName i)) := by
  refine ⟨hp, fun y σ H ρ F D' hz s w => ?_⟩
  unfold gSetN at w
  split at w
  · rename_i hlt
    have hlt : i < ρ.length := Nat.blt_eq.mp hlt
    refine he.q y σ H ρ F _ s (M.wp_mono (fun d k a vs ds H' F' ed hB h0 s' e' hd => ?_) (fun _ z => z) (M.wp_bind.mp w))
    subst ed
    exact k _ H' F' (sr_setI s' h0 hB (fun p hp q => hk (q ▸ hz p hp)) hd (by rw [← s.len]; exact hlt)) e'
  · exact w.elim
theorem ds_setp {i : Nat} {x : Str} {pos' : Pos} (hp : PS X (.Assign [.Name x pos'] e pos) (tAsg te (gName i))) (he : DE X o e f te) (hk : i ∉ C.kp := by first | decide | (dsimp only; decide)) :
    DS X C ol o (.Assign [.Name x pos'] e pos) (remO o i) (gSetN i f) (tAsg te (gName i)) := by
  refine ⟨hp, fun y σ H ρ F D' hz s w => ?_⟩
  unfold gSetN at w
  split at w
  · rename_i hlt
    have hlt : i < ρ.length := Nat.blt_eq.mp hlt
    refine he.q y σ H ρ F _ s (M.wp_mono (fun d k v H' F' s' e' hd => ?_) (fun _ z => z) (M.wp_bind.mp w))
    exact k _ H' F' (sr_set s' (fun p hp q => hk (q ▸ hz p hp)) hd (by rw [← s.len]; exact hlt)) e'
  · exact w.elim
/-- x = e, e new -/
theorem ds_new {i : Nat} {x : Str} {pos' : Pos} (hN : X.N.Nodup) (he : DN X o e f te) (hi : X.N[i]? = some x := by rfl) (hx : Loc X.env.scope x := by first | exact Or.inl rfl | exact Or.inr rfl) (hk : i ∉ C.kp := by first | decide | (dsimp only; decide)) (hs : swapsWith e (some (.Name x pos')) pos.line X.env = pure false := by rfl) (hf : X.fn x = true ∨ X.env.scope.names.lookup x = some .local := by first | exact .inl rfl | exact .inr rfl | assumption) :
    DS X C ol o (.Assign [.Name x pos'] e pos) (insO i .lst o) (gSetN i f) (tAsg te (gName i)) := ds_setNp (ps_set hN hi hx he.p hs hf) he hk
/-- x = e, e frozen -/
theorem ds_def {i : Nat} {x : Str} {pos' : Pos} (hN : X.N.Nodup) (he : DE X o e f te) (hi : X.N[i]? = some x := by rfl) (hx : Loc X.env.scope x := by first | exact Or.inl rfl | exact Or.inr rfl) (hk : i ∉ C.kp := by first | decide | (dsimp only; decide)) (hs : swapsWith e (some (.Name x pos')) pos.line X.env = pure false := by rfl) (hf : X.fn x = true ∨ X.env.scope.names.lookup x = some .local := by first | exact .inl rfl | exact .inr rfl | assumption) :
    DS X C ol o (.Assign [.Name x pos'] e pos) (remO o i) (gSetN i f) (tAsg te (gName i)) := ds_setp (ps_set hN hi hx he.p hs hf) he hk

/-! ### a, b = x, y -/
/-- two values, each frozen or new -/
inductive KV where
  | fz
  | nw
def KVok (k : KV) (K : PySem.W.Frag) (y : Y) (o : Own) (σ : Sl) (ρ : En) (H' F' : Hp) (v : V) (d : D) : Prop := match k with
      | .fz => SR K y o σ H' ρ F' ∧ Rp K F' v d
      | .nw => ∃ a vs ds, v = .ref a ∧ d = .list ds ∧ y.B a = none ∧ y.F0 a = none ∧ SR K (y.with a vs) o σ H' ρ F' ∧ RpAll K F' vs ds
structure DV (X : Cx) (o : Own) (k : KV) (e : Expr) (f : En → M D) (t : TE) : Prop where
  p : PE X e t
  q : ∀ (y : Y) (σ : Sl) (H : Hp) (ρ : En) (F : Hp) (Q : VK), SR X.K y o σ H ρ F →
    (f ρ).wp (fun d => ∀ v H' F', Same F F' → KVok k X.K y o σ ρ H' F' v d → Q v H') noE → t σ H Q
theorem DE.v (h : DE X o e f te) : DV X o .fz e f te := ⟨h.p, fun y σ H ρ F Q s w => h.q y σ H ρ F Q s (M.wp_mono (fun d k v H' F' s' e' hd => k v H' F' e' ⟨s', hd⟩) (fun _ z => z) w)⟩
theorem DN.v (h : DN X o e f te) : DV X o .nw e f te := ⟨h.p, fun y σ H ρ F Q s w => h.q y σ H ρ F Q s (M.wp_mono (fun d k a vs ds H' F' ed hB h0 s' e' hd => k _ H' F' e' ⟨a, vs, ds, rfl, ed, hB, h0, s', hd⟩) (fun _ z => z) w)⟩
def setK (k : KV) (i : Nat) (o : Own) : Own := match k with
  | .fz => remO o i
  | .nw => insO i .lst o
def gPar (i j : Nat) (f g : En → M D) : G := fun ρ => match Nat.blt i ρ.length && Nat.blt j ρ.length with
  | true => (f ρ).bind fun d => (g ρ).bind fun e => .ret (.nx, (ρ.set j (some e)).set i (some d))
  | false => .bad
theorem ds_par {k1 k2 : KV} {i j : Nat} {x x2 : Str} {a b : Expr} {fa fb : En → M D} {ta tb : TE} {px py pt : Pos} {kt k3 : Nat} {pt2 : Pos} (hp : PS X (.Assign [.Tuple [.Name x px, .Name x2 py] kt pt] (.Tuple [a, b] k3 pt2) pos) (tPar i j (tCons ta (tCons tb tNil))))
    (ha : DV X o k1 a fa ta) (hb : DV X o k2 b fb tb) (hij : i ≠ j := by decide) (hk : i ∉ C.kp := by first | decide | (dsimp only; decide)) (hk2 : j ∉ C.kp := by first | decide | (dsimp only; decide)) :
    DS X C ol o (.Assign [.Tuple [.Name x px, .Name x2 py] kt pt] (.Tuple [a, b] k3 pt2) pos) (setK k1 i (setK k2 j o)) (gPar i j fa fb) (tPar i j (tCons ta (tCons tb tNil))) := by
  refine ⟨hp, fun y σ H ρ F D' hz s w => ?_⟩
  unfold gPar at w
  split at w
  · rename_i hlt
    rw [Bool.and_eq_true] at hlt
    have h1 : i < ρ.length := Nat.blt_eq.mp hlt.1
    have h2 : j < ρ.length := Nat.blt_eq.mp hlt.2
    have zi : ∀ {y' : Y}, y'.Z = y.Z → ∀ p ∈ y'.Z, p.1 ≠ i := fun e p hp q => hk (q ▸ hz p (e ▸ hp))
    have zj : ∀ {y' : Y}, y'.Z = y.Z → ∀ p ∈ y'.Z, p.1 ≠ j := fun e p hp q => hk2 (q ▸ hz p (e ▸ hp))
    have fin : ∀ {va vb : V} {da db : D} {y1 : Y} {H' F' : Hp} (hy : y1.Z = y.Z), KVok k2 X.K y1 o σ ρ H' F' vb db → SR X.K y1 (setK k2 j o) (σ.set j (some vb)) H' (ρ.set j (some db)) F' := fun {va vb da db y1 H' F'} hy q => by
      cases k2 with
      | fz => exact sr_set q.1 (zj hy) q.2 (by rw [← q.1.len]; exact h2)
      | nw =>
        obtain ⟨a, vs, ds, rfl, rfl, b1, b2, s1, r⟩ := q
        exact sr_setI s1 b2 b1 (zj hy) r (by rw [← s1.len]; exact h2)
    refine ha.q y σ H ρ F _ s (M.wp_mono (fun da k va H1 F1 e1 q1 => ?_) (fun _ z => z) (M.wp_bind.mp w))
    cases k1 with
    | fz =>
      refine hb.q y σ H1 ρ F1 _ q1.1 (M.wp_mono (fun db k vb H2 F2 e2 q2 => ?_) (fun _ z => z) (M.wp_bind.mp k))
      have s2 := fin (va := va) (da := da) rfl q2
      have s3 := sr_set (i := i) s2 (zi rfl) (rp_mono e2 q1.2) (by rw [← s2.len, List.length_set]; exact h1)
      refine ⟨va, vb, rfl, ?_⟩
      rw [List.set_comm _ _ hij]
      exact k _ H2 F2 s3 (e1.trans e2)
    | nw =>
      obtain ⟨a, vs, ds, rfl, rfl, b1, b2, s1, r⟩ := q1
      refine hb.q (y.with a vs) σ H1 ρ F1 _ s1 (M.wp_mono (fun db k vb H2 F2 e2 q2 => ?_) (fun _ z => z) (M.wp_bind.mp k))
      have s2 := fin (va := .ref a) (da := .list ds) (y1 := y.with a vs) rfl q2
      have s3 := sr_setI (i := i) s2 b2 b1 (zi rfl) (rpAll_mono e2 r) (by rw [← s2.len, List.length_set]; exact h1)
      refine ⟨.ref a, vb, rfl, ?_⟩
      rw [List.set_comm _ _ hij]
      exact k _ H2 F2 s3 (e1.trans e2)
  · exact w.elim
/-- (a, b, ..) = e -/
def gSetT (k : D → En → M En) (f : En → M D) : G := fun ρ => (f ρ).bind fun d => (k d ρ).bind fun ρ' => .ret (.nx, ρ')
theorem ds_asgT {tg : Expr} {gt : TG} {k : D → En → M En} (hp : PS X (.Assign [tg] e pos) (tAsg te gt)) (he : DE X o e f te) (hg : DG X C.kp o tg k gt) : DS X C ol o (.Assign [tg] e pos) o (gSetT k f) (tAsg te gt) := by
  refine ⟨hp, fun y σ H ρ F D' hz s w => he.q y σ H ρ F _ s (M.wp_mono (fun d k v H' F' s' e' hd => ?_) (fun _ z => z) (M.wp_bind.mp w))⟩
  exact hg.q y σ H' ρ F' v d _ hz s' hd (M.wp_mono (fun ρ' k σ' s2 => k σ' H' F' s2 e') (fun _ z => z) (M.wp_bind.mp k))
end
end DL

set_option Elab.async false
set_option linter.all false
set_option maxRecDepth 100000
set_option maxHeartbeats 4000000
/-! DK6: globals, calls by keyword, the script, the law's end. -/
namespace DL
open PySem PySem.Spec PyProof.Rows L2
section
variable {X : Cx} {o : Own}
theorem de_globI {x : Str} {n : Int} {pos : Pos} (hg : Gl X x) (hm : ∃ t, X.mg x = some (.int n t)) (hd : (x == ("__debug__" : Str)) = false := by decide) : DE X o (.Name x pos) (eC (.int n)) (tC (vOf (.int n))) := by
  obtain ⟨t, ht⟩ := hm
  exact de_c (.int n) (pe_glob hg ht (v := .int n) ⟨t, rfl⟩ hd)

/-! ### keywords -/
structure DKs (X : Cx) (o : Own) (kws : List Keyword) (f : En → M (List D)) (t : TA) : Prop where
  p : PK X kws t
  q : ∀ (y : Y) (σ : Sl) (H : Hp) (ρ : En) (F : Hp) (Q : List V → Hp → Prop), SR X.K y o σ H ρ F →
    (f ρ).wp (fun ds => ∀ vs H' F', SR X.K y o σ H' ρ F' → Same F F' → RpAll X.K F' vs ds → Q vs H') noE → t σ H Q
theorem dks_nil : DKs X o [] aNil tNil := ⟨pk_nil, fun y σ H ρ F Q s w => w [] H F s (.refl _) .nil⟩
theorem dks_cons {e : Expr} {kws : List Keyword} {f : En → M D} {g : En → M (List D)} {t : TE} {t2 : TA} {nm : Option Str} {kpos : Pos} (h1 : DE X o e f t) (h2 : DKs X o kws g t2) : DKs X o (⟨nm, e, kpos⟩ :: kws) (aCons f g) (tCons t t2) := by
  refine ⟨pk_cons h1.p h2.p, fun y σ H ρ F Q s w => h1.q y σ H ρ F _ s (M.wp_mono (fun d k v H' F' s' e' hd => ?_) (fun _ z => z) (M.wp_bind.mp w))⟩
  refine h2.q y σ H' ρ F' _ s' (M.wp_mono (fun ds k2 vs H2 F2 s2 e2 hds => ?_) (fun _ z => z) (M.wp_bind.mp k))
  exact k2 _ H2 F2 s2 (e'.trans e2) (.cons (rp_mono e2 hd) hds)
/-- the values in the parameters' order: places among the keywords -/
def permL {α : Type} (is : List Nat) (xs : List α) : List α := is.filterMap (xs[·]?)
def eCallK (fn : List D → M D) (is : List Nat) (fs : En → M (List D)) : En → M D := fun ρ => (fs ρ).bind fun ds => fn (permL is ds)
theorem vals_perm {xs : List V} {us : List Value} (r : Vals xs us) (is : List Nat) : Vals (permL is xs) (permL is us) := vals_pick r is
theorem rp_perm {K : PySem.W.Frag} {H : Hp} {vs : List V} {ds : List D} (r : RpAll K H vs ds) (is : List Nat) : RpAll K H (permL is vs) (permL is ds) := rp_pick r is
theorem acs_of {K : PySem.W.Frag} {σ : Sl} {ρ : En} {F : Hp} : ∀ {vs : List V} {ds : List D}, RpAll K F vs ds → ACs K σ ρ F (List.replicate ds.length none) vs ds
  | _, _, .nil => .nil
  | _, _, .cons h1 h2 => .dat h1 (acs_of h2)
theorem cbeg_pure {K : PySem.W.Frag} {F H : Hp} {vs : List V} {ds : List D} {n : Nat} (f : Same F H) (r : RpAll K F vs ds) (hn : ds.length = n) : CBeg K n [] vs ds F H (fun _ => []) where
  lv := (rpAll_len r).trans hn
  ld := hn
  fz := f
  imm := fun i d hi _ => rpAll_get r hi
  own := fun i kd hi => nomatch hi
  dis := fun i j kd kd' hi => nomatch hi
def gK {α β : Type} (is : List Nat) (us : List α) (ws : List β) : List β := match us with
  | [] => permL is ws
  | _ :: _ => []
theorem de_callK {k n : Nat} {f : Addr} {fd : FuncData} {ps ks : List Str} {x : Str} {p pos : Pos} {kws : List Keyword} {fs : En → M (List D)} {tk : TA} {is : List Nat} {fn : List D → M D} (F : FnG X.prog X.w X.K X.mg X.base CX0 k f fd ps (spR X.K n [] fn)) (hr : Rm k X.A) (hg : Gl X x) (hm : X.mg x = some (.ref f)) (hk : PySem.W.keepIn X.K (.ref f) = true)
    (hb : KBinds X.K fd ps ks (gK is) (gK is)) (hkw : DKs X o kws fs tk)
    (hlen : ∀ ds : List D, ds.length = kws.length → (permL is ds).length = n) (hfl : ∀ ρ Q, (fs ρ).wp Q noE → (fs ρ).wp (fun ds => ds.length = kws.length ∧ Q ds) noE)
    (hall : (backToKw pos (keywordEach kws X.env)).all (·.1.isSome) = true := by rfl) (hks : (backToKw pos (keywordEach kws X.env)).filterMap (·.1) = ks := by rfl)
    (hdb : (x == ("__debug__" : Str)) = false := by decide) (hpl : ((backTo pos (starEach [] X.env)).any (·.1) || (backToKw pos (keywordEach kws X.env)).any (·.1.isNone)) = false := by rfl) :
    DE X o (.Call (.Name x p) [] kws pos) (eCallK fn is fs) (fun σ H Q => tk σ H fun zs H2 => spR X.K n [] fn (permL is zs) H2 Q E0) := by
  refine ⟨peG_callK0 F hr hg hm hk hb pass0 hkw.p hall hks hdb hpl, fun y σ H ρ F Q s w => ?_⟩
  refine hkw.q y σ H ρ F _ s (M.wp_mono (fun ds k2 vs H' F' s' e' r => ?_) (fun _ z => z) (hfl ρ _ (M.wp_bind.mp w)))
  refine ⟨F', permL is ds, fun _ => [], cbeg_pure s'.fz (rp_perm r is) (hlen ds k2.1), M.wp_mono (fun d k3 v F2 H2 c hv => ?_) (fun _ z => z) k2.2⟩
  refine k3 v H2 F2 ?_ (e'.trans c.f) hv
  exact s'.ext ⟨c.f, c.fz, fun a u q => c.keep a u q (fun i kd hi => nomatch hi), fun a h1 h2 => c.new a h1 h2 (fun i kd hi => nomatch hi)⟩
theorem fl_nil {ρ : En} {Q : List D → Prop} (w : (aNil ρ).wp Q noE) : (aNil ρ).wp (fun ds => ds.length = 0 ∧ Q ds) noE := ⟨rfl, w⟩
theorem fl_cons {f : En → M D} {g : En → M (List D)} {n : Nat} (h : ∀ ρ Q, (g ρ).wp Q noE → (g ρ).wp (fun ds => ds.length = n ∧ Q ds) noE) (ρ : En) (Q : List D → Prop) (w : (aCons f g ρ).wp Q noE) : (aCons f g ρ).wp (fun ds => ds.length = n + 1 ∧ Q ds) noE := by
  unfold aCons at w ⊢
  refine M.wp_bind.mpr (M.wp_mono (fun d k => ?_) (fun _ z => z) (M.wp_bind.mp w))
  exact M.wp_bind.mpr (M.wp_mono (fun ds k2 => ⟨by rw [List.length_cons, k2.1], k2.2⟩) (fun _ z => z) (h ρ _ (M.wp_bind.mp k)))
end

/-! ### the script -/
def scOk (ns : List Int) (ob : Obj) (K : PySem.W.Frag) (H : Hp) (v : V) (S : List Addr) : Prop := ∃ a, v = .ref a ∧ ((S = [] ∧ SqL K (fun _ => none) a (ns.map V.int)) ∨ (S = [a] ∧ H a = some (.frz ob (.lst (ns.map V.int))) ∧ K.lookup a = none))
def scR (ns : List Int) (ob : Obj) : Raw where
  ok := scOk ns ob
  fr := fun {K H H' v S} h hS => by
    obtain ⟨a, rfl, h | ⟨rfl, h, h2⟩⟩ := h
    · exact ⟨a, rfl, .inl h⟩
    · exact ⟨a, rfl, .inr ⟨rfl, by rw [hS a List.mem_cons_self]; exact h, h2⟩⟩
  there := fun {K H v S} h => by
    obtain ⟨a, rfl, ⟨rfl, _⟩ | ⟨rfl, h, _⟩⟩ := h
    · exact (fun b hb => nomatch hb)
    · intro b hb
      have e : b = a := by simpa using hb
      subst e
      rw [h]; exact nofun
theorem scOk_seq {ns : List Int} {ob : Obj} {K : PySem.W.Frag} {H : Hp} {v : V} {S : List Addr} (h : scOk ns ob K H v S) : ∃ a, v = .ref a ∧ SqL K H a (ns.map V.int) := by
  obtain ⟨a, rfl, ⟨_, h⟩ | ⟨_, h, _⟩⟩ := h
  · refine ⟨a, rfl, ?_⟩
    rcases h with (h | ⟨o, h⟩) | h
    · exact absurd h (by simp)
    · exact absurd h (by simp)
    · exact .inr h
  · exact ⟨a, rfl, .inl (.inr ⟨ob, h⟩)⟩
section
variable {P : Program} {w : World} {K : PySem.W.Frag} {mg mb : Str → Option Value} {k : Nat} {fa a : Addr} {fd : FuncData} {s₁ : Shared} {vs : List Value} {ns : List Int} {lawD : List D → M D}
/-- the heap behind the top: the script alone is tracked, where it's none of the top's own -/
theorem scr_heap (KX : K.In s₁.heap) (ha : s₁.heap.get? a = some { cls := .type "list", data := .seq vs.toArray }) (hi : IntsAre vs ns) (hl : ns.length ≤ sizeLine) :
    ∃ (H : Hp) (S : List Addr), HOk P w H s₁.heap ∧ (∀ b, H b ≠ none → b = a ∧ H b = some (.frz { cls := .type "list", data := .seq vs.toArray } (.lst (ns.map V.int))) ∧ K.lookup a = none) ∧ scOk ns { cls := .type "list", data := .seq vs.toArray } K H (.ref a) S ∧ ∀ b ∈ S, H b ≠ none := by
  have rv := vals_ints hi
  have lv := hi.length
  cases hk : K.lookup a with
  | some o =>
    have e := KX a o hk
    rw [ha] at e
    cases e
    exact ⟨fun _ => none, [], (fun b u z => nomatch (show (none : Option HO) = some u from z)), fun b z => absurd rfl z, ⟨a, rfl, .inl ⟨rfl, .inr ⟨_, vs.toArray, _, hk, rfl, rfl, rfl, by rw [List.size_toArray, lv]; exact hl, by simpa using rv⟩⟩⟩, fun b hb => nomatch hb⟩
  | none =>
    refine ⟨upd (fun _ => none) a (.frz { cls := .type "list", data := .seq vs.toArray } (.lst (ns.map V.int))), [a], fun b u z => ?_, fun b z => ?_, ⟨a, rfl, .inr ⟨rfl, upd_same, hk⟩⟩, fun b hb => ?_⟩
    · by_cases e : b = a
      · subst e
        rw [upd_same] at z
        cases z
        exact ⟨ha, by rw [List.length_map]; exact hl, vs, _, rv, ha⟩
      · rw [upd_ne e] at z; cases z
    · by_cases e : b = a
      · subst e; exact ⟨rfl, upd_same, rfl⟩
      · rw [upd_ne e] at z; exact absurd rfl z
    · have e : b = a := by simpa using hb
      subst e
      rw [upd_same]; exact nofun
/-- the law's call answers True -/
theorem law_runs (KX : K.In s₁.heap) (hns : s₁.heap.Ns mainGlobals mg) (hb : s₁.heap.Ns builtinsNs mb) (hbb : ∀ x : Str, x ≠ "__name__" → mb x = bootBuiltins x) (hlim : s₁.heap.NoLimit) (hg : s₁.gens = #[])
    (ha : s₁.heap.get? a = some { cls := .type "list", data := .seq vs.toArray }) (hi : IntsAre vs ns) (hl : ns.length ≤ sizeLine) (hr : Room k callerA)
    (F : ∀ base : Heap, K.In base → base.Ns mainGlobals mg → FnG P w K mg base CX0 k fa fd ["script"] (spR K 1 [(0, .raw (scR ns { cls := .type "list", data := .seq vs.toArray }))] lawD)) (hbind : ∀ (s : Shared) (u : Value), BindsTo s fd ⟨[u], []⟩ [("script", u)])
    (law : (lawD [.none]).wp (fun d => d = .bool true) noE) :
    codeAny (model P w) callerA (.call (.ref fa) ⟨[.ref a], []⟩) (fun r s' => r = .ok (.ret (.bool true)) ∧ OldK s₁.heap s'.heap ∧ s'.os = s₁.os ∧ AllBare s'.gens) s₁ := by
  obtain ⟨H, S, hok, hA, hsc, hS⟩ := scr_heap (P := P) (w := w) KX ha hi hl
  have noSeq : ∀ {b : Addr} {o : Obj} {es : Array DictEntry} {ep : Nat}, s₁.heap.get? b = some o → o.data = .dict es ep → H b = none := fun {b o es ep} e d => by
    cases q : H b with
    | none => rfl
    | some u =>
      obtain ⟨e', _⟩ := hA b (by rw [q]; exact nofun)
      subst e'
      rw [ha] at e
      cases e
      cases d
  have ns_of : ∀ {b : Addr} {m : Str → Option Value}, s₁.heap.Ns b m → (hidT s₁.heap H).Ns b m := fun {b m} ⟨o, es, ep, e, d, r⟩ => ⟨o, es, ep, hidT_get e (noSeq e d), d, r⟩
  have kin : K.In (hidT s₁.heap H) := fun b o e => hidT_get (KX b o e) (by
    cases q : H b with
    | none => rfl
    | some u =>
      obtain ⟨e', _, z⟩ := hA b (by rw [q]; exact nofun)
      subst e'
      rw [z] at e; cases e)
  have lim : (hidT s₁.heap H).NoLimit := let ⟨mc, h1, h2⟩ := hlim; ⟨mc, ns_of h1, h2⟩
  have e0 : Env0 P w K mg (hidT s₁.heap H) callerA [] s₁ H := ⟨rfl, ⟨kin, ns_of hns, ⟨mb, ns_of hb, hbb⟩, lim⟩, fun b o e => of_hidT e, Nat.le_of_eq (hidT_size _ _), trivial, fun b hb => absurd (show b ∈ ([] : List Addr) from hb) (by simp), hok, .of_eq hg⟩
  have beg : CBeg K 1 [(0, .raw (scR ns { cls := .type "list", data := .seq vs.toArray }))] [.ref a] [.none] (fun _ => none) H (fun _ => S) := by
    have lk : ∀ {i : Nat} {kd : Kd}, ([(0, Kd.raw (scR ns { cls := .type "list", data := .seq vs.toArray }))] : Own).lookup i = some kd → i = 0 ∧ kd = .raw (scR ns { cls := .type "list", data := .seq vs.toArray }) := fun {i kd} hi => by
      rw [List.lookup_cons] at hi
      cases i with
      | zero => simp at hi; exact ⟨rfl, hi.symm⟩
      | succ i => simp at hi
    refine ⟨rfl, rfl, (fun b u z => nomatch (show (none : Option HO) = some u from z)), fun i d hi hn => ?_, fun i kd hi => ?_, fun i j kd kd' hi hj hij => ?_⟩
    · cases i with
      | zero => rw [List.lookup_cons] at hn; simp at hn
      | succ i => simp at hi
    · obtain ⟨rfl, rfl⟩ := lk hi
      exact ⟨.ref a, .none, rfl, rfl, ⟨rfl, hsc⟩, fun b hb => ⟨rfl, hS b hb⟩⟩
    · exact absurd ((lk hi).1.trans (lk hj).1.symm) hij
  refine codeAny_mono ((F _ kin (ns_of hns)).run callerA [] s₁ H ⟨[.ref a], []⟩ [.ref a] [.ref a] (fun v H' => v = .bl true) E0 (by rfl) hr e0 (hbind s₁ (.ref a)) (.cons rfl .nil)
    ⟨_, _, _, beg, M.wp_mono (fun d q v F' H' _ hv => by subst q; cases hv; rfl) (fun _ z => z) law⟩) fun r s' h => ?_
  cases r with
  | error e => exact False.elim h
  | ok fl =>
    cases fl with
    | ret u =>
      obtain ⟨v, H', os, bare, un, hok', r', q⟩ := h
      have q' : v = .bl true := q
      subst q'
      obtain rfl : u = Value.bool true := r'
      refine ⟨rfl, OldK.of_keep fun b o e => ?_, os, bare⟩
      cases q : H b with
      | none => exact un.keep b o e q (by intro z; exact absurd (show b ∈ ([] : List Addr) from z) (by simp)) (by simp)
      | some u =>
        obtain ⟨_, z, _⟩ := hA b (by rw [q]; exact nofun)
        have z2 := un.frzs b _ _ z
        obtain ⟨e1, _⟩ := hok b _ z
        obtain ⟨e2, _⟩ := hok' b _ z2
        rw [e] at e1; cases e1
        exact e2
    | _ => exact False.elim h
end
theorem law_walk {l : PySem.W.OpenLaw} {n k : Nat} {q : Program} {loose : List Str} {XP : (Str → Option Value) → Heap → Prop} {YP : World → Heap → Prop} {d : DefRec} {K : Params → PySem.W.Frag} {lawD : List Int → List D → M D}
    (hn : l.most = some n) (hn2 : n ≤ sizeLine) (hdf : d.params.defaults = []) (hr : Room k callerA)
    (hY : ∀ (w : World) (h : Heap), YP w h → (K w.params).In h)
    (F : ∀ (w : World) (mg : Str → Option Value) (fa : Addr) (h : Heap), (K w.params).In h → h.Ns mainGlobals mg → mg d.name = some (.ref fa) →
      ∃ fd : FuncData, (∀ (s : Shared) (u : Value), BindsTo s fd ⟨[u], []⟩ [("script", u)]) ∧
        ∀ (ns : List Int) (ob : Obj), ns.length ≤ n → ∀ base : Heap, (K w.params).In base → base.Ns mainGlobals mg → FnG l.prog w (K w.params) mg base CX0 k fa fd ["script"] (spR (K w.params) 1 [(0, .raw (scR ns ob))] (lawD ns)))
    (law : ∀ ns : List Int, ns.length ≤ n → (lawD ns [.none]).wp (fun d => d = .bool true) noE) :
    PySem.W.WalkO q loose XP YP l.row.toRowW d [] (fun f vs => PySem.call f vs) := by
  refine Att.attach_call hn hdf fun w s₀ s₁ mg mb fa o pm cd doc a vs ns G Y ho hd hcd hmg hobj hints hlen hg => ?_
  have KX := hY w _ Y
  obtain ⟨fd, hb, hF⟩ := F w mg fa _ KX G.T.g hmg
  exact law_runs KX G.T.g G.T.b G.T.builtins G.T.nolimit hg hobj hints (Nat.le_trans hlen hn2) hr (hF ns _ hlen) hb (law ns hlen)
end DL

set_option Elab.async false
set_option linter.all false
set_option maxRecDepth 100000
set_option maxHeartbeats 4000000
/-! DB: the bag: a list of a list of cells, digits, a mixed number. -/
namespace DL
open PySem PySem.Spec PyProof.Rows L2

def BagAt (H : Hp) (b c : Addr) : Prop := b ≠ c ∧ ∃ (cells : List Int) (dig mixed : Int), H b = some (.lst [.ref c, .int dig, .int mixed]) ∧ H c = some (.lst (cells.map V.int)) ∧ 0 ≤ dig ∧ 0 ≤ mixed ∧ mixed < 2147483647
def bagR : Raw where
  ok := fun K H v S => ∃ b c, v = .ref b ∧ S = [b, c] ∧ BagAt H b c
  fr := fun {K H H' v S} h hS => by
    obtain ⟨b, c, rfl, rfl, ne, cells, dig, mixed, h1, h2, h3⟩ := h
    exact ⟨b, c, rfl, rfl, ne, cells, dig, mixed, by rw [hS b (by simp)]; exact h1, by rw [hS c (by simp)]; exact h2, h3⟩
  there := fun {K H v S} h => by
    obtain ⟨b, c, rfl, rfl, ne, cells, dig, mixed, h1, h2, h3⟩ := h
    intro a ha
    have e : a = b ∨ a = c := by simpa using ha
    rcases e with rfl | rfl
    · rw [h1]; exact nofun
    · rw [h2]; exact nofun
def drawD : List D → M D
  | [_, .int n] => if 0 < n ∧ n < 1073741824 then .draw n.toNat fun i => .ret (.int (i : Nat)) else .bad
  | _ => .bad
abbrev tI (k : Int) : TE := tC (.int k)
def tIx0 (K : PySem.W.Frag) (k : Int) : TE := tOp (rIx K) (tVar 0) (tI k)
def tInt (t : TE) : TE := tCB (fun xs H Q => (∃ i, xs = [.int i] ∧ Q (.int i) H) ∨ ∃ k, xs = [.bl k] ∧ Q (.int (if k then 1 else 0)) H) (tCons t tNil)
def tMod (a b : TE) : TE := tOp (rI (fun _ j => j ≠ 0) fun i j => .int (i.fmod j)) a b
def tDiv (a b : TE) : TE := tOp (rI CDivN fun i j => .int (i.fdiv j)) a b
def tMul (a b : TE) : TE := tOp (rI CMul fun i j => .int (i * j)) a b
def tAddI (a b : TE) : TE := tOp (rI0 fun i j => .int (i + j)) a b
def tGt (a b : TE) : TT := tTest (tOp (rI0 fun i j => .bl (decide (j < i))) a b)
def tPutB (te : TE) (k : Int) : TS := tAsg te (gSub (tVar 0) (tI k) rSetL)
def tDrawLoop (K : PySem.W.Frag) : TS := tWhile (tAnd (tTest (tOp (rDat K shaped2 PyData.eqv) (tIx0 K 1) (tI 0))) (tTest (tOp (rDat K shaped2 fun d e => !PyData.eqv d e) (tIx0 K 0) (tLst tNil))))
  (tSeq (tAsg (tBM0 K "list" rPop (tIx0 K 0)) (gName 2)) (tSeq (tPutB (tIf (tGt (tVar 2) (tOp (rI CPow fun i j => .int (i ^ j.toNat)) (tI 10) (tI 9))) (tVar 2) (tI 0)) 1) tNext))
def tDraw (K : PySem.W.Frag) : TS := tSeq (tDrawLoop K)
  (tSeq (tIfS (tGt (tIx0 K 1) (tI 0)) (tSeq (tAsg (tMod (tInt (tIx0 K 1)) (tVar 1)) (gName 3)) (tSeq (tPutB (tDiv (tIx0 K 1) (tVar 1)) 1) (tSeq (tRet (tVar 3)) tNext))) tNext)
  (tSeq (tPutB (tMod (tInt (tAddI (tMul (tIx0 K 2) (tI 48271)) (tI 13))) (tI 2147483647)) 2)
  (tSeq (tRet (tMod (tInt (tDiv (tMod (tInt (tMul (tIx0 K 2) (tIx0 K 2))) (tI 2147483629)) (tI 7))) (tVar 1))) tNext)))
section
variable {K : PySem.W.Frag} {H : Hp} {b c : Addr} {σ : Sl}
theorem ix0 {k : Int} {xs : List V} {v : V} {Q : VK} (h0 : σ[0]? = some (some (.ref b))) (hb : H b = some (.lst xs)) (hk : atI xs k = some v) (q : Q v H) : tIx0 K k σ H Q :=
  ⟨.ref b, h0, .inl ⟨b, xs, k, v, rfl, rfl, SqL.of hb, hk, q⟩⟩
theorem sub0 {k : Int} {j : Nat} {v : V} {xs : List V} {Q : Sl → Hp → Prop} (h0 : σ[0]? = some (some (.ref b))) (hb : H b = some (.lst xs)) (hj : ixN xs.length k = some j) (q : Q σ (upd H b (.lst (xs.set j v)))) : gSub (tVar 0) (tI k) rSetL v σ H Q :=
  ⟨.ref b, h0, b, xs, k, j, rfl, rfl, hb, hj, q⟩
theorem fmod_lt {a n : Int} (h : 0 < n) : 0 ≤ a.fmod n ∧ a.fmod n < n := ⟨Int.fmod_nonneg_of_pos a h, Int.fmod_lt_of_pos a h⟩
theorem canLay_ints : ∀ xs : List Int, PyData.canLayAll0 (xs.map PyData.int) = true
  | [] => by simp [PyData.canLayAll0]
  | x :: xs => by simp [PyData.canLayAll0, PyData.canLay0, canLay_ints xs]
theorem depthA_ints : ∀ xs : List Int, PyData.depthAll (xs.map PyData.int) = 0
  | [] => by simp [PyData.depthAll]
  | x :: xs => by simp [PyData.depthAll, PyData.depth, depthA_ints xs]
theorem shaped_ints (xs : List Int) : SeqAt.shaped (.list (xs.map PyData.int)) = true := by
  unfold SeqAt.shaped
  rw [PyData.canLay0, PyData.depth, canLay_ints, depthA_ints]
  rfl
/-- a draw -/
theorem draw_core {n : Int} {Q : VK} (hB : BagAt H b c) (h0 : 0 < n) (h1 : n < 1073741824)
    (hQ : ∀ r H', 0 ≤ r → r < n → (∀ a, H a ≠ none → a ≠ b → a ≠ c → H' a = H a) → BagAt H' b c → Q (.int r) H') :
    tDraw K { nx := fun _ H' => Q .non H', rt := Q } [some (.ref b), some (.int n), none, none] H := by
  obtain ⟨ne, cells, dig, mixed, hb, hc, d0, m0, m1⟩ := hB
  unfold tDraw
  -- behind the loop
  have rest : ∀ (σ : Sl) (H2 : Hp) (cells' : List Int) (dig' : Int), σ[0]? = some (some (.ref b)) → σ[1]? = some (some (.int n)) → 3 < σ.length → (∀ a, H a ≠ none → a ≠ b → a ≠ c → H2 a = H a) → H2 b = some (.lst [.ref c, .int dig', .int mixed]) → H2 c = some (.lst (cells'.map V.int)) → 0 ≤ dig' →
      (tSeq (tIfS (tGt (tIx0 K 1) (tI 0)) (tSeq (tAsg (tMod (tInt (tIx0 K 1)) (tVar 1)) (gName 3)) (tSeq (tPutB (tDiv (tIx0 K 1) (tVar 1)) 1) (tSeq (tRet (tVar 3)) tNext))) tNext)
  (tSeq (tPutB (tMod (tInt (tAddI (tMul (tIx0 K 2) (tI 48271)) (tI 13))) (tI 2147483647)) 2)
  (tSeq (tRet (tMod (tInt (tDiv (tMod (tInt (tMul (tIx0 K 2) (tIx0 K 2))) (tI 2147483629)) (tI 7))) (tVar 1))) tNext))) { nx := fun _ H' => Q .non H', rt := Q } σ H2 := by
    intro σ H2 cells' dig' s0 s1 sl far hb2 hc2 dd
    refine ix0 s0 hb2 (v := .int dig') rfl ⟨dig', 0, rfl, rfl, _, rfl, ?_⟩
    refine ite2 (fun e => ?_) (fun e => ?_)
    · have hd : 0 < dig' := of_decide_eq_true e
      -- found = int(bag[1]) % below
      refine ix0 s0 hb2 (v := .int dig') rfl (.inl ⟨dig', rfl, .int n, s1, dig', n, rfl, rfl, (by omega), ?_⟩)
      -- bag[1] = bag[1] // below
      have s0' : (σ.set 3 (some (.int (dig'.fmod n))))[0]? = some (some (.ref b)) := by rw [List.getElem?_set_ne (by decide)]; exact s0
      have s1' : (σ.set 3 (some (.int (dig'.fmod n))))[1]? = some (some (.int n)) := by rw [List.getElem?_set_ne (by decide)]; exact s1
      refine ix0 s0' hb2 (v := .int dig') rfl ⟨.int n, s1', dig', n, rfl, rfl, ⟨by omega, by omega⟩, ?_⟩
      refine sub0 s0' hb2 (j := 1) rfl ?_
      refine ⟨.int (dig'.fmod n), by rw [List.getElem?_set_self sl], ?_⟩
      obtain ⟨f1, f2⟩ := fmod_lt (a := dig') h0
      refine hQ _ _ f1 f2 (fun a z z1 z2 => by rw [upd_ne z1]; exact far a z z1 z2) ⟨ne, cells', dig'.fdiv n, mixed, upd_same, by rw [upd_ne (Ne.symm ne)]; exact hc2, Int.fdiv_nonneg (by omega) (by omega), m0, m1⟩
    · -- bag[2] = int(bag[2] * 48271 + 13) % 2147483647
      refine ix0 s0 hb2 (v := .int mixed) rfl ⟨mixed, 48271, rfl, rfl, .inl (by omega), mixed * 48271, 13, rfl, rfl, .inl ⟨_, rfl, mixed * 48271 + 13, 2147483647, rfl, rfl, show (2147483647 : Int) ≠ 0 by decide, ?_⟩⟩
      refine sub0 s0 hb2 (j := 2) rfl ?_
      simp only []
      obtain ⟨f1, f2⟩ := fmod_lt (a := mixed * 48271 + 13) (n := 2147483647) (by decide)
      generalize (mixed * 48271 + 13).fmod 2147483647 = mx at f1 f2
      have hb3 : (upd H2 b (.lst ([V.ref c, .int dig', .int mixed].set 2 (.int mx)))) b = some (.lst [.ref c, .int dig', .int mx]) := upd_same
      refine ix0 s0 hb3 (v := .int mx) rfl (ix0 s0 hb3 (v := .int mx) rfl ⟨mx, mx, rfl, rfl, .inl (by omega), .inl ⟨_, rfl, mx * mx, 2147483629, rfl, rfl, show (2147483629 : Int) ≠ 0 by decide, _, 7, rfl, rfl, ⟨by decide, by decide⟩, .inl ⟨_, rfl, .int n, s1, _, n, rfl, rfl, (by omega), ?_⟩⟩⟩)
      obtain ⟨g1, g2⟩ := fmod_lt (a := ((mx * mx).fmod 2147483629).fdiv 7) h0
      exact hQ _ _ g1 g2 (fun a z z1 z2 => by rw [upd_ne z1]; exact far a z z1 z2) ⟨ne, cells', dig', mx, hb3, by rw [upd_ne (Ne.symm ne)]; exact hc2, dd, f1, f2⟩
  -- the loop
  refine ⟨fun m σ' H2 => ∃ (cells' : List Int) (dig' : Int), m = cells'.length ∧ σ'[0]? = some (some (.ref b)) ∧ σ'[1]? = some (some (.int n)) ∧ 3 < σ'.length ∧ (∀ a, H a ≠ none → a ≠ b → a ≠ c → H2 a = H a) ∧ H2 b = some (.lst [.ref c, .int dig', .int mixed]) ∧ H2 c = some (.lst (cells'.map V.int)) ∧ 0 ≤ dig',
    ⟨cells.length, cells, dig, rfl, rfl, rfl, show 3 < 4 by decide, fun _ _ _ _ => rfl, hb, hc, d0⟩, fun m σ' H2 ⟨cells', dig', em, s0, s1, sl, far, hb2, hc2, dd⟩ => ?_⟩
  refine ix0 s0 hb2 (v := .int dig') rfl ⟨.int dig', .int 0, .int _, .int _, rfl, _, rfl, ?_⟩
  refine ite2 (fun e => ?_) (fun e => ?_)
  · refine ix0 s0 hb2 (v := .ref c) rfl ⟨by decide, fun p hp => ?_⟩
    have pc : p ≠ c := fun z => by subst z; rw [hc2] at hp; cases hp
    have pb : p ≠ b := fun z => by subst z; rw [hb2] at hp; cases hp
    have dc : ∀ xs : List Int, DpAll K (upd H2 p (.lst [])) (xs.map V.int) (xs.map PyData.int) := fun xs => by
      induction xs with
      | nil => exact .nil
      | cons x r ih => exact .cons (.int x) ih
    refine ⟨.list (cells'.map .int), .list [], .lst (SqL.of (by rw [upd_ne (Ne.symm pc)]; exact hc2)) (dc cells'), .lst (SqL.of upd_same) .nil, ?_, _, rfl, ?_⟩
    · exact (Bool.and_eq_true _ _).mpr ⟨shaped_ints cells', by decide⟩
    · have hpn : H p = none := Classical.byContradiction fun z => by
        have := far p z pb pc
        rw [hp] at this
        exact z this.symm
      have hb3 : (upd H2 p (.lst [])) b = some (.lst [.ref c, .int dig', .int mixed]) := by rw [upd_ne (Ne.symm pb)]; exact hb2
      have hc3 : (upd H2 p (.lst [])) c = some (.lst (cells'.map V.int)) := by rw [upd_ne (Ne.symm pc)]; exact hc2
      have far3 : ∀ a, H a ≠ none → a ≠ b → a ≠ c → (upd H2 p (.lst [])) a = H a := fun a z z1 z2 => by
        rw [upd_ne (show a ≠ p from fun q => z (by rw [q]; exact hpn))]; exact far a z z1 z2
      generalize (upd H2 p (.lst [])) = H3 at hb3 hc3 far3
      refine ite2 (fun e2 => ?_) (fun e2 => ?_)
      · have hne : cells' ≠ [] := fun z => by subst z; exact absurd e2 (by decide)
        have hl : 0 < cells'.length := List.length_pos_iff.mpr hne
        have hget : (cells'.map V.int)[(cells'.map V.int).length - 1]? = some (.int (cells'.getLast hne)) := by
          rw [List.length_map, List.getElem?_map, ← List.getLast?_eq_getElem?, List.getLast?_eq_getLast hne]; rfl
        refine ⟨fun σ3 H4 => ∃ (cells2 : List Int) (dig2 : Int), cells2.length < m ∧ σ3[0]? = some (some (.ref b)) ∧ σ3[1]? = some (some (.int n)) ∧ 3 < σ3.length ∧ (∀ a, H a ≠ none → a ≠ b → a ≠ c → H4 a = H a) ∧ H4 b = some (.lst [.ref c, .int dig2, .int mixed]) ∧ H4 c = some (.lst (cells2.map V.int)) ∧ 0 ≤ dig2,
          fun σ3 H4 ⟨cells2, dig2, h⟩ => ⟨cells2.length, h.1, cells2, dig2, rfl, h.2⟩, ?_⟩
        -- cell = bag[0].pop()
        refine ix0 s0 hb3 (v := .ref c) rfl ⟨.inl ⟨rfl, _, SqL.of hc3⟩, c, _, _, rfl, rfl, hc3, hget, ?_⟩
        have s0' : (σ'.set 2 (some (.int (cells'.getLast hne))))[0]? = some (some (.ref b)) := by rw [List.getElem?_set_ne (by decide)]; exact s0
        have s1' : (σ'.set 2 (some (.int (cells'.getLast hne))))[1]? = some (some (.int n)) := by rw [List.getElem?_set_ne (by decide)]; exact s1
        have s2' : (σ'.set 2 (some (.int (cells'.getLast hne))))[2]? = some (some (.int (cells'.getLast hne))) := by rw [List.getElem?_set_self (by omega)]
        have sl' : 3 < (σ'.set 2 (some (.int (cells'.getLast hne)))).length := by rw [List.length_set]; exact sl
        have hb4 : (upd H3 c (.lst (cells'.map V.int).dropLast)) b = some (.lst [.ref c, .int dig', .int mixed]) := by rw [upd_ne ne]; exact hb3
        have e0 : dig' = 0 := by
          have : PyData.eqv (.int dig') (.int 0) = true := e
          simpa [PyData.eqv] using this
        have fin : ∀ z : Int, 0 ≤ z → ∃ (cells2 : List Int) (dig2 : Int), cells2.length < m ∧ (σ'.set 2 (some (V.int (cells'.getLast hne))))[0]? = some (some (.ref b)) ∧ (σ'.set 2 (some (V.int (cells'.getLast hne))))[1]? = some (some (.int n)) ∧ 3 < (σ'.set 2 (some (V.int (cells'.getLast hne)))).length ∧
            (∀ a, H a ≠ none → a ≠ b → a ≠ c → (upd (upd H3 c (.lst (cells'.map V.int).dropLast)) b (.lst ([V.ref c, .int dig', .int mixed].set 1 (.int z)))) a = H a) ∧ (upd (upd H3 c (.lst (cells'.map V.int).dropLast)) b (.lst ([V.ref c, .int dig', .int mixed].set 1 (.int z)))) b = some (.lst [.ref c, .int dig2, .int mixed]) ∧
            (upd (upd H3 c (.lst (cells'.map V.int).dropLast)) b (.lst ([V.ref c, .int dig', .int mixed].set 1 (.int z)))) c = some (.lst (cells2.map V.int)) ∧ 0 ≤ dig2 := fun z hz =>
          ⟨cells'.dropLast, z, by rw [List.length_dropLast, em]; omega, s0', s1', sl', fun a z0 z1 z2 => by rw [upd_ne z1, upd_ne z2]; exact far3 a z0 z1 z2, upd_same, by rw [upd_ne (Ne.symm ne), upd_same, List.map_dropLast], hz⟩
        -- bag[1] = cell if cell > 10 ** 9 else 0
        refine ⟨_, s2', 10, 9, rfl, rfl, ⟨by decide, by decide, by decide⟩, _, _, rfl, rfl, _, rfl, ?_⟩
        refine ite2 (fun e3 => ?_) (fun e3 => ?_)
        · refine ⟨_, s2', sub0 s0' hb4 (j := 1) rfl (fin _ ?_)⟩
          have : (10 : Int) ^ (9 : Int).toNat < cells'.getLast hne := of_decide_eq_true e3
          have h9 : (10 : Int) ^ (9 : Int).toNat = 1000000000 := by decide
          omega
        · exact sub0 s0' hb4 (j := 1) rfl (fin 0 (Int.le_refl 0))
      · exact rest σ' H3 cells' dig' s0 s1 sl far3 hb3 hc3 dd
  · exact rest σ' H2 cells' dig' s0 s1 sl far hb2 hc2 dd
/-- the promise of a draw from the walk of its body -/
theorem draw_fn {P : Program} {w : World} {mg : Str → Option Value} {base : Heap} {x qual : Str} {st : Stmt} {f : Addr} {fd : FuncData} {k : Nat} {ps N : List Str} (F : Fun K x qual st f fd) (S : FnScope N ps (defScope st)) (hps : ps.length = 2) (hN : N.length = 4)
    (body : ∀ (cdv : Value) (A : Around) (outer : List Env) (s : Shared) (H : Hp) (E : XK), Rm k (A.deeper (envOfC qual (defScope st) s.heap.objs.size f cdv)) → PSs (cxOf CX0 P w K mg base N qual (defScope st) f cdv A outer s H E) (defBody st) (tDraw K)) :
    FnG P w K mg base CX0 (k + 1) f fd ps (spR K 2 [(0, .raw bagR)] drawD) := by
  refine funG_ok F S (fun vs H Q E h => ?_) (fun cdv A outer s H vs Q E hr h => ⟨_, body cdv A outer s H E hr, ?_⟩)
  · obtain ⟨_, _, _, b, _⟩ := h
    rw [b.lv, hps]
  · obtain ⟨Fz, ds, Sa, g, w'⟩ := h
    have lk0 : ([(0, Kd.raw bagR)] : Own).lookup 0 = some (.raw bagR) := rfl
    have lkn : ∀ {i : Nat} {kd : Kd}, ([(0, Kd.raw bagR)] : Own).lookup i = some kd → i = 0 ∧ kd = .raw bagR := fun {i kd} hi => by
      rw [List.lookup_cons] at hi
      cases i with
      | zero => simp at hi; exact ⟨rfl, hi.symm⟩
      | succ i => simp at hi
    obtain ⟨v0, d0, e1, e2, ⟨ed, b, c, rfl, eS, hB⟩, hfree⟩ := g.own 0 _ lk0
    have hl := g.ld
    have hv := g.lv
    match ds, hl with
    | [x0, x1], _ =>
      match vs, hv with
      | [u0, u1], _ =>
        cases e1
        obtain ⟨v1, q1, r1⟩ := g.imm 1 x1 rfl rfl
        cases q1
        unfold drawD at w'
        cases x1 with
        | int n =>
          cases r1
          have w' : (if 0 < n ∧ n < 1073741824 then M.draw n.toNat fun i => .ret (.int (i : Nat)) else .bad : M D).wp (fun d => ∀ v F' H', CEnd K [(0, .raw bagR)] [.ref b, .int n] (fun _ => .none) Fz H Sa F' H' → Rp K F' v d → Q v H') noE := w'
          by_cases hn : 0 < n ∧ n < 1073741824
          · rw [if_pos hn] at w'
            obtain ⟨_, w'⟩ := w'
            have hst : L2.start N [.ref b, .int n] = [some (.ref b), some (.int n), none, none] := by
              unfold L2.start
              rw [hN]; rfl
            rw [hst]
            refine draw_core hB hn.1 hn.2 fun r H' g1 g2 far hB' => ?_
            have e : r = ((r.toNat : Nat) : Int) := by omega
            have mem : ∀ a ∈ Sa 0, a = b ∨ a = c := fun a ha => by rw [eS] at ha; simpa using ha
            have hb := hfree b (by rw [eS]; simp)
            have hc := hfree c (by rw [eS]; simp)
            have out : ∀ a, H a ≠ none → a ∉ Sa 0 → H' a = H a := fun a z hn => by
              rw [eS] at hn
              simp only [List.mem_cons, not_or] at hn
              exact far a z hn.1 hn.2.1
            have := w' r.toNat (by omega) (.int r) Fz H' ⟨.refl _, fun a u q => by
                have hne : a ∉ Sa 0 := fun hm => by rw [(hfree a hm).1] at q; cases q
                rw [out a (by rw [g.fz a u q]; exact nofun) hne]; exact g.fz a u q, fun a _ h _ => h, fun a u q hno => by
                rw [out a (by rw [q]; exact nofun) (hno 0 _ lk0)]; exact q, Sa, fun i kd hi => ?_, fun i j kd kd' hi hj hij => absurd ((lkn hi).1.trans (lkn hj).1.symm) hij⟩ (by rw [← e]; exact .int _)
            · exact this
            · obtain ⟨rfl, rfl⟩ := lkn hi
              refine ⟨.ref b, rfl, ⟨rfl, b, c, rfl, eS, hB'⟩, fun a ha => ⟨(hfree a ha).1, ?_, .inl ⟨0, _, lk0, ha⟩⟩⟩
              obtain ⟨_, _, _, _, h1, h2, _⟩ := hB'
              rcases mem a ha with rfl | rfl
              · rw [h1]; exact nofun
              · rw [h2]; exact nofun
          · rw [if_neg hn] at w'
            exact w'.elim
        | _ => exact w'.elim
end
end DL

set_option Elab.async false
set_option linter.all false
set_option maxRecDepth 100000
set_option maxHeartbeats 4000000
/-! DB2: making the bag. -/
namespace DL
open PySem PySem.Spec PyProof.Rows L2
section
variable {K : PySem.W.Frag} {y : Y} {o : Own} {σ : Sl} {H F H' F' : Hp} {ρ : En}
/-- a name is stored: a thing of its own, newly made -/
theorem sr_setR {R : Raw} {i : Nat} {v : V} {S : List Addr} (s : SR K y o σ H ρ F) (hs : Same H H') (hn : ∀ a ∈ S, H a = none) (hok : R.ok K H' v S) (hp : ∀ p ∈ y.Z, p.1 ≠ i) (hi : i < σ.length) :
    SR K y (insO i (.raw R) o) (σ.set i (some v)) H' (ρ.set i (some .none)) F := by
  have s1 : SR K y o σ H' ρ F := s.ext ⟨.refl _, s.fz.trans hs, hs, fun _ _ e => e⟩
  have th := R.there hok
  have fF : ∀ a ∈ S, F a = none := fun a ha => s.fz.free (hn a ha)
  have fB : ∀ a ∈ S, y.B a = none := fun a ha => s.bs.free (hn a ha)
  obtain ⟨Sx, g1, g2⟩ := s.own
  refine ⟨by simpa using s1.len, s1.fz, s1.bs, s1.f0, s1.pr, fun p hpz => ?_, fun j d' h1 h2 => ?_, ?_⟩
  · rw [List.getElem?_set_ne (Ne.symm (hp p hpz))]; exact s1.pin p hpz
  · by_cases z : j = i
    · subst z; rw [ins_self] at h2; cases h2
    · rw [List.getElem?_set_ne (Ne.symm z)] at h1
      rw [ins_ne _ z] at h2
      obtain ⟨v', e1, q⟩ := s1.imm j d' h1 h2
      exact ⟨v', by rw [List.getElem?_set_ne (Ne.symm z)]; exact e1, q⟩
  · refine ⟨fun j => if j = i then S else Sx j, fun j kd hj => ?_, fun j k kd kd' hj hk hjk a ha => ?_⟩
    · by_cases z : j = i
      · subst z
        rw [ins_self] at hj
        cases hj
        refine ⟨v, .none, by rw [List.getElem?_set_self hi], by rw [List.getElem?_set_self (by rw [s.len]; exact hi)], ⟨rfl, by simp only [if_pos rfl]; exact hok⟩, fun a ha => ?_⟩
        simp only [if_pos rfl] at ha
        exact ⟨fF a ha, fB a ha, th a ha⟩
      · rw [ins_ne _ z] at hj
        obtain ⟨v', d', e1, e2, e3, e4⟩ := g1 j kd hj
        refine ⟨v', d', by rw [List.getElem?_set_ne (Ne.symm z)]; exact e1, by rw [List.getElem?_set_ne (Ne.symm z)]; exact e2, by simp only [if_neg z]; exact ownAt_ext e3 (.refl _) fun a ha => same_at hs (e4 a ha).2.2, fun a ha => ?_⟩
        simp only [if_neg z] at ha
        obtain ⟨r1, r2, r3⟩ := e4 a ha
        exact ⟨r1, r2, fun q => r3 (hs.free q)⟩
    · have old : ∀ {l : Nat} {kd2 : Kd}, l ≠ i → o.lookup l = some kd2 → ∀ a ∈ Sx l, a ∉ S := fun {l kd2} hl hlk a ha hS => by
        obtain ⟨_, _, _, _, _, e4⟩ := g1 l kd2 hlk
        exact (e4 a ha).2.2 (hn a hS)
      by_cases z : j = i
      · subst z
        simp only [if_pos rfl] at ha
        have zk : k ≠ j := fun q => hjk q.symm
        rw [ins_ne _ zk] at hk
        simp only [if_neg zk]
        exact fun q => old zk hk a q ha
      · simp only [if_neg z] at ha
        rw [ins_ne _ z] at hj
        by_cases zk : k = i
        · subst zk
          simp only [if_pos rfl]
          exact old z hj a ha
        · simp only [if_neg zk]
          rw [ins_ne _ zk] at hk
          exact g2 j k kd kd' hj hk hjk a ha
end
/-- the promise of a def that makes the bag out of the script -/
def spBag (K : PySem.W.Frag) (R : Raw) (ns : List Int) (ob : Obj) : Sp := fun vs H Q _ => ∃ v S, vs = [v] ∧ scOk ns ob K H v S ∧ (∀ b ∈ S, H b ≠ none) ∧ ∀ v S H', Same H H' → (∀ b ∈ S, H b = none) → R.ok K H' v S → Q v H'
def gBag (i : Nat) : G := fun ρ => match Nat.blt i ρ.length with
  | true => .ret (.nx, ρ.set i (some .none))
  | false => .bad
section
variable {X : Cx} {C : Sc} {ol o : Own} {R : Raw}
/-- bag = _law_bag(script) -/
theorem ds_bag {ns : List Int} {ob : Obj} {k i j : Nat} {f : Addr} {fd : FuncData} {ps : List Str} {x y : Str} {a : Expr} {p p' pos pos2 : Pos} (F : FnG X.prog X.w X.K X.mg X.base CX0 k f fd ps (spBag X.K R ns ob)) (hr : Rm k X.A) (hg : Gl X x) (hm : X.mg x = some (.ref f)) (hk : PySem.W.keepIn X.K (.ref f) = true) (hb : Binds X.K fd ps [])
    (hN : X.N.Nodup) (ha : PE X a (tVar j)) (ho : o.lookup j = some (.raw (scR ns ob))) (hi : X.N[i]? = some y := by rfl) (hx : Loc X.env.scope y := by first | exact Or.inl rfl | exact Or.inr rfl) (hkp : i ∉ C.kp := by first | decide | (dsimp only; decide))
    (hdb : (x == ("__debug__" : Str)) = false := by decide) (he : starEach [a] X.env = (false, eval a X.env) :: starEach [] X.env := by rfl) (hpl : (backTo pos2 (starEach [] X.env)).any (·.1) = false := by rfl)
    (hf : X.fn y = true ∨ X.env.scope.names.lookup y = some .local := by first | exact .inl rfl | exact .inr rfl | assumption) :
    DS X C ol o (.Assign [.Name y p'] (.Call (.Name x p) [a] [] pos2) pos) (insO i (.raw R) o) (gBag i) (tAsg (tCall (spBag X.K R ns ob) [] E0 (tCons (tVar j) tNil)) (gName i)) := by
  refine ⟨ps_set hN hi hx (peG_call F hr hg hm hk hb .nil pass0 (pa_cons ha pa_nil he) hdb he hpl) (by rfl) hf, fun y σ H ρ F D' hz s w => ?_⟩
  unfold gBag at w
  split at w
  · rename_i hlt
    have hlt : i < ρ.length := Nat.blt_eq.mp hlt
    obtain ⟨S, g1, g2⟩ := id s.own
    obtain ⟨v, d, e1, e2, ⟨ed, e3⟩, e4⟩ := g1 j _ ho
    refine ⟨_, e1, ⟨v, _, rfl, e3, fun b hb => (e4 b hb).2.2, fun v S H' hs hn hok => ?_⟩⟩
    exact w _ H' F (sr_setR s hs hn hok (fun p hp q => hkp (q ▸ hz p hp)) (by rw [← s.len]; exact hlt)) (.refl _)
  · exact w.elim
/-- script[:63] -/
theorem de_scr {ns : List Int} {ob : Obj} {j : Nat} {a c : Expr} {p2 pos : Pos} (ha : PE X a (tVar j)) (hc : PE X c (tC (.int 63))) (ho : o.lookup j = some (.raw (scR ns ob))) (hl : ns.length ≤ 63) :
    DE X o (.Subscript a (.Slice none (some c) none p2) pos) (eC (.list (ns.map PyData.int))) (tSl (rSlL X.K) (tVar j) tNoPart (tPart (tC (.int 63)))) := by
  refine ⟨pe_slice sl_list ha po_none (po_some hc), fun y σ H ρ F Q s w => ?_⟩
  obtain ⟨S, g1, g2⟩ := id s.own
  obtain ⟨v, d, e1, e2, ⟨ed, e3⟩, e4⟩ := g1 j _ ho
  obtain ⟨a, rfl, hS⟩ := scOk_seq e3
  refine ⟨_, e1, 63, rfl, a, _, rfl, hS, fun p hp => ?_⟩
  have e : cutV (ns.map V.int) none (some 63) = ns.map V.int := by
    unfold cutV
    rw [show HT.sIx (ns.map V.int).length 0 none = 0 from rfl, show HT.sIx (ns.map V.int).length (ns.map V.int).length (some 63) = min 63 (ns.map V.int).length from HT.sIx_nat _ _ 63]
    rw [List.drop_zero, Nat.sub_zero, List.take_of_length_le (by rw [List.length_map]; omega)]
  have e' : cutV (List.map V.int ns) none (some 63) = ns.map V.int := e
  rw [e']
  have r : RpAll X.K F (ns.map V.int) (ns.map PyData.int) := by
    clear w e1 e2 e3 e4 hS e e' ho hl
    induction ns with
    | nil => exact .nil
    | cons n ns ih => exact .cons (.int n) ih
  have x := ext_new (o := .lst (ns.map V.int)) s.fz hp
  exact w _ _ _ (s.ext x) x.f (rp_newL (s.fz.free hp) r)
end

/-! ### the bag's making, by its meaning -/
def absI (i : Int) : Int := if i < 0 then -i else i
def gBag1 (ns : List Int) : G := gSetN 1 (eComp (iSeq (eC (.list (ns.map PyData.int)))) [3] (kName 3) tYesD (eCall absD (aCons (eVar 3) aNil)))
def gBag2 : G := gSetN 2 (eBin addD (eC (.int 16253)) (eCall lenD (aCons (eVar 1) aNil)))
def eMix : En → M D := eBin modD (eCall intD (aCons (eBin addD (eBin addD (eBin mulD (eVar 2) (eC (.int 48271))) (eBin modD (eCall intD (aCons (eVar 3) aNil)) (eC (.int 2147483629)))) (eC (.int 5))) aNil)) (eC (.int 2147483647))
def gBag3 : G := gFor (iSeq (eVar 1)) (kName 3) (gSeq (gSetN 2 eMix) gNil)
theorem mulD_small {m k : Int} (h0 : 0 ≤ m) (h1 : m < 4294967296) : mulD (.int m) (.int k) = .ret (.int (m * k)) := by
  have h : (decide (-(2 ^ 64) < m) && decide (m < 2 ^ 64)) = true := by
    simp only [Bool.and_eq_true, decide_eq_true_eq]
    omega
  simp only [mulD, h, Bool.true_or, if_true]
theorem comp_abs (ρ : En) (h : ρ.length = 4) : ∀ ns : List Int, compL (kName 3) tYesD (eCall absD (aCons (eVar 3) aNil)) ρ (ns.map PyData.int) = .ret ((ns.map absI).map PyData.int)
  | [] => rfl
  | n :: ns => by
    have e : eVar 3 (ρ.set 3 (some (.int n))) = .ret (.int n) := by
      unfold eVar
      rw [List.getElem?_set_self (by omega)]
    have ih := comp_abs ρ h ns
    simp only [List.map_cons, compL, kName, h, show (3 : Nat) < 4 by decide, if_true, M.ret_bind, tYesD, eCall, aCons, aNil, e, absD, ih]
    rfl
theorem mix_step {ρ : En} {m c : Int} (h2 : ρ[2]? = some (some (.int m))) (h3 : ρ[3]? = some (some (.int c))) (m0 : 0 ≤ m) (m1 : m < 2147483647) : ∃ m', eMix ρ = .ret (.int m') ∧ 0 ≤ m' ∧ m' < 2147483647 := by
  have e2 : eVar 2 ρ = .ret (.int m) := by unfold eVar; rw [h2]
  have e3 : eVar 3 ρ = .ret (.int c) := by unfold eVar; rw [h3]
  refine ⟨(m * 48271 + c.fmod 2147483629 + 5).fmod 2147483647, ?_, Int.fmod_nonneg_of_pos _ (by decide), Int.fmod_lt_of_pos _ (by decide)⟩
  simp only [eMix, eBin, eCall, aCons, aNil, eC, e2, e3, M.ret_bind, mulD_small m0 (show m < 4294967296 by omega), intD, modD, addD]
  rfl
theorem mix_loop (cs : List D) : ∀ (xs : List Int) (ρ : En) (m : Int), ρ.length = 4 → ρ[1]? = some (some (.list cs)) → ρ[2]? = some (some (.int m)) → 0 ≤ m → m < 2147483647 →
    ∃ ρ' m', forL (kName 3) (gSeq (gSetN 2 eMix) gNil) (xs.map PyData.int) ρ = .ret (.nx, ρ') ∧ ρ'.length = 4 ∧ ρ'[1]? = some (some (.list cs)) ∧ ρ'[2]? = some (some (.int m')) ∧ 0 ≤ m' ∧ m' < 2147483647
  | [], ρ, m, hl, h1, h2, m0, m1 => ⟨ρ, m, rfl, hl, h1, h2, m0, m1⟩
  | x :: xs, ρ, m, hl, h1, h2, m0, m1 => by
    have g1 : (ρ.set 3 (some (.int x)))[1]? = some (some (.list cs)) := by rw [List.getElem?_set_ne (by decide)]; exact h1
    have g2 : (ρ.set 3 (some (.int x)))[2]? = some (some (.int m)) := by rw [List.getElem?_set_ne (by decide)]; exact h2
    have g3 : (ρ.set 3 (some (.int x)))[3]? = some (some (.int x)) := by rw [List.getElem?_set_self (by omega)]
    have gl : (ρ.set 3 (some (.int x))).length = 4 := by rw [List.length_set]; exact hl
    obtain ⟨m', e, q0, q1⟩ := mix_step g2 g3 m0 m1
    generalize hρ : ρ.set 3 (some (.int x)) = ρ1 at g1 g2 g3 gl e
    obtain ⟨ρ', m2, e2, r⟩ := mix_loop cs xs (ρ1.set 2 (some (.int m'))) m' (by rw [List.length_set]; exact gl) (by rw [List.getElem?_set_ne (by decide)]; exact g1) (by rw [List.getElem?_set_self (by omega)]) q0 q1
    refine ⟨ρ', m2, ?_, r⟩
    have hb : Nat.blt 2 ρ1.length = true := by rw [gl]; rfl
    simp only [List.map_cons, forL, kName, hl, show (3 : Nat) < 4 by decide, if_true, M.ret_bind, hρ, gSeq, gSetN, hb, gSet, e, gThen, gNil, e2]
theorem bag_sem (ns : List Int) (h : ns.length ≤ 63) : ((gSeq (gBag1 ns) (gSeq gBag2 (gSeq gBag3 gNil))) (entE 3 [.none])).wp (fun p => p.1 = .nx ∧ p.2[1]? = some (some (.list ((ns.map absI).map PyData.int))) ∧ ∃ m, p.2[2]? = some (some (.int m)) ∧ 0 ≤ m ∧ m < 2147483647) noE := by
  have hz : (ns.map PyData.int).length ≤ sizeLine := by rw [List.length_map, sizeLine_eq]; omega
  have e1 : gBag1 ns (entE 3 [.none]) = .ret (.nx, [some .none, some (.list ((ns.map absI).map PyData.int)), none, none]) := by
    show gSetN 1 _ [some .none, none, none, none] = _
    simp only [gSetN, show Nat.blt 1 ([some .none, none, none, none] : En).length = true from rfl, gSet, eComp, iSeq, eC, M.ret_bind, seqItems, hz, if_true, comp_abs (killS [3] [some .none, none, none, none]) rfl ns]
    rfl
  have e2 : gBag2 [some .none, some (.list ((ns.map absI).map PyData.int)), none, none] = .ret (.nx, [some .none, some (.list ((ns.map absI).map PyData.int)), some (.int (16253 + ((ns.map absI).map PyData.int).length)), none]) := rfl
  obtain ⟨ρ', m', e3, _, r1, r2, r3, r4⟩ := mix_loop ((ns.map absI).map PyData.int) (ns.map absI) [some .none, some (.list ((ns.map absI).map PyData.int)), some (.int (16253 + ((ns.map absI).map PyData.int).length)), none] (16253 + (((ns.map absI).map PyData.int).length : Int)) rfl rfl rfl (by omega) (by rw [List.length_map, List.length_map]; omega)
  have e3' : gBag3 [some .none, some (.list ((ns.map absI).map PyData.int)), some (.int (16253 + ((ns.map absI).map PyData.int).length)), none] = .ret (.nx, ρ') := e3
  simp only [gSeq, e1, M.ret_bind, gThen, e2, e3', gNil]
  exact ⟨rfl, r1, m', r2, r3, r4⟩
def tBagEnd (K : PySem.W.Frag) : TS := tSeq (tRet (tLst (tCons (tRevL K (tVar 1)) (tCons (tI 0) (tCons (tVar 2) tNil))))) tNext
theorem bag_end {X : Cx} {ns : List Int} {ob : Obj} {sts : List Stmt} {t : TS} {N : List Str} {H : Hp} {v : V} {S : List Addr} {Q : VK} (hN : N.length = 4) (hl : ns.length ≤ 63)
    (d : DSs X ⟨[0], [(0, .raw (scR ns ob))]⟩ [] [(0, .raw (scR ns ob))] sts [(0, .raw (scR ns ob))] (gSeq (gBag1 ns) (gSeq gBag2 (gSeq gBag3 gNil))) t) (hS : scOk ns ob X.K H v S) (hne : ∀ b ∈ S, H b ≠ none)
    (q : ∀ v S H', Same H H' → (∀ b ∈ S, H b = none) → bagR.ok X.K H' v S → Q v H') :
    t { nx := tBagEnd X.K { nx := fun _ H' => Q .non H', rt := Q }, rt := Q } (L2.start N [v]) H := by
  have beg : CBeg X.K 1 [(0, .raw (scR ns ob))] [v] [.none] (fun _ => none) H (fun _ => S) := by
    have lk : ∀ {i : Nat} {kd : Kd}, ([(0, Kd.raw (scR ns ob))] : Own).lookup i = some kd → i = 0 ∧ kd = .raw (scR ns ob) := fun {i kd} hi => by
      rw [List.lookup_cons] at hi
      cases i with
      | zero => simp at hi; exact ⟨rfl, hi.symm⟩
      | succ i => simp at hi
    refine ⟨rfl, rfl, (fun b u z => nomatch (show (none : Option HO) = some u from z)), fun i d hi hn => ?_, fun i kd hi => ?_, fun i j kd kd' hi hj hij => ?_⟩
    · cases i with
      | zero => rw [List.lookup_cons] at hn; simp at hn
      | succ i => simp at hi
    · obtain ⟨rfl, rfl⟩ := lk hi
      exact ⟨v, .none, rfl, rfl, ⟨rfl, hS⟩, fun b hb => ⟨rfl, hne b hb⟩⟩
    · exact absurd ((lk hi).1.trans (lk hj).1.symm) hij
  refine d.q _ _ H (entE 3 [.none]) _ _ (zOf_kp (kp := [0]) rfl) (sr_entry (m := 3) beg hN) (M.wp_mono (fun p k => ?_) (fun _ z => z) (bag_sem ns hl))
  obtain ⟨fl, ρ'⟩ := p
  obtain ⟨k1, k2, m, k3, k4, k5⟩ := k
  have k1 : fl = .nx := k1
  subst k1
  intro σ' H' F' s' e'
  have c := sr_cend beg s'
  have same : Same H H' := fun a u hu => by
    by_cases hm : a ∈ S
    · obtain ⟨a0, rfl, ⟨rfl, _⟩ | ⟨rfl, h, hk⟩⟩ := hS
      · cases hm
      · have e : a = a0 := by simpa using hm
        subst e
        obtain ⟨S', g1, _⟩ := c.own
        obtain ⟨v', e1, ⟨_, e2⟩, _⟩ := g1 0 _ rfl
        cases e1
        obtain ⟨a1, e3, ⟨e4, h4⟩ | ⟨_, h4, _⟩⟩ := e2
        · cases e3
          rw [h] at hu
          rcases h4 with (h4 | ⟨_, h4⟩) | h4
          · cases h4
          · cases h4
          · obtain ⟨o, its, n, h5, _⟩ := h4
            rw [hk] at h5; cases h5
        · cases e3
          rw [h] at hu; cases hu
          exact h4
    · exact c.keep a u hu fun i kd hi => hm
  obtain ⟨v1, e1, r1⟩ := s'.imm 1 _ k2 rfl
  obtain ⟨v2, e2, r2⟩ := s'.imm 2 _ k3 rfl
  cases r2
  cases r1 with
  | @lst a xs _ hF hr =>
    have hxs : xs = (ns.map absI).map V.int := by
      have := intsOf_rp hr (ns := ns.map absI) (by
        generalize ns.map absI = zs
        induction zs with
        | nil => rfl
        | cons z zs ih => rw [List.map_cons]; unfold intsOf; rw [ih]; rfl)
      exact this
    subst hxs
    refine ⟨_, e1, a, _, rfl, SqL.of (s'.fz _ _ hF), fun c hc => ⟨_, e2, (by show 3 ≤ sizeLine; decide), fun b hb => ?_⟩⟩
    have hbc : b ≠ c := fun z => by rw [z, upd_same] at hb; cases hb
    have hb' : H' b = none := by rw [upd_ne hbc] at hb; exact hb
    refine q (.ref b) [b, c] _ (fun a' u hu => ?_) (fun a' ha => ?_) ⟨b, c, rfl, rfl, hbc, (ns.map absI).reverse, 0, m, upd_same, by rw [upd_ne (Ne.symm hbc), upd_same, ← List.map_reverse], Int.le_refl 0, k4, k5⟩
    · have h1 := same a' u hu
      have n1 : a' ≠ b := ne_of_none h1 hb'
      have n2 : a' ≠ c := ne_of_none h1 hc
      rw [upd_ne n1, upd_ne n2]; exact h1
    · have e : a' = b ∨ a' = c := by simpa using ha
      rcases e with rfl | rfl
      · exact same.free hb'
      · exact same.free hc
end DL

set_option Elab.async false
set_option linter.all false
set_option maxRecDepth 100000
set_option maxHeartbeats 4000000
/-! DK7: what the printed walks use besides. -/
namespace DL
open PySem PySem.Spec PyProof.Rows L2

def subO : Own → Own → Prop
  | [], _ => True
  | (i, k) :: r, o => o.lookup i = some k ∧ subO r o
theorem subO_mem : ∀ {orr o : Own} {p : Nat × Kd}, subO orr o → p ∈ orr → o.lookup p.1 = some p.2
  | (i, k) :: r, o, p, h, hp => by
    rcases List.mem_cons.mp hp with e | hp
    · subst e; exact h.1
    · exact subO_mem h.2 hp
theorem subO_lk {orr o : Own} (h : subO orr o) : ∀ i kd, orr.lookup i = some kd → o.lookup i = some kd := fun i kd hi => subO_mem h (mem_lk hi)
section
variable {X : Cx} {C : Sc} {ol o o' : Own} {sts : List Stmt} {g : G} {t : TS} {a b : Expr} {rest : List Expr} {fa fb : En → M D} {ta tb : TE} {pos : Pos}
/-- an owned slot is forgotten -/
theorem dss_fgt (i : Nat) (h : DSs X C ol (remO o i) sts o' g t) : DSs X C ol o sts o' (gKill [i] g) t := by
  refine ⟨h.p, fun y σ H ρ F D' hz s w => h.q y σ H _ F D' hz (sr_sub s (fun j kd hj => ?_) (killS_len [i] ρ) (fun j d hj => ⟨killS_get hj, fun hn => ?_⟩) fun j kd hj => ?_) w⟩
  · by_cases z : j = i
    · subst z; rw [lookup_rem_self] at hj; cases hj
    · rwa [lookup_rem z] at hj
  · by_cases z : j = i
    · subst z
      exact absurd (killS_notin hj) (by simp)
    · rwa [lookup_rem z] at hn
  · have z : j ≠ i := fun z => by subst z; rw [lookup_rem_self] at hj; cases hj
    exact killS_out (by simpa using z)

/-! ### truth values as values -/
def eAndV (f g : En → M D) : En → M D := fun ρ => (f ρ).bind fun x => match x with
  | .bool true => (g ρ).bind fun y => match y with
    | .bool b => .ret (.bool b)
    | _ => .bad
  | .bool false => .ret (.bool false)
  | _ => .bad
def eOrV (f g : En → M D) : En → M D := fun ρ => (f ρ).bind fun x => match x with
  | .bool false => (g ρ).bind fun y => match y with
    | .bool b => .ret (.bool b)
    | _ => .bad
  | .bool true => .ret (.bool true)
  | _ => .bad
def eNotV (f : En → M D) : En → M D := fun ρ => (f ρ).bind fun x => match x with
  | .bool b => .ret (.bool (!b))
  | _ => .bad
theorem de_notV (ha : DE X o a fa ta) : DE X o (.UnaryOp .Not a pos) (eNotV fa) (tNotV ta) := by
  refine ⟨pe_not ha.p, fun y σ H ρ F Q s w => ha.q y σ H ρ F _ s (M.wp_mono (fun d k v H' F' s' e' hd => ?_) (fun _ z => z) (M.wp_bind.mp w))⟩
  cases hd with
  | bl b => exact ⟨b, rfl, k _ H' F' s' e' (.bl _)⟩
  | _ => exact k.elim

/-! ### y = [.. for ..] -/
variable {st : List Nat} {elt tg iter : Expr} {ifs : List Expr} {scope : Scope} {own : List (Str × Nat)} {fi : En → M (List D)} {wi : TI} {ft : D → En → M En} {gt : TG} {fc : En → M Bool} {tc : TT} {fe : En → M D} {te : TE} {spos py : Pos}
theorem ds_lcN {i : Nat} {x : Str} (vs : List Nat) (hc : X.calm = true) (hN : X.N.Nodup) (hi : DJ X o st tg iter fi wi) (ok : BlkOk X.N X.env.scope scope own)
    (hg : ∀ (s : Shared) (H : Hp) (C : Addr) (cl : List (Str × Addr)) (fp : List Addr), DG (X.blk s H scope (compEnvC scope cl C X.env) fp) [] o tg ft gt)
    (ht : ∀ (s : Shared) (H : Hp) (C : Addr) (cl : List (Str × Addr)) (fp : List Addr), DTs (X.blk s H scope (compEnvC scope cl C X.env) fp) o ifs fc tc)
    (he : ∀ (s : Shared) (H : Hp) (C : Addr) (cl : List (Str × Addr)) (fp : List Addr), DE (X.blk s H scope (compEnvC scope cl C X.env) fp) o elt fe te)
    (tw : TW vs ft gt) (hvs : own.map (·.2) = vs := by rfl) (hst : ∀ i ∈ st, i ∉ vs := by decide) (hov : (vs.all fun i => (o.lookup i).isNone) = true := by rfl)
    (hs : ∀ x, foldedSetIterable iter X.env x = pure x := by intro _; rfl) (hy : X.N[i]? = some x := by rfl) (hyl : X.env.scope.names.lookup x = some .local := by rfl)
    (hsw : swapsWith (.ListComp elt [⟨tg, iter, ifs, 0⟩] scope pos) (some (.Name x py)) spos.line X.env = pure true := by exact sw_true rfl rfl rfl rfl) (hk : i ∉ C.kp := by first | decide | (dsimp only; decide)) :
    DS X C ol o (.Assign [.Name x py] (.ListComp elt [⟨tg, iter, ifs, 0⟩] scope pos) spos) (insO i .lst o) (gSetN i (eComp fi vs ft fc fe)) (tAsg (tLc wi gt tc te (own.map (·.2))) (gName i)) :=
  ds_setNp (ps_setLc hc hN hy hyl hsw hi.p ok (fun s H C cl fp => (hg s H C cl fp).p) (fun s H C cl fp => (ht s H C cl fp).p) (fun s H C cl fp => (he s H C cl fp).p) hs) (dn_lc vs hc hN hi ok hg ht he tw hvs hst hov hs) hk
theorem ds_lcF {i : Nat} {x : Str} (vs : List Nat) (hc : X.calm = true) (hN : X.N.Nodup) (hi : DJ X o st tg iter fi wi) (ok : BlkOk X.N X.env.scope scope own)
    (hg : ∀ (s : Shared) (H : Hp) (C : Addr) (cl : List (Str × Addr)) (fp : List Addr), DG (X.blk s H scope (compEnvC scope cl C X.env) fp) [] o tg ft gt)
    (ht : ∀ (s : Shared) (H : Hp) (C : Addr) (cl : List (Str × Addr)) (fp : List Addr), DTs (X.blk s H scope (compEnvC scope cl C X.env) fp) o ifs fc tc)
    (he : ∀ (s : Shared) (H : Hp) (C : Addr) (cl : List (Str × Addr)) (fp : List Addr), DE (X.blk s H scope (compEnvC scope cl C X.env) fp) o elt fe te)
    (tw : TW vs ft gt) (hvs : own.map (·.2) = vs := by rfl) (hst : ∀ i ∈ st, i ∉ vs := by decide) (hov : (vs.all fun i => (o.lookup i).isNone) = true := by rfl)
    (hs : ∀ x, foldedSetIterable iter X.env x = pure x := by intro _; rfl) (hy : X.N[i]? = some x := by rfl) (hyl : X.env.scope.names.lookup x = some .local := by rfl)
    (hsw : swapsWith (.ListComp elt [⟨tg, iter, ifs, 0⟩] scope pos) (some (.Name x py)) spos.line X.env = pure true := by exact sw_true rfl rfl rfl rfl) (hk : i ∉ C.kp := by first | decide | (dsimp only; decide)) :
    DS X C ol o (.Assign [.Name x py] (.ListComp elt [⟨tg, iter, ifs, 0⟩] scope pos) spos) (remO o i) (gSetN i (eComp fi vs ft fc fe)) (tAsg (tLc wi gt tc te (own.map (·.2))) (gName i)) :=
  ds_setp (ps_setLc hc hN hy hyl hsw hi.p ok (fun s H C cl fp => (hg s H C cl fp).p) (fun s H C cl fp => (ht s H C cl fp).p) (fun s H C cl fp => (he s H C cl fp).p) hs) (dn_lc vs hc hN hi ok hg ht he tw hvs hst hov hs).fr hk
/-- a def that isn't called -/
theorem fnG_bad {P : Program} {w : World} {K : PySem.W.Frag} {mg : Str → Option Value} {base : Heap} {k n : Nat} {f : Addr} {fd : FuncData} {ps : List Str} {o0 : Own} : FnG P w K mg base CX0 k f fd ps (spG K n o0 fun _ => .bad) :=
  ⟨fun vs H Q E h => let ⟨_, _, _, _, h⟩ := h; h.elim, fun A outer s H args us vs Q E _ _ _ _ _ h => let ⟨_, _, _, _, h⟩ := h; h.elim⟩
theorem fnR_bad {P : Program} {w : World} {K : PySem.W.Frag} {mg : Str → Option Value} {base : Heap} {k n : Nat} {f : Addr} {fd : FuncData} {ps : List Str} {o0 : Own} : FnG P w K mg base CX0 k f fd ps (spR K n o0 fun _ => .bad) :=
  ⟨fun vs H Q E h => let ⟨_, _, _, _, h⟩ := h; h.elim, fun A outer s H args us vs Q E _ _ _ _ _ h => let ⟨_, _, _, _, h⟩ := h; h.elim⟩
theorem ds_asgT2 {e : Expr} {f : En → M D} {te : TE} {gt : TG} {k : D → En → M En} (he : DE X o e f te) (hg : DG X C.kp o tg k gt) (hs : swapsWithSole [tg] e pos.line X.env = pure false := by rfl) (hw : swappedStores [tg] e X.env = pure none := by rfl)
    (h1 : (assignEach [tg] X.env).map (·.2) = [assign tg X.env] := by rfl) : DS X C ol o (.Assign [tg] e pos) o (gSetT k f) (tAsg te gt) := ds_asgT (ps_asg he.p hg.p hs hw h1) he hg
end
end DL

set_option Elab.async false
set_option linter.all false
set_option maxRecDepth 100000
set_option maxHeartbeats 4000000
/-! DK8: the rules by name, as the printed walks use them. -/
namespace DL
open PySem PySem.Spec PyProof.Rows L2
section
variable {X : Cx} {o : Own} {a b c e : Expr} {es : List Expr} {fa fb fc : En → M D} {ta tb tc : TE} {fs : En → M (List D)} {t : TA} {pos p : Pos} {k : Nat}
theorem de_ix {K : PySem.W.Frag} (hK : X.K = K) (ha : DB X o a fa ta) (hb : DB X o b fb tb) (hs : PlainIx b) : DE X o (.Subscript a b pos) (eBin ixD fa fb) (tOp (rIx K) ta tb) := by subst hK; exact de_ixE ix_seq e_ix ha hb hs
theorem de_add {K : PySem.W.Frag} (hK : X.K = K) (ha : DB X o a fa ta) (hb : DB X o b fb tb) : DE X o (.BinOp a .Add b pos) (eBin addD fa fb) (tOp (rAddAll K) ta tb) := by subst hK; exact de_binE op_addAll e_add ha hb
theorem de_sub (ha : DB X o a fa ta) (hb : DB X o b fb tb) : DE X o (.BinOp a .Sub b pos) (eBin subD fa fb) (tOp (rI0 fun i j => .int (i - j)) ta tb) := de_bin op_sub fl_sub ha hb
theorem de_mul (ha : DB X o a fa ta) (hb : DB X o b fb tb) : DE X o (.BinOp a .Mult b pos) (eBin mulD fa fb) (tOp (rMulAll) ta tb) := de_bin op_mulAll fl_mul ha hb
theorem de_div (ha : DB X o a fa ta) (hb : DB X o b fb tb) : DE X o (.BinOp a .FloorDiv b pos) (eBin fdivD fa fb) (tOp (rDivAll) ta tb) := de_bin op_divAll fl_div ha hb
theorem de_mod (ha : DB X o a fa ta) (hb : DB X o b fb tb) : DE X o (.BinOp a .Mod b pos) (eBin modD fa fb) (tOp (rI (fun _ j => j ≠ 0) fun i j => .int (i.fmod j)) ta tb) := de_bin op_modN fl_mod ha hb
theorem de_pow (ha : DB X o a fa ta) (hb : DB X o b fb tb) : DE X o (.BinOp a .Pow b pos) (eBin powD fa fb) (tOp (rI CPow fun i j => .int (i ^ j.toNat)) ta tb) := de_bin op_pow fl_pow ha hb
theorem de_shl (ha : DB X o a fa ta) (hb : DB X o b fb tb) : DE X o (.BinOp a .LShift b pos) (eBin shlD fa fb) (tOp (rI CPow fun i j => .int (i * 2 ^ j.toNat)) ta tb) := de_bin op_shl fl_shl ha hb
theorem de_shr (ha : DB X o a fa ta) (hb : DB X o b fb tb) : DE X o (.BinOp a .RShift b pos) (eBin shrD fa fb) (tOp (rI (fun _ j => 0 ≤ j) fun i j => .int (i / 2 ^ j.toNat)) ta tb) := de_bin op_shr fl_shr ha hb
theorem de_band (ha : DB X o a fa ta) (hb : DB X o b fb tb) : DE X o (.BinOp a .BitAnd b pos) (eBin andD fa fb) (tOp (rI0 fun i j => .int (Builtin.bitAnd i j)) ta tb) := de_bin op_and fl_and ha hb
theorem de_bor (ha : DB X o a fa ta) (hb : DB X o b fb tb) : DE X o (.BinOp a .BitOr b pos) (eBin orD fa fb) (tOp (rI0 fun i j => .int (Builtin.bitOr i j)) ta tb) := de_bin op_or fl_or ha hb
theorem de_eq {K : PySem.W.Frag} (hK : X.K = K) (hr : Rm k X.A) (ha : DB X o a fa ta) (hb : DB X o b fb tb) (hm : behindInMarks .Eq b = false) : DE X o (.Compare a [.Eq] [b] pos) (eBin eqD fa fb) (tOp (rEqX K) ta tb) := by subst hK; exact de_cmp (op_eqS hr.r) fl_eqX ha hb hm
theorem dt_eq {K : PySem.W.Frag} (hK : X.K = K) (hr : Rm k X.A) (ha : DB X o a fa ta) (hb : DB X o b fb tb) (hm : behindInMarks .Eq b = false) : DT X o (.Compare a [.Eq] [b] pos) (eTest (eBin eqD fa fb)) (tTest (tOp (rEqX K) ta tb)) := by subst hK; exact dt_cmp (op_eqS hr.r) fl_eqX ha hb hm
theorem de_ne {K : PySem.W.Frag} (hK : X.K = K) (hr : Rm k X.A) (ha : DB X o a fa ta) (hb : DB X o b fb tb) (hm : behindInMarks .NotEq b = false) : DE X o (.Compare a [.NotEq] [b] pos) (eBin neD fa fb) (tOp (rNeX K) ta tb) := by subst hK; exact de_cmp (op_neS hr.r) fl_neX ha hb hm
theorem dt_ne {K : PySem.W.Frag} (hK : X.K = K) (hr : Rm k X.A) (ha : DB X o a fa ta) (hb : DB X o b fb tb) (hm : behindInMarks .NotEq b = false) : DT X o (.Compare a [.NotEq] [b] pos) (eTest (eBin neD fa fb)) (tTest (tOp (rNeX K) ta tb)) := by subst hK; exact dt_cmp (op_neS hr.r) fl_neX ha hb hm
theorem de_lt {K : PySem.W.Frag} (hK : X.K = K) (hr : Rm k X.A) (ha : DB X o a fa ta) (hb : DB X o b fb tb) (hm : behindInMarks .Lt b = false) : DE X o (.Compare a [.Lt] [b] pos) (eBin ltD fa fb) (tOp (rDat K cmpOk PySem.W.dataLt) ta tb) := by subst hK; exact de_cmp (op_ltX hr.r) fl_dat ha hb hm
theorem dt_lt {K : PySem.W.Frag} (hK : X.K = K) (hr : Rm k X.A) (ha : DB X o a fa ta) (hb : DB X o b fb tb) (hm : behindInMarks .Lt b = false) : DT X o (.Compare a [.Lt] [b] pos) (eTest (eBin ltD fa fb)) (tTest (tOp (rDat K cmpOk PySem.W.dataLt) ta tb)) := by subst hK; exact dt_cmp (op_ltX hr.r) fl_dat ha hb hm
theorem de_gt {K : PySem.W.Frag} (hK : X.K = K) (hr : Rm k X.A) (ha : DB X o a fa ta) (hb : DB X o b fb tb) (hm : behindInMarks .Gt b = false) : DE X o (.Compare a [.Gt] [b] pos) (eBin gtD fa fb) (tOp (rDat K cmpOk fun d e => PySem.W.dataLt e d) ta tb) := by subst hK; exact de_cmp (op_gtX hr.r) fl_dat ha hb hm
theorem dt_gt {K : PySem.W.Frag} (hK : X.K = K) (hr : Rm k X.A) (ha : DB X o a fa ta) (hb : DB X o b fb tb) (hm : behindInMarks .Gt b = false) : DT X o (.Compare a [.Gt] [b] pos) (eTest (eBin gtD fa fb)) (tTest (tOp (rDat K cmpOk fun d e => PySem.W.dataLt e d) ta tb)) := by subst hK; exact dt_cmp (op_gtX hr.r) fl_dat ha hb hm
theorem de_le {K : PySem.W.Frag} (hK : X.K = K) (hr : Rm k X.A) (ha : DB X o a fa ta) (hb : DB X o b fb tb) (hm : behindInMarks .LtE b = false) : DE X o (.Compare a [.LtE] [b] pos) (eBin leD fa fb) (tOp (rDat K cmpOk fun d e => !PySem.W.dataLt e d) ta tb) := by subst hK; exact de_cmp (op_leX hr.r) fl_dat ha hb hm
theorem dt_le {K : PySem.W.Frag} (hK : X.K = K) (hr : Rm k X.A) (ha : DB X o a fa ta) (hb : DB X o b fb tb) (hm : behindInMarks .LtE b = false) : DT X o (.Compare a [.LtE] [b] pos) (eTest (eBin leD fa fb)) (tTest (tOp (rDat K cmpOk fun d e => !PySem.W.dataLt e d) ta tb)) := by subst hK; exact dt_cmp (op_leX hr.r) fl_dat ha hb hm
theorem de_ge {K : PySem.W.Frag} (hK : X.K = K) (hr : Rm k X.A) (ha : DB X o a fa ta) (hb : DB X o b fb tb) (hm : behindInMarks .GtE b = false) : DE X o (.Compare a [.GtE] [b] pos) (eBin geD fa fb) (tOp (rDat K cmpOk fun d e => !PySem.W.dataLt d e) ta tb) := by subst hK; exact de_cmp (op_geX hr.r) fl_dat ha hb hm
theorem dt_ge {K : PySem.W.Frag} (hK : X.K = K) (hr : Rm k X.A) (ha : DB X o a fa ta) (hb : DB X o b fb tb) (hm : behindInMarks .GtE b = false) : DT X o (.Compare a [.GtE] [b] pos) (eTest (eBin geD fa fb)) (tTest (tOp (rDat K cmpOk fun d e => !PySem.W.dataLt d e) ta tb)) := by subst hK; exact dt_cmp (op_geX hr.r) fl_dat ha hb hm
theorem de_in {K : PySem.W.Frag} (hK : X.K = K) (hr : Rm k X.A) (ha : DB X o a fa ta) (hb : DB X o b fb tb) (hm : behindInMarks .In b = false) : DE X o (.Compare a [.In] [b] pos) (eBin inD fa fb) (tOp (rDat K inOk inAns) ta tb) := by subst hK; exact de_cmp (op_inX hr.r) fl_dat ha hb hm
theorem dt_in {K : PySem.W.Frag} (hK : X.K = K) (hr : Rm k X.A) (ha : DB X o a fa ta) (hb : DB X o b fb tb) (hm : behindInMarks .In b = false) : DT X o (.Compare a [.In] [b] pos) (eTest (eBin inD fa fb)) (tTest (tOp (rDat K inOk inAns) ta tb)) := by subst hK; exact dt_cmp (op_inX hr.r) fl_dat ha hb hm
theorem de_nin {K : PySem.W.Frag} (hK : X.K = K) (hr : Rm k X.A) (ha : DB X o a fa ta) (hb : DB X o b fb tb) (hm : behindInMarks .NotIn b = false) : DE X o (.Compare a [.NotIn] [b] pos) (eBin ninD fa fb) (tOp (rDat K inOk fun d e => !inAns d e) ta tb) := by subst hK; exact de_cmp (op_ninX hr.r) fl_dat ha hb hm
theorem dt_nin {K : PySem.W.Frag} (hK : X.K = K) (hr : Rm k X.A) (ha : DB X o a fa ta) (hb : DB X o b fb tb) (hm : behindInMarks .NotIn b = false) : DT X o (.Compare a [.NotIn] [b] pos) (eTest (eBin ninD fa fb)) (tTest (tOp (rDat K inOk fun d e => !inAns d e) ta tb)) := by subst hK; exact dt_cmp (op_ninX hr.r) fl_dat ha hb hm
theorem de_isN (ha : DB X o a fa ta) (hb : DB X o b fb tb) (hm : behindInMarks .Is b = false) : DE X o (.Compare a [.Is] [b] pos) (eBin isND fa fb) (tOp rIsNo ta tb) := de_cmp op_isNo fl_isN ha hb hm
theorem dt_isN (ha : DB X o a fa ta) (hb : DB X o b fb tb) (hm : behindInMarks .Is b = false) : DT X o (.Compare a [.Is] [b] pos) (eTest (eBin isND fa fb)) (tTest (tOp rIsNo ta tb)) := dt_cmp op_isNo fl_isN ha hb hm
theorem de_notN (ha : DB X o a fa ta) (hb : DB X o b fb tb) (hm : behindInMarks .IsNot b = false) : DE X o (.Compare a [.IsNot] [b] pos) (eBin notND fa fb) (tOp rNotNo ta tb) := de_cmp op_notNo fl_notN ha hb hm
theorem dt_notN (ha : DB X o a fa ta) (hb : DB X o b fb tb) (hm : behindInMarks .IsNot b = false) : DT X o (.Compare a [.IsNot] [b] pos) (eTest (eBin notND fa fb)) (tTest (tOp rNotNo ta tb)) := dt_cmp op_notNo fl_notN ha hb hm
theorem dt_lt_lt {K : PySem.W.Frag} (hK : X.K = K) (hr : Rm k X.A) (ha : DE X o a fa ta) (hb : DE X o b fb tb) (hc : DE X o c fc tc) (hm : lastMarks [.Lt, .Lt] [b, c] = false := by with_unfolding_all rfl) : DT X o (.Compare a [.Lt, .Lt] [b, c] pos) (eChain ltD ltD fa fb fc) (tTest (tChain (rDat K cmpOk PySem.W.dataLt) (rDat K cmpOk PySem.W.dataLt) ta tb tc)) := by subst hK; exact dt_chain (op_ltX hr.r) (op_ltX hr.r) fl_dat fl_dat ha hb hc hm
theorem dt_lt_le {K : PySem.W.Frag} (hK : X.K = K) (hr : Rm k X.A) (ha : DE X o a fa ta) (hb : DE X o b fb tb) (hc : DE X o c fc tc) (hm : lastMarks [.Lt, .LtE] [b, c] = false := by with_unfolding_all rfl) : DT X o (.Compare a [.Lt, .LtE] [b, c] pos) (eChain ltD leD fa fb fc) (tTest (tChain (rDat K cmpOk PySem.W.dataLt) (rDat K cmpOk fun d e => !PySem.W.dataLt e d) ta tb tc)) := by subst hK; exact dt_chain (op_ltX hr.r) (op_leX hr.r) fl_dat fl_dat ha hb hc hm
theorem dt_lt_eq {K : PySem.W.Frag} (hK : X.K = K) (hr : Rm k X.A) (ha : DE X o a fa ta) (hb : DE X o b fb tb) (hc : DE X o c fc tc) (hm : lastMarks [.Lt, .Eq] [b, c] = false := by with_unfolding_all rfl) : DT X o (.Compare a [.Lt, .Eq] [b, c] pos) (eChain ltD eqD fa fb fc) (tTest (tChain (rDat K cmpOk PySem.W.dataLt) (rEqX K) ta tb tc)) := by subst hK; exact dt_chain (op_ltX hr.r) (op_eqS hr.r) fl_dat fl_eqX ha hb hc hm
theorem dt_le_lt {K : PySem.W.Frag} (hK : X.K = K) (hr : Rm k X.A) (ha : DE X o a fa ta) (hb : DE X o b fb tb) (hc : DE X o c fc tc) (hm : lastMarks [.LtE, .Lt] [b, c] = false := by with_unfolding_all rfl) : DT X o (.Compare a [.LtE, .Lt] [b, c] pos) (eChain leD ltD fa fb fc) (tTest (tChain (rDat K cmpOk fun d e => !PySem.W.dataLt e d) (rDat K cmpOk PySem.W.dataLt) ta tb tc)) := by subst hK; exact dt_chain (op_leX hr.r) (op_ltX hr.r) fl_dat fl_dat ha hb hc hm
theorem dt_le_le {K : PySem.W.Frag} (hK : X.K = K) (hr : Rm k X.A) (ha : DE X o a fa ta) (hb : DE X o b fb tb) (hc : DE X o c fc tc) (hm : lastMarks [.LtE, .LtE] [b, c] = false := by with_unfolding_all rfl) : DT X o (.Compare a [.LtE, .LtE] [b, c] pos) (eChain leD leD fa fb fc) (tTest (tChain (rDat K cmpOk fun d e => !PySem.W.dataLt e d) (rDat K cmpOk fun d e => !PySem.W.dataLt e d) ta tb tc)) := by subst hK; exact dt_chain (op_leX hr.r) (op_leX hr.r) fl_dat fl_dat ha hb hc hm
theorem dt_le_eq {K : PySem.W.Frag} (hK : X.K = K) (hr : Rm k X.A) (ha : DE X o a fa ta) (hb : DE X o b fb tb) (hc : DE X o c fc tc) (hm : lastMarks [.LtE, .Eq] [b, c] = false := by with_unfolding_all rfl) : DT X o (.Compare a [.LtE, .Eq] [b, c] pos) (eChain leD eqD fa fb fc) (tTest (tChain (rDat K cmpOk fun d e => !PySem.W.dataLt e d) (rEqX K) ta tb tc)) := by subst hK; exact dt_chain (op_leX hr.r) (op_eqS hr.r) fl_dat fl_eqX ha hb hc hm
theorem dt_eq_lt {K : PySem.W.Frag} (hK : X.K = K) (hr : Rm k X.A) (ha : DE X o a fa ta) (hb : DE X o b fb tb) (hc : DE X o c fc tc) (hm : lastMarks [.Eq, .Lt] [b, c] = false := by with_unfolding_all rfl) : DT X o (.Compare a [.Eq, .Lt] [b, c] pos) (eChain eqD ltD fa fb fc) (tTest (tChain (rEqX K) (rDat K cmpOk PySem.W.dataLt) ta tb tc)) := by subst hK; exact dt_chain (op_eqS hr.r) (op_ltX hr.r) fl_eqX fl_dat ha hb hc hm
theorem dt_eq_le {K : PySem.W.Frag} (hK : X.K = K) (hr : Rm k X.A) (ha : DE X o a fa ta) (hb : DE X o b fb tb) (hc : DE X o c fc tc) (hm : lastMarks [.Eq, .LtE] [b, c] = false := by with_unfolding_all rfl) : DT X o (.Compare a [.Eq, .LtE] [b, c] pos) (eChain eqD leD fa fb fc) (tTest (tChain (rEqX K) (rDat K cmpOk fun d e => !PySem.W.dataLt e d) ta tb tc)) := by subst hK; exact dt_chain (op_eqS hr.r) (op_leX hr.r) fl_eqX fl_dat ha hb hc hm
theorem dt_eq_eq {K : PySem.W.Frag} (hK : X.K = K) (hr : Rm k X.A) (ha : DE X o a fa ta) (hb : DE X o b fb tb) (hc : DE X o c fc tc) (hm : lastMarks [.Eq, .Eq] [b, c] = false := by with_unfolding_all rfl) : DT X o (.Compare a [.Eq, .Eq] [b, c] pos) (eChain eqD eqD fa fb fc) (tTest (tChain (rEqX K) (rEqX K) ta tb tc)) := by subst hK; exact dt_chain (op_eqS hr.r) (op_eqS hr.r) fl_eqX fl_eqX ha hb hc hm
theorem de_len {K : PySem.W.Frag} (hK : X.K = K) (hgl : Gl X "len") (hm : X.mg "len" = none) (ha : DBs X o (e :: es) fs t) (he : starEach (e :: es) X.env = (false, eval e X.env) :: starEach es X.env := by rfl) (hpl : (backTo pos (starEach es X.env)).any (·.1) = false := by rfl) : DE X o (.Call (.Name "len" p) (e :: es) [] pos) (eCall lenD fs) (tCB (rLenAll K) t) := by subst hK; exact de_callB call_lenAll fl_len.fr hgl hm boot_len ha (by decide) (by decide) he hpl
theorem de_abs (hgl : Gl X "abs") (hm : X.mg "abs" = none) (ha : DBs X o (e :: es) fs t) (he : starEach (e :: es) X.env = (false, eval e X.env) :: starEach es X.env := by rfl) (hpl : (backTo pos (starEach es X.env)).any (·.1) = false := by rfl) : DE X o (.Call (.Name "abs" p) (e :: es) [] pos) (eCall absD fs) (tCB (fun xs H Q => ∃ i, xs = [.int i] ∧ Q (.int (if i < 0 then -i else i)) H) t) := de_callB call_abs fl_abs.fr hgl hm boot_abs ha (by decide) (by decide) he hpl
theorem de_int (hgl : Gl X "int") (hm : X.mg "int" = none) (ha : DBs X o (e :: es) fs t) (he : starEach (e :: es) X.env = (false, eval e X.env) :: starEach es X.env := by rfl) (hpl : (backTo pos (starEach es X.env)).any (·.1) = false := by rfl) : DE X o (.Call (.Name "int" p) (e :: es) [] pos) (eCall intD fs) (tCB (fun xs H Q => (∃ i, xs = [.int i] ∧ Q (.int i) H) ∨ ∃ k, xs = [.bl k] ∧ Q (.int (if k then 1 else 0)) H) t) := de_callTy call_int1 fl_int1.fr hgl hm boot_int ha (by decide) (by decide) he hpl
theorem de_bool (hgl : Gl X "bool") (hm : X.mg "bool" = none) (ha : DBs X o (e :: es) fs t) (he : starEach (e :: es) X.env = (false, eval e X.env) :: starEach es X.env := by rfl) (hpl : (backTo pos (starEach es X.env)).any (·.1) = false := by rfl) : DE X o (.Call (.Name "bool" p) (e :: es) [] pos) (eCall boolD fs) (tCB (fun xs H Q => (∃ i, xs = [.int i] ∧ Q (.bl (i != 0)) H) ∨ ∃ k, xs = [.bl k] ∧ Q (.bl k) H) t) := de_callTy call_bool1 fl_bool1.fr hgl hm boot_bool ha (by decide) (by decide) he hpl
theorem de_max (hc : X.calm = true) (hgl : Gl X "max") (hm : X.mg "max" = none) (ha : DBs X o (e :: es) fs t) (he : starEach (e :: es) X.env = (false, eval e X.env) :: starEach es X.env := by rfl) (hpl : (backTo pos (starEach es X.env)).any (·.1) = false := by rfl) : DE X o (.Call (.Name "max" p) (e :: es) [] pos) (eCall max2D fs) (tCB (fun xs H Q => ∃ i j, xs = [.int i, .int j] ∧ Q (.int (if j > i then j else i)) H) t) := de_callB (call_max2 hc) fl_max2.fr hgl hm boot_max ha (by decide) (by decide) he hpl
theorem de_min (hc : X.calm = true) (hgl : Gl X "min") (hm : X.mg "min" = none) (ha : DBs X o (e :: es) fs t) (he : starEach (e :: es) X.env = (false, eval e X.env) :: starEach es X.env := by rfl) (hpl : (backTo pos (starEach es X.env)).any (·.1) = false := by rfl) : DE X o (.Call (.Name "min" p) (e :: es) [] pos) (eCall min2D fs) (tCB (fun xs H Q => ∃ i j, xs = [.int i, .int j] ∧ Q (.int (if j < i then j else i)) H) t) := de_callB (call_min2 hc) fl_min2.fr hgl hm boot_min ha (by decide) (by decide) he hpl
theorem de_sum {K : PySem.W.Frag} (hK : X.K = K) (hc : X.calm = true) (hgl : Gl X "sum") (hm : X.mg "sum" = none) (ha : DBs X o (e :: es) fs t) (he : starEach (e :: es) X.env = (false, eval e X.env) :: starEach es X.env := by rfl) (hpl : (backTo pos (starEach es X.env)).any (·.1) = false := by rfl) : DE X o (.Call (.Name "sum" p) (e :: es) [] pos) (eCall sumD fs) (tCB (rSum K) t) := by subst hK; exact de_callB (cr_sum hc) fl_sum.fr hgl hm boot_sum ha (by decide) (by decide) he hpl
theorem dn_sorted {K : PySem.W.Frag} (hK : X.K = K) (hr : Rm k X.A) (hgl : Gl X "sorted") (hm : X.mg "sorted" = none) (ha : DBs X o (e :: es) fs t) (he : starEach (e :: es) X.env = (false, eval e X.env) :: starEach es X.env := by rfl) (hpl : (backTo pos (starEach es X.env)).any (·.1) = false := by rfl) : DN X o (.Call (.Name "sorted" p) (e :: es) [] pos) (eCall sortedD fs) (tCB (rSortD K) t) := by subst hK; exact dn_callB (call_sortD hr.r) n_sorted hgl hm boot_sorted ha (by decide) (by decide) he hpl
theorem dn_list {K : PySem.W.Frag} (hK : X.K = K) (hgl : Gl X "list") (hm : X.mg "list" = none) (ha : DBs X o (e :: es) fs t) (he : starEach (e :: es) X.env = (false, eval e X.env) :: starEach es X.env := by rfl) (hpl : (backTo pos (starEach es X.env)).any (·.1) = false := by rfl) : DN X o (.Call (.Name "list" p) (e :: es) [] pos) (eCall listD fs) (tCB (fun xs H Q => ∃ p ys, xs = [.ref p] ∧ (SqL K H p ys ∨ SqT K H p ys) ∧ ∀ l, H l = none → Q (.ref l) (upd H l (.lst ys))) t) := by subst hK; exact dn_callTy call_list_of n_list hgl hm boot_list ha (by decide) (by decide) he hpl
theorem de_tuple {K : PySem.W.Frag} (hK : X.K = K) (hgl : Gl X "tuple") (hm : X.mg "tuple" = none) (ha : DBs X o (e :: es) fs t) (he : starEach (e :: es) X.env = (false, eval e X.env) :: starEach es X.env := by rfl) (hpl : (backTo pos (starEach es X.env)).any (·.1) = false := by rfl) : DE X o (.Call (.Name "tuple" p) (e :: es) [] pos) (eCall tupleD fs) (tCB (fun xs H Q => ∃ p ys, xs = [.ref p] ∧ ((SqL K H p ys ∧ ∀ l, H l = none → Q (.ref l) (upd H l (.tup ys))) ∨ (SqT K H p ys ∧ Q (.ref p) H))) t) := by subst hK; exact de_callTy call_tuple_of e_tuple hgl hm boot_tuple ha (by decide) (by decide) he hpl
theorem de_repr {K : PySem.W.Frag} (hK : X.K = K) (hr : Rm k X.A) (hgl : Gl X "repr") (hm : X.mg "repr" = none) (ha : DBs X o (e :: es) fs t) (he : starEach (e :: es) X.env = (false, eval e X.env) :: starEach es X.env := by rfl) (hpl : (backTo pos (starEach es X.env)).any (·.1) = false := by rfl) : DE X o (.Call (.Name "repr" p) (e :: es) [] pos) (eCall reprD fs) (tCB (rRepr K) t) := by subst hK; exact de_callB (call_repr hr) fl_repr.fr hgl hm boot_repr ha (by decide) (by decide) he hpl
theorem de_any {K : PySem.W.Frag} (hK : X.K = K) (hc : X.calm = true) (hgl : Gl X "any") (hm : X.mg "any" = none) (ha : DBs X o (e :: es) fs t) (he : starEach (e :: es) X.env = (false, eval e X.env) :: starEach es X.env := by rfl) (hpl : (backTo pos (starEach es X.env)).any (·.1) = false := by rfl) : DE X o (.Call (.Name "any" p) (e :: es) [] pos) (eCall anyD fs) (tCB (rAnyB K fun bs => bs.any id) t) := by subst hK; exact de_callB (call_anyB hc) fl_any.fr hgl hm boot_any ha (by decide) (by decide) he hpl
theorem de_all {K : PySem.W.Frag} (hK : X.K = K) (hc : X.calm = true) (hgl : Gl X "all") (hm : X.mg "all" = none) (ha : DBs X o (e :: es) fs t) (he : starEach (e :: es) X.env = (false, eval e X.env) :: starEach es X.env := by rfl) (hpl : (backTo pos (starEach es X.env)).any (·.1) = false := by rfl) : DE X o (.Call (.Name "all" p) (e :: es) [] pos) (eCall allD fs) (tCB (rAnyB K fun bs => bs.all id) t) := by subst hK; exact de_callB (call_allB hc) fl_all.fr hgl hm boot_all ha (by decide) (by decide) he hpl
end
section
variable {X : Cx} {K : PySem.W.Frag} (hK : X.K = K) {o : Own} {a b c e e2 : Expr} {es : List Expr} {f fa fb fc : En → M D} {ta tb tc te : TE} {fs : En → M (List D)} {t : TA} {pos p p2 : Pos} {k n : Nat}
include hK
theorem kde_sl {t1 t2 : TO} {lo hi : Option Expr} {fl fh : En → M (Option Int)} (h : DB X o e f te) (h1 : DPart X o lo fl t1) (h2 : DPart X o hi fh t2) : DE X o (.Subscript e (.Slice lo hi none p2) pos) (eSl f fl fh) (tSl (rSlAll K) te t1 t2) := by subst hK; exact de_sl h h1 h2
theorem kde_step {t1 t2 t3 : TO} {lo hi : Option Expr} {st : Expr} {fl fh fk : En → M (Option Int)} (h : DB X o e f te) (h1 : DPart X o lo fl t1) (h2 : DPart X o hi fh t2) (h3 : DPart X o (some st) fk t3) : DE X o (.Subscript e (.Slice lo hi (some st) p2) pos) (eSt f fl fh fk) (tSt K te t1 t2 t3) := by subst hK; exact de_step h h1 h2 h3
theorem kde_index {apos cpos : Pos} (hr : Rm k X.A) (ha : DB X o a fa ta) (hb : DB X o b fb tb) (hbase : attributeBase a "index" X.env (eval a X.env) = eval a X.env := by rfl)
    (hfew : ((backTo cpos (starEach [b] X.env)).all (fun x => !x.1) && (backToKw cpos (keywordEach [] X.env)).all (fun x => x.1.isSome)
      && decide ([b].length + ([] : List Keyword).length + (if ([] : List Keyword).isEmpty then 0 else 1) < 30)) = true := by rfl)
    (hline : (apos.endLine == cpos.line) = true := by rfl) (hs : starEach [b] X.env = (false, eval b X.env) :: starEach [] X.env := by rfl) (hplain : (backTo cpos (starEach [] X.env)).any (·.1) = false := by rfl) :
    DE X o (.Call (.Attribute a "index" apos) [b] [] cpos) (eIndex fa fb) (tBM K "list" (rIndexD K) ta (tCons tb tNil)) := by
  subst hK
  exact de_index ha hb (pe_bm PySem.F.plainAttrs_list PySem.F.slot_list_index PySem.F.type_list_index (mt_indexD (by have := hr.r.un; omega)) ha.p (pa_cons hb.p pa_nil hs) hbase hfew hline hs hplain)
theorem kde_call {f : Addr} {fd : FuncData} {ps : List Str} {o0 : Own} {om : List (Option Nat)} {x : Str} {fn : List D → M D} (F : FnG X.prog X.w K X.mg X.base CX0 k f fd ps (spR K n o0 fn)) (hr : Rm k X.A) (hg : Gl X x) (hm : X.mg x = some (.ref f)) (hk : PySem.W.keepIn K (.ref f) = true) (hb : Binds K fd ps []) (ha : DCs X o (e :: es) om fs t) (fit : fitsO o o0 om)
    (hn : om.length = n := by rfl) (hraw : rawO o0 = true := by rfl)
    (hdb : (x == ("__debug__" : Str)) = false := by decide) (he : starEach (e :: es) X.env = (false, eval e X.env) :: starEach es X.env := by rfl) (hpl : (backTo pos (starEach es X.env)).any (·.1) = false := by rfl) :
    DE X o (.Call (.Name x p) (e :: es) [] pos) (eCall fn fs) (tCall (spR K n o0 fn) [] E0 t) := by subst hK; exact de_call F hr hg hm hk hb ha fit hn hraw hdb he hpl
theorem kde_callK {f : Addr} {fd : FuncData} {ps ks : List Str} {x : Str} {kws : List Keyword} {is : List Nat} {fn : List D → M D} (F : FnG X.prog X.w K X.mg X.base CX0 k f fd ps (spR K n [] fn)) (hr : Rm k X.A) (hg : Gl X x) (hm : X.mg x = some (.ref f)) (hk : PySem.W.keepIn K (.ref f) = true)
    (hb : KBinds K fd ps ks (gK is) (gK is)) (hkw : DKs X o kws fs t)
    (hlen : ∀ ds : List D, ds.length = kws.length → (permL is ds).length = n) (hfl : ∀ ρ Q, (fs ρ).wp Q noE → (fs ρ).wp (fun ds => ds.length = kws.length ∧ Q ds) noE)
    (hall : (backToKw pos (keywordEach kws X.env)).all (·.1.isSome) = true := by rfl) (hks : (backToKw pos (keywordEach kws X.env)).filterMap (·.1) = ks := by rfl)
    (hdb : (x == ("__debug__" : Str)) = false := by decide) (hpl : ((backTo pos (starEach [] X.env)).any (·.1) || (backToKw pos (keywordEach kws X.env)).any (·.1.isNone)) = false := by rfl) :
    DE X o (.Call (.Name x p) [] kws pos) (eCallK fn is fs) (fun σ H Q => t σ H fun zs H2 => spR K n [] fn (permL is zs) H2 Q E0) := by subst hK; exact de_callK F hr hg hm hk hb hkw hlen hfl hall hks hdb hpl
theorem kdj_seq {tg : Expr} (h : DE X o e f te) : DJ X o [] tg e (iSeq f) (fun σ H R => te σ H fun x H1 => ∃ a, x = .ref a ∧ (((∃ xs, SqL K H1 a xs) ∧ R (Itl K a) H1) ∨ ((∃ xs, SqT K H1 a xs) ∧ R (Itt K a) H1))) := by subst hK; exact dj_seq h
theorem kdj_own {tg : Expr} (i : Nat) (h : PE X e (tVar i)) (ho : o.lookup i = some .lst := by rfl) : DJ X o [i] tg e (heldAt i) (fun σ H R => tVar i σ H fun x H1 => ∃ a, x = .ref a ∧ (((∃ xs, SqL K H1 a xs) ∧ R (Itl K a) H1) ∨ ((∃ xs, SqT K H1 a xs) ∧ R (Itt K a) H1))) := by subst hK; exact dj_own i h ho
theorem kdj_enum {tpos : Pos} {elts : List Expr} {kk : Nat} (hg : Gl X "enumerate") (hm : X.mg "enumerate" = none) (ha : DFs X o [e] fs t) (hs : starEach [e] X.env = [(false, eval e X.env)] := by rfl) :
    DJ X o [] (.Tuple elts kk tpos) (.Call (.Name "enumerate" p) [e] [] pos) (iEnumD fs) (iEnumA K t) := by subst hK; exact dj_enum hg hm ha hs
theorem kdj_zip {tpos : Pos} {elts : List Expr} {kk : Nat} (hg : Gl X "zip") (hm : X.mg "zip" = none) (ha : DFs X o [e, e2] fs t)
    (hs : starEach [e, e2] X.env = (false, eval e X.env) :: starEach [e2] X.env := by rfl) (hpl : (backTo pos (starEach [e2] X.env)).any (·.1) = false := by rfl) :
    DJ X o [] (.Tuple elts kk tpos) (.Call (.Name "zip" p) [e, e2] [] pos) (iZipD fs) (RZ.iZipA K t) := by subst hK; exact dj_zip hg hm ha hs hpl
theorem kdg_tup {kp : List Nat} {ts : List Expr} {kk : Nat} {f2 : List D → En → M En} {g2 : TGs} (hc : X.calm = true) (h : DGs X kp o ts f2 g2) (hn : (assignEach ts X.env).length = n := by rfl) (hst : (assignEach ts X.env).findIdx? (·.1) = none := by rfl)
    (hl : ∀ ds ρ, ds.length ≠ n → ∀ Q, ¬ (f2 ds ρ).wp Q noE) : DG X kp o (.Tuple ts kk pos) (kTup f2) (gTup K n g2) := by subst hK; exact dg_tup hc h hn hst hl
end
section
variable {X : Cx} {K : PySem.W.Frag} {C : Sc} {ol o : Own} {a b o₁ e ei : Expr} {fa fb f fk : En → M D} {ta tb te tk : TE} {fs : En → M (List D)} {fse : En → M (List D × En)} {t : TA} {pos p2 apos cpos : Pos} {i j : Nat}
theorem kdee_app (hK : X.K = K) (hv : PE X o₁ (tVar i)) (ha : DFE X o [e] fse t) (ho : o.lookup i = some .lst := by rfl) (hbase : attributeBase o₁ "append" X.env (eval o₁ X.env) = eval o₁ X.env := by rfl)
    (hfew : ((backTo cpos (starEach [e] X.env)).all (fun x => !x.1) && (backToKw cpos (keywordEach [] X.env)).all (fun x => x.1.isSome)
      && decide ([e].length + ([] : List Keyword).length + (if ([] : List Keyword).isEmpty then 0 else 1) < 30)) = true := by rfl)
    (hline : (apos.endLine == cpos.line) = true := by rfl) (hs : starEach [e] X.env = (false, eval e X.env) :: starEach [] X.env := by rfl) (hplain : (backTo cpos (starEach [] X.env)).any (·.1) = false := by rfl) :
    DEE X o (.Call (.Attribute o₁ "append" apos) [e] [] cpos) (eMeth i appG fse) (tBM K "list" rAppend (tVar i) t) := by
  subst hK
  exact dee_app hv ha ho (pe_bm PySem.F.plainAttrs_list PySem.F.slot_list_append PySem.F.type_list_append mt_append hv ha.p hbase hfew hline hs hplain)
theorem kdee_popAt (hK : X.K = K) (hv : PE X o₁ (tVar i)) (ha : DFE X o [e] fse t) (ho : o.lookup i = some .lst := by rfl) (hbase : attributeBase o₁ "pop" X.env (eval o₁ X.env) = eval o₁ X.env := by rfl)
    (hfew : ((backTo cpos (starEach [e] X.env)).all (fun x => !x.1) && (backToKw cpos (keywordEach [] X.env)).all (fun x => x.1.isSome)
      && decide ([e].length + ([] : List Keyword).length + (if ([] : List Keyword).isEmpty then 0 else 1) < 30)) = true := by rfl)
    (hline : (apos.endLine == cpos.line) = true := by rfl) (hs : starEach [e] X.env = (false, eval e X.env) :: starEach [] X.env := by rfl) (hplain : (backTo cpos (starEach [] X.env)).any (·.1) = false := by rfl) :
    DEE X o (.Call (.Attribute o₁ "pop" apos) [e] [] cpos) (eMeth i popAtG fse) (tBM K "list" rPopAt (tVar i) t) := by
  subst hK
  exact dee_popAt hv ha ho (pe_bm PySem.F.plainAttrs_list PySem.F.slot_list_pop PySem.F.type_list_pop mt_popAt hv ha.p hbase hfew hline hs hplain)
theorem kdee_ext (hK : X.K = K) (hv : PE X o₁ (tVar i)) (ha : DBs X o [e] fs t) (ho : o.lookup i = some .lst := by rfl) (hbase : attributeBase o₁ "extend" X.env (eval o₁ X.env) = eval o₁ X.env := by rfl)
    (hfew : ((backTo cpos (starEach [e] X.env)).all (fun x => !x.1) && (backToKw cpos (keywordEach [] X.env)).all (fun x => x.1.isSome)
      && decide ([e].length + ([] : List Keyword).length + (if ([] : List Keyword).isEmpty then 0 else 1) < 30)) = true := by rfl)
    (hline : (apos.endLine == cpos.line) = true := by rfl) (hs : starEach [e] X.env = (false, eval e X.env) :: starEach [] X.env := by rfl) (hplain : (backTo cpos (starEach [] X.env)).any (·.1) = false := by rfl) :
    DEE X o (.Call (.Attribute o₁ "extend" apos) [e] [] cpos) (eMethB i extG fs) (tBM K "list" rExtend (tVar i) t) := by
  subst hK
  exact dee_ext hv ha ho (pe_bm PySem.F.plainAttrs_list PySem.F.slot_list_extend PySem.F.type_list_extend mt_extend hv ha.p hbase hfew hline hs hplain)
theorem ds_par2 {k1 k2 : KV} {x x2 : Str} {px py pt : Pos} {kt k3 : Nat} {pt2 : Pos} (hc : X.calm = true) (hN : X.N.Nodup) (ha : DV X o k1 a fa ta) (hb : DV X o k2 b fb tb)
    (hi : X.N[i]? = some x := by rfl) (hj : X.N[j]? = some x2 := by rfl) (hx : X.env.scope.names.lookup x = some .local := by rfl) (hy : X.env.scope.names.lookup x2 = some .local := by rfl)
    (hw : swappedStores [.Tuple [.Name x px, .Name x2 py] kt pt] (.Tuple [a, b] k3 pt2) X.env = pure (some [x, x2]) := by rfl)
    (hs : swapsWithSole [.Tuple [.Name x px, .Name x2 py] kt pt] (.Tuple [a, b] k3 pt2) pos.line X.env = pure false := by rfl)
    (h1 : starEach [a, b] X.env = (false, eval a X.env) :: starEach [b] X.env := by rfl) (h2 : starEach [b] X.env = (false, eval b X.env) :: starEach [] X.env := by rfl)
    (hij : i ≠ j := by decide) (hk : i ∉ C.kp := by first | decide | (dsimp only; decide)) (hk2 : j ∉ C.kp := by first | decide | (dsimp only; decide)) :
    DS X C ol o (.Assign [.Tuple [.Name x px, .Name x2 py] kt pt] (.Tuple [a, b] k3 pt2) pos) (setK k1 i (setK k2 j o)) (gPar i j fa fb) (tPar i j (tCons ta (tCons tb tNil))) :=
  ds_par (ps_par hc hN hi hj hij hx hy (pa_cons ha.p (pa_cons hb.p pa_nil h2) h1) hw hs) ha hb hij hk hk2
theorem ds_setIx2 (hv : PE X o₁ (tVar i)) (he : DE X o e f te) (hik : DB X o ei fk tk) (ho : o.lookup i = some .lst := by rfl) (hs : swapsWithSole [.Subscript o₁ ei p2] e pos.line X.env = pure false := by rfl) (hw : swappedStores [.Subscript o₁ ei p2] e X.env = pure none := by rfl)
    (h1 : (assignEach [.Subscript o₁ ei p2] X.env).map (·.2) = [assign (.Subscript o₁ ei p2) X.env] := by rfl)
    (ha : ∀ v, assign (.Subscript o₁ ei p2) X.env v = (do
      let ov ← holding [v] (eval o₁ X.env)
      let iv ← holding [v, ov] (eval ei X.env)
      standAt p2
      holding [v, ov, iv] (setItem ov iv v)
      release [v, ov, iv] []) := by intro _; rfl) : DS X C ol o (.Assign [.Subscript o₁ ei p2] e pos) o (gSetIx i f fk) (tAsg te (gSub (tVar i) tk rSetL)) :=
  ds_setIx hv he hik ho (ps_asg he.p (pg_sub hv hik.p set_list ha) hs hw h1)
end
end DL

set_option Elab.async false
set_option linter.all false
set_option maxRecDepth 100000
set_option maxHeartbeats 4000000
/-! DK9: and, or as values; pop() without a place. -/
namespace DL
open PySem PySem.Spec PyProof.Rows L2
section
variable {X : Cx} {o : Own} {a b : Expr} {rest : List Expr} {fa fb : En → M D} {ta tb : TE} {pos : Pos}
theorem de_one {op : BoolOp} (h : DE X o a fa ta) : DE X o (.BoolOp op [a] pos) fa ta := ⟨pe_one h.p, h.q⟩
theorem de_andV (ha : DE X o a fa ta) (hb : DE X o (.BoolOp .And (b :: rest) pos) fb tb) : DE X o (.BoolOp .And (a :: b :: rest) pos) (eAndV fa fb) (tAndV ta tb) := by
  refine ⟨pe_and ha.p hb.p, fun y σ H ρ F Q s w => ha.q y σ H ρ F _ s (M.wp_mono (fun d k v H' F' s' e' hd => ?_) (fun _ z => z) (M.wp_bind.mp w))⟩
  cases hd with
  | bl c =>
    cases c with
    | true =>
      refine ⟨true, rfl, ?_⟩
      rw [if_pos rfl]
      refine hb.q y σ H' ρ F' _ s' (M.wp_mono (fun d k v H2 F2 s2 e2 hd => ?_) (fun _ z => z) (M.wp_bind.mp k))
      cases hd with
      | bl c => exact k _ H2 F2 s2 (e'.trans e2) (.bl _)
      | _ => exact k.elim
    | false =>
      refine ⟨false, rfl, ?_⟩
      rw [if_neg (by decide)]
      exact k _ H' F' s' e' (.bl _)
  | _ => exact k.elim
theorem de_orV (ha : DE X o a fa ta) (hb : DE X o (.BoolOp .Or (b :: rest) pos) fb tb) : DE X o (.BoolOp .Or (a :: b :: rest) pos) (eOrV fa fb) (tOrV ta tb) := by
  refine ⟨pe_or ha.p hb.p, fun y σ H ρ F Q s w => ha.q y σ H ρ F _ s (M.wp_mono (fun d k v H' F' s' e' hd => ?_) (fun _ z => z) (M.wp_bind.mp w))⟩
  cases hd with
  | bl c =>
    cases c with
    | false =>
      refine ⟨false, rfl, ?_⟩
      rw [if_neg (by decide)]
      refine hb.q y σ H' ρ F' _ s' (M.wp_mono (fun d k v H2 F2 s2 e2 hd => ?_) (fun _ z => z) (M.wp_bind.mp k))
      cases hd with
      | bl c => exact k _ H2 F2 s2 (e'.trans e2) (.bl _)
      | _ => exact k.elim
    | true =>
      refine ⟨true, rfl, ?_⟩
      rw [if_pos rfl]
      exact k _ H' F' s' e' (.bl _)
  | _ => exact k.elim
end
end DL

set_option Elab.async false
set_option linter.all false
set_option maxRecDepth 100000
set_option maxHeartbeats 4000000
/-! DP1: the plain law: operators on whole numbers, rows of them. -/
namespace DL
open PySem PySem.Spec PyProof.Rows L2

abbrev tupI (xs : List Int) : D := .tuple (xs.map PyData.int)
abbrev lstI (xs : List Int) : D := .list (xs.map PyData.int)
theorem depth_int (i : Int) : (PyData.int i).depth = 0 := by simp [PyData.depth]
theorem cmpOk_int (i j : Int) : cmpOk (.int i) (.int j) = true := by
  simp [cmpOk, PySem.W.alike, notNone, PyData.depth]
theorem dataLt_int (i j : Int) : PySem.W.dataLt (.int i) (.int j) = decide (i < j) := by
  have h : PySem.W.dataLe false (fun b : Int => .int b) j i = decide (j ≤ i) := by rw [PySem.W.dataLe_int]
  have h2 : PySem.W.dataLe false (fun b : Int => PyData.int b) j i = !PySem.W.dataLt (.int i) (.int j) := rfl
  rw [h2] at h
  by_cases z : i < j
  · rw [decide_eq_true z]
    have : decide (j ≤ i) = false := decide_eq_false (by omega)
    rw [this] at h
    cases q : PySem.W.dataLt (.int i) (.int j) with
    | true => rfl
    | false => rw [q] at h; cases h
  · rw [decide_eq_false z]
    have : decide (j ≤ i) = true := decide_eq_true (by omega)
    rw [this] at h
    cases q : PySem.W.dataLt (.int i) (.int j) with
    | false => rfl
    | true => rw [q] at h; cases h
theorem shaped_int (i : Int) : SeqAt.shaped (.int i) = true := by
  simp [SeqAt.shaped, PyData.canLay0, PyData.depth]
@[simp] theorem ltD_int (i j : Int) : ltD (.int i) (.int j) = .ret (.bool (decide (i < j))) := by simp [ltD, gDat, cmpOk_int, dataLt_int]
@[simp] theorem gtD_int (i j : Int) : gtD (.int i) (.int j) = .ret (.bool (decide (j < i))) := by simp [gtD, gDat, cmpOk_int, dataLt_int]
@[simp] theorem leD_int (i j : Int) : leD (.int i) (.int j) = .ret (.bool (decide (i ≤ j))) := by
  have e : (!decide (j < i)) = decide (i ≤ j) := by
    by_cases h : j < i
    · rw [decide_eq_true h, decide_eq_false (by omega)]; rfl
    · rw [decide_eq_false h, decide_eq_true (by omega)]; rfl
  simp [leD, gDat, cmpOk_int, dataLt_int, e]
@[simp] theorem geD_int (i j : Int) : geD (.int i) (.int j) = .ret (.bool (decide (j ≤ i))) := by
  have e : (!decide (i < j)) = decide (j ≤ i) := by
    by_cases h : i < j
    · rw [decide_eq_true h, decide_eq_false (by omega)]; rfl
    · rw [decide_eq_false h, decide_eq_true (by omega)]; rfl
  simp [geD, gDat, cmpOk_int, dataLt_int, e]
theorem eqv_int (i j : Int) : PyData.eqv (.int i) (.int j) = decide (i = j) := by
  rw [PyData.eqv]
  by_cases h : i = j
  · rw [decide_eq_true h]; simpa using h
  · rw [decide_eq_false h]; simpa using h
@[simp] theorem eqD_int (i j : Int) : eqD (.int i) (.int j) = .ret (.bool (decide (i = j))) := by simp [eqD, gDat, shaped2, shaped_int, eqv_int]
@[simp] theorem neD_int (i j : Int) : neD (.int i) (.int j) = .ret (.bool (!decide (i = j))) := by simp [neD, gDat, shaped2, shaped_int, eqv_int]
theorem eqvAll_ints : ∀ xs ys : List Int, PyData.eqvAll (xs.map PyData.int) (ys.map PyData.int) = decide (xs = ys)
  | [], [] => by simp [PyData.eqvAll]
  | [], _ :: _ => by simp [PyData.eqvAll]
  | _ :: _, [] => by simp [PyData.eqvAll]
  | x :: xs, y :: ys => by
    rw [List.map_cons, List.map_cons, PyData.eqvAll, eqv_int, eqvAll_ints xs ys]
    by_cases h : x = y <;> by_cases h2 : xs = ys <;> simp [h, h2]
theorem shapedT (xs : List Int) : SeqAt.shaped (tupI xs) = true := by
  unfold SeqAt.shaped
  rw [PyData.canLay0, PyData.depth, canLay_ints, depthA_ints]
  rfl
theorem eqv_tupI (xs ys : List Int) : PyData.eqv (tupI xs) (tupI ys) = decide (xs = ys) := by rw [PyData.eqv, eqvAll_ints]
theorem eqv_lstI (xs ys : List Int) : PyData.eqv (lstI xs) (lstI ys) = decide (xs = ys) := by rw [PyData.eqv, eqvAll_ints]
@[simp] theorem eqD_tupI (xs ys : List Int) : eqD (tupI xs) (tupI ys) = .ret (.bool (decide (xs = ys))) := by simp [eqD, gDat, shaped2, shapedT, eqv_tupI]
@[simp] theorem neD_tupI (xs ys : List Int) : neD (tupI xs) (tupI ys) = .ret (.bool (!decide (xs = ys))) := by simp [neD, gDat, shaped2, shapedT, eqv_tupI]
@[simp] theorem addD_int (i j : Int) : addD (.int i) (.int j) = .ret (.int (i + j)) := rfl
@[simp] theorem subD_int (i j : Int) : subD (.int i) (.int j) = .ret (.int (i - j)) := rfl
@[simp] theorem negD_int (i : Int) : negD (.int i) = .ret (.int (-i)) := rfl
@[simp] theorem max2D_int (i j : Int) : max2D [.int i, .int j] = .ret (.int (if j > i then j else i)) := rfl
@[simp] theorem min2D_int (i j : Int) : min2D [.int i, .int j] = .ret (.int (if j < i then j else i)) := rfl
@[simp] theorem lenD_tup (xs : List D) : lenD [.tuple xs] = .ret (.int xs.length) := rfl
@[simp] theorem lenD_lst (xs : List D) : lenD [.list xs] = .ret (.int xs.length) := rfl
theorem ix_tup {xs : List Int} {k : Nat} {v : Int} (h : xs[k]? = some v) : ixD (tupI xs) (.int (k : Nat)) = .ret (.int v) := by
  have : atI (xs.map PyData.int) ((k : Nat) : Int) = some (.int v) := by
    unfold atI ixN
    have hk := (List.getElem?_eq_some_iff.mp h).1
    rw [if_pos (by omega), if_pos (by rw [List.length_map]; omega)]
    show (xs.map PyData.int)[(k : Int).toNat]? = _
    rw [Int.toNat_natCast, List.getElem?_map, h]; rfl
  simp only [ixD, this]
theorem ix_last {xs : List Int} {v : Int} (h : xs.getLast? = some v) : ixD (tupI xs) (.int (-1)) = .ret (.int v) := by
  have hne : xs ≠ [] := fun z => by subst z; cases h
  have hl : 0 < xs.length := List.length_pos_iff.mpr hne
  have : atI (xs.map PyData.int) (-1) = some (.int v) := by
    unfold atI ixN
    rw [if_neg (by omega), if_pos (by rw [List.length_map]; omega)]
    show (xs.map PyData.int)[_]? = _
    rw [List.length_map, List.getElem?_map]
    have e : ((-1 : Int) + (xs.length : Int)).toNat = xs.length - 1 := by omega
    simp only [e]
    rw [← List.getLast?_eq_getElem?, h]; rfl
  simp only [ixD, this]
theorem chain_ltlt {f1 f2 f3 : En → M D} {ρ : En} {a b c : Int} (h1 : f1 ρ = .ret (.int a)) (h2 : f2 ρ = .ret (.int b)) (h3 : f3 ρ = .ret (.int c)) : eChain ltD ltD f1 f2 f3 ρ = .ret (decide (a < b) && decide (b < c)) := by
  simp only [eChain, h1, h2, h3, M.ret_bind, ltD_int]
  by_cases h : a < b
  · rw [decide_eq_true h]; rfl
  · rw [decide_eq_false h]; rfl
theorem bind_ret {α β : Type} {m : M α} {x : α} {f : α → M β} (h : m = .ret x) : m.bind f = f x := by rw [h]; rfl
theorem seq_nx {g h : G} {ρ ρ' : En} (e : g ρ = .ret (.nx, ρ')) : gSeq g h ρ = h ρ' := by unfold gSeq; rw [e]; rfl
theorem seq_rt {g h : G} {ρ ρ' : En} {d : D} (e : g ρ = .ret (.rt d, ρ')) : gSeq g h ρ = .ret (.rt d, ρ') := by unfold gSeq; rw [e]; rfl
end DL

set_option Elab.async false
set_option linter.all false
set_option maxRecDepth 100000
set_option maxHeartbeats 4000000
/-! DP2: nexts, collect, first_placing, is_within: what they compute on rows of whole numbers. -/
namespace DL
open PySem PySem.Spec PyProof.Rows L2

def nextsG : G := gSeq (gSetT (kTup (ksCons (kName 3) (ksCons (kName 4) (ksCons (kName 5) ksNil)))) (eTup (aCons (eBin ixD (eVar 1) (eCall lenD (aCons (eVar 2) aNil))) (aCons (eUn negD (eC (.int 1))) (aCons (eCall lenD (aCons (eVar 0) aNil)) aNil))))) (gSeq (gFor (iEnumD (aCons (eVar 2) aNil)) (kTup (ksCons (kName 6) (ksCons (kName 7) ksNil))) (gSeq (gIf (eTest (eBin ltD (eBin ixD (eVar 1) (eVar 6)) (eVar 3))) (gSeq (gSetN 4 (eCall max2D (aCons (eVar 4) (aCons (eBin ixD (eVar 0) (eVar 7)) aNil)))) gNil) (gSeq (gSetN 5 (eCall min2D (aCons (eVar 5) (aCons (eBin ixD (eVar 0) (eVar 7)) aNil)))) gNil)) gNil)) (gSeq (gSetN 8 (eIf (eTest (eBin neD (eVar 2) (eTup aNil))) (eBin addD (eBin ixD (eVar 2) (eUn negD (eC (.int 1)))) (eC (.int 1))) (eC (.int 0)))) (gSeq (gSetN 9 (eBin subD (eCall lenD (aCons (eVar 0) aNil)) (eBin subD (eCall lenD (aCons (eVar 1) aNil)) (eCall lenD (aCons (eVar 2) aNil))))) (gSeq (gRet (eComp (iRange2 (aCons (eVar 8) (aCons (eBin addD (eVar 9) (eC (.int 1))) aNil))) [7] (kName 7) (eChain ltD ltD (eVar 4) (eBin ixD (eVar 0) (eVar 7)) (eVar 5)) (eVar 7))) gNil))))

/-- one place more: the bounds -/
def lohi (R : List Int) (w : Int) : List Int → List Int → Int × Int → Int × Int
  | p :: ps, q :: qs, b => lohi R w ps qs (if p < w then (if R.getD q.toNat 0 > b.1 then R.getD q.toNat 0 else b.1, b.2) else (b.1, if R.getD q.toNat 0 < b.2 then R.getD q.toNat 0 else b.2))
  | [], _, b => b
  | _ :: _, [], b => b
def firstF (Q : List Int) : Int := match Q.getLast? with
  | some q => q + 1
  | none => 0
def nextsF (R P Q : List Int) : List Int :=
  let b := lohi R (P.getD Q.length 0) P Q (-1, R.length)
  ((List.range ((R.length : Int) - ((P.length : Int) - Q.length) + 1 - firstF Q).toNat).map fun k => firstF Q + (k : Nat)).filter fun c => decide (b.1 < R.getD c.toNat 0) && decide (R.getD c.toNat 0 < b.2)
/-- Q: places of R, ascending -/
structure PlOk (R P Q : List Int) : Prop where
  lt : Q.length < P.length
  le : P.length ≤ 1000
  lr : R.length ≤ 1000
  inR : ∀ q ∈ Q, 0 ≤ q ∧ q < R.length
theorem ix_D {R : List Int} {q : Int} (h0 : 0 ≤ q) (h1 : q < R.length) : ixD (tupI R) (.int q) = .ret (.int (R.getD q.toNat 0)) := by
  have e : q = ((q.toNat : Nat) : Int) := by omega
  have hl : q.toNat < R.length := by omega
  have h := ix_tup (xs := R) (k := q.toNat) (v := R.getD q.toNat 0) (by rw [List.getD_eq_getElem?_getD, List.getElem?_eq_getElem hl]; rfl)
  rw [← e] at h
  exact h
section
variable {R P Q : List Int}
theorem nexts_loop (hP : P.length ≤ 1000) {w : Int} {a2 : Option D} : ∀ (k : Nat) (ps qs : List Int) (lo hi : Int) (x6 x7 : Option D), P.drop k = ps → qs.length ≤ ps.length → (∀ q ∈ qs, 0 ≤ q ∧ q < R.length) →
    ∃ y6 y7, forL (kTup (ksCons (kName 6) (ksCons (kName 7) ksNil))) (gSeq (gIf (eTest (eBin ltD (eBin ixD (eVar 1) (eVar 6)) (eVar 3))) (gSeq (gSetN 4 (eCall max2D (aCons (eVar 4) (aCons (eBin ixD (eVar 0) (eVar 7)) aNil)))) gNil) (gSeq (gSetN 5 (eCall min2D (aCons (eVar 5) (aCons (eBin ixD (eVar 0) (eVar 7)) aNil)))) gNil)) gNil)
      (enumFr k (qs.map PyData.int)) [some (tupI R), some (tupI P), a2, some (.int w), some (.int lo), some (.int hi), x6, x7, none, none] = .ret (.nx, [some (tupI R), some (tupI P), a2, some (.int w), some (.int (lohi R w ps qs (lo, hi)).1), some (.int (lohi R w ps qs (lo, hi)).2), y6, y7, none, none])
  | k, ps, [], lo, hi, x6, x7, _, _, _ => ⟨x6, x7, by cases ps <;> rfl⟩
  | k, [], q :: qs, lo, hi, x6, x7, _, h, _ => absurd h (by simp)
  | k, p :: ps, q :: qs, lo, hi, x6, x7, hd, h, hq => by
    have hk : k < P.length := by
      have : (P.drop k).length = (p :: ps).length := by rw [hd]
      rw [List.length_drop, List.length_cons] at this
      omega
    have hp : P[k]? = some p := by
      have : (P.drop k)[0]? = some p := by rw [hd]; rfl
      rw [List.getElem?_drop] at this
      simpa using this
    have hd' : P.drop (k + 1) = ps := by
      have : (P.drop k).drop 1 = ps := by rw [hd]; rfl
      rw [List.drop_drop] at this
      rw [Nat.add_comm]; simpa [Nat.add_comm] using this
    obtain ⟨h0, h1⟩ := hq q List.mem_cons_self
    have ex := ix_D (R := R) h0 h1
    have ep := ix_tup hp
    by_cases c : p < w
    · obtain ⟨y6, y7, ih⟩ := nexts_loop hP (w := w) (a2 := a2) (k + 1) ps qs (if R.getD q.toNat 0 > lo then R.getD q.toNat 0 else lo) hi (some (.int (k : Nat))) (some (.int q)) hd' (by simpa using h) (fun x hx => hq x (List.mem_cons_of_mem _ hx))
      refine ⟨y6, y7, ?_⟩
      rw [List.map_cons, enumFr, forL]
      simp only [kTup, ksCons, kName, ksNil, List.length_cons, List.length_nil, List.length_set, Nat.reduceAdd, Nat.reduceLT, if_true, M.ret_bind, List.set_cons_succ, List.set_cons_zero, gSeq, gIf, eTest, eBin, eVar, List.getElem?_cons_succ, List.getElem?_cons_zero, ep, ltD_int, asB, decide_eq_true c, gSetN, gSet, eCall, aCons, aNil, ex, max2D_int, gThen, gNil]
      simp only [Nat.blt, Nat.ble, gThen, gNil, M.ret_bind, Bool.false_eq_true, if_false]
      rw [ih, lohi, if_pos c]
    · obtain ⟨y6, y7, ih⟩ := nexts_loop hP (w := w) (a2 := a2) (k + 1) ps qs lo (if R.getD q.toNat 0 < hi then R.getD q.toNat 0 else hi) (some (.int (k : Nat))) (some (.int q)) hd' (by simpa using h) (fun x hx => hq x (List.mem_cons_of_mem _ hx))
      refine ⟨y6, y7, ?_⟩
      rw [List.map_cons, enumFr, forL]
      simp only [kTup, ksCons, kName, ksNil, List.length_cons, List.length_nil, List.length_set, Nat.reduceAdd, Nat.reduceLT, if_true, M.ret_bind, List.set_cons_succ, List.set_cons_zero, gSeq, gIf, eTest, eBin, eVar, List.getElem?_cons_succ, List.getElem?_cons_zero, ep, ltD_int, asB, decide_eq_false c, gSetN, gSet, eCall, aCons, aNil, ex, min2D_int, gThen, gNil]
      simp only [Nat.blt, Nat.ble, gThen, gNil, M.ret_bind, Bool.false_eq_true, if_false]
      rw [ih, lohi, if_neg c]
theorem comp_filter (ρ : En) {lo hi : Int} (hl : ρ.length = 10) (h0 : ρ[0]? = some (some (tupI R))) (h4 : ρ[4]? = some (some (.int lo))) (h5 : ρ[5]? = some (some (.int hi))) : ∀ cs : List Int, (∀ c ∈ cs, 0 ≤ c ∧ c < R.length) →
    compL (kName 7) (eChain ltD ltD (eVar 4) (eBin ixD (eVar 0) (eVar 7)) (eVar 5)) (eVar 7) ρ (cs.map PyData.int) = .ret ((cs.filter fun c => decide (lo < R.getD c.toNat 0) && decide (R.getD c.toNat 0 < hi)).map PyData.int)
  | [], _ => rfl
  | c :: cs, hc => by
    obtain ⟨c0, c1⟩ := hc c List.mem_cons_self
    have ih := comp_filter ρ hl h0 h4 h5 cs fun x hx => hc x (List.mem_cons_of_mem _ hx)
    have e0 : eVar 0 (ρ.set 7 (some (.int c))) = .ret (tupI R) := by unfold eVar; rw [List.getElem?_set_ne (by decide), h0]
    have e4 : eVar 4 (ρ.set 7 (some (.int c))) = .ret (.int lo) := by unfold eVar; rw [List.getElem?_set_ne (by decide), h4]
    have e5 : eVar 5 (ρ.set 7 (some (.int c))) = .ret (.int hi) := by unfold eVar; rw [List.getElem?_set_ne (by decide), h5]
    have e7 : eVar 7 (ρ.set 7 (some (.int c))) = .ret (.int c) := by unfold eVar; rw [List.getElem?_set_self (by omega)]
    rw [List.map_cons, compL, List.filter_cons]
    have ec := chain_ltlt (f1 := eVar 4) (f2 := eBin ixD (eVar 0) (eVar 7)) (f3 := eVar 5) (ρ := ρ.set 7 (some (.int c))) e4 (show eBin ixD (eVar 0) (eVar 7) _ = .ret (.int (R.getD c.toNat 0)) by simp only [eBin, e0, e7, M.ret_bind, ix_D c0 c1]) e5
    simp only [kName, hl, show (7 : Nat) < 10 by decide, if_true, M.ret_bind, ec, e7, ih]
    cases hb : (decide (lo < R.getD c.toNat 0) && decide (R.getD c.toNat 0 < hi)) with
    | true => simp only [if_true, List.map_cons]
    | false => simp only [Bool.false_eq_true, if_false]
/-- nexts -/
theorem nexts_eq (h : PlOk R P Q) : runR nextsG 7 [tupI R, tupI P, tupI Q] = .ret (lstI (nextsF R P Q)) := by
  have hw : P[Q.length]? = some (P.getD Q.length 0) := by rw [List.getD_eq_getElem?_getD, List.getElem?_eq_getElem h.lt]; rfl
  have ew := ix_tup hw
  obtain ⟨y6, y7, el⟩ := nexts_loop (R := R) (P := P) h.le (w := P.getD Q.length 0) (a2 := some (tupI Q)) 0 P Q (-1) R.length none none rfl (Nat.le_of_lt h.lt) h.inR
  have ent : entE 7 [tupI R, tupI P, tupI Q] = [some (tupI R), some (tupI P), some (tupI Q), none, none, none, none, none, none, none] := rfl
  have g1 : gSetT (kTup (ksCons (kName 3) (ksCons (kName 4) (ksCons (kName 5) ksNil)))) (eTup (aCons (eBin ixD (eVar 1) (eCall lenD (aCons (eVar 2) aNil))) (aCons (eUn negD (eC (.int 1))) (aCons (eCall lenD (aCons (eVar 0) aNil)) aNil)))) [some (tupI R), some (tupI P), some (tupI Q), none, none, none, none, none, none, none] =
      .ret (.nx, [some (tupI R), some (tupI P), some (tupI Q), some (.int (P.getD Q.length 0)), some (.int (-1)), some (.int R.length), none, none, none, none]) := by
    simp only [gSetT, eTup, aCons, aNil, eBin, eCall, eUn, eC, eVar, List.getElem?_cons_succ, List.getElem?_cons_zero, M.ret_bind, lenD_tup, List.length_map, ew, negD_int, List.length_cons, List.length_nil, Nat.reduceAdd, show (3 : Nat) ≤ sizeLine by decide, if_true, kTup, ksCons, kName, ksNil, Nat.reduceLT, List.length_set, List.set_cons_succ, List.set_cons_zero]
  have g8 : eIf (eTest (eBin neD (eVar 2) (eTup aNil))) (eBin addD (eBin ixD (eVar 2) (eUn negD (eC (.int 1)))) (eC (.int 1))) (eC (.int 0)) [some (tupI R), some (tupI P), some (tupI Q), some (.int (P.getD Q.length 0)), some (.int (lohi R (P.getD Q.length 0) P Q (-1, R.length)).1), some (.int (lohi R (P.getD Q.length 0) P Q (-1, R.length)).2), y6, y7, none, none] = .ret (.int (firstF Q)) := by
    have e0 : (.tuple [] : D) = tupI [] := rfl
    simp only [eIf, eTest, eBin, eVar, List.getElem?_cons_succ, List.getElem?_cons_zero, eTup, aNil, M.ret_bind, List.length_nil, show (0 : Nat) ≤ sizeLine by decide, if_true, e0, neD_tupI, asB, eUn, eC, negD_int]
    cases hQ : Q.getLast? with
    | none =>
      have : Q = [] := List.getLast?_eq_none_iff.mp hQ
      subst this
      simp [firstF]
    | some q =>
      have hne : Q ≠ [] := fun z => by subst z; cases hQ
      simp only [decide_eq_false hne, Bool.not_false, if_true, ix_last hQ, M.ret_bind, addD_int, firstF, hQ]
  have hb : 0 ≤ firstF Q ∧ firstF Q ≤ R.length := by
    unfold firstF
    cases hQ : Q.getLast? with
    | none => simp only; omega
    | some q =>
      obtain ⟨a, b⟩ := h.inR q (List.mem_of_getLast? hQ)
      simp only; omega
  unfold runR
  rw [ent]
  have body : nextsG [some (tupI R), some (tupI P), some (tupI Q), none, none, none, none, none, none, none] = .ret (.rt (lstI (nextsF R P Q)), [some (tupI R), some (tupI P), some (tupI Q), some (.int (P.getD Q.length 0)), some (.int (lohi R (P.getD Q.length 0) P Q (-1, R.length)).1), some (.int (lohi R (P.getD Q.length 0) P Q (-1, R.length)).2), y6, y7, some (.int (firstF Q)), some (.int ((R.length : Int) - ((P.length : Int) - Q.length)))]) := by
    unfold nextsG
    rw [seq_nx g1]
    rw [seq_nx (show gFor _ _ _ _ = _ from by
      unfold gFor
      simp only [iEnumD, aCons, aNil, eVar, List.getElem?_cons_succ, List.getElem?_cons_zero, M.ret_bind]
      exact el)]
    rw [seq_nx (show gSetN 8 _ _ = .ret (.nx, [some (tupI R), some (tupI P), some (tupI Q), some (.int (P.getD Q.length 0)), some (.int (lohi R (P.getD Q.length 0) P Q (-1, R.length)).1), some (.int (lohi R (P.getD Q.length 0) P Q (-1, R.length)).2), y6, y7, some (.int (firstF Q)), none]) from by
      simp only [gSetN, List.length_cons, List.length_nil, Nat.reduceAdd, Nat.blt, Nat.ble, gSet, g8, M.ret_bind, List.set_cons_succ, List.set_cons_zero])]
    rw [seq_nx (show gSetN 9 _ _ = .ret (.nx, [some (tupI R), some (tupI P), some (tupI Q), some (.int (P.getD Q.length 0)), some (.int (lohi R (P.getD Q.length 0) P Q (-1, R.length)).1), some (.int (lohi R (P.getD Q.length 0) P Q (-1, R.length)).2), y6, y7, some (.int (firstF Q)), some (.int ((R.length : Int) - ((P.length : Int) - Q.length)))]) from by
      simp only [gSetN, List.length_cons, List.length_nil, Nat.reduceAdd, Nat.blt, Nat.ble, gSet, eBin, eCall, aCons, aNil, eVar, List.getElem?_cons_succ, List.getElem?_cons_zero, lenD_tup, List.length_map, subD_int, M.ret_bind, List.set_cons_succ, List.set_cons_zero])]
    refine seq_rt ?_
    have rg : rangeL (firstF Q) ((R.length : Int) - ((P.length : Int) - Q.length) + 1 - firstF Q).toNat = ((List.range ((R.length : Int) - ((P.length : Int) - Q.length) + 1 - firstF Q).toNat).map fun k => firstF Q + (k : Nat)).map PyData.int := by
      unfold rangeL
      rw [List.map_map]; rfl
    have lr := h.lr
    have le := h.le
    have lt := h.lt
    have sm : (smallI (firstF Q) && smallI ((R.length : Int) - ((P.length : Int) - Q.length) + 1)) = true := by
      simp only [smallI, Bool.and_eq_true, decide_eq_true_eq]
      omega
    have hsz : (rangeL (firstF Q) ((R.length : Int) - ((P.length : Int) - Q.length) + 1 - firstF Q).toNat).length ≤ sizeLine := by
      unfold rangeL
      rw [List.length_map, List.length_range, sizeLine_eq]
      omega
    simp only [gRet, eComp, iRange2, aCons, aNil, eBin, eC, eVar, List.getElem?_cons_succ, List.getElem?_cons_zero, addD_int, M.ret_bind, sm, if_true, hsz]
    rw [rg, comp_filter (killS [7] _) rfl rfl rfl rfl _ (fun c hc => ?_)]
    · rfl
    · obtain ⟨k, hk, rfl⟩ := List.mem_map.mp hc
      have := List.mem_range.mp hk
      omega
  rw [body]
  rfl
end
end DL

set_option Elab.async false
set_option linter.all false
set_option maxRecDepth 100000
set_option maxHeartbeats 4000000
/-! DP3: collect, first_placing, is_within. -/
namespace DL
open PySem PySem.Spec PyProof.Rows L2

def collectB (r : List D → M (D × En)) : G := gSeq (gIf (eTest (eBin eqD (eCall lenD (aCons (eVar 2) aNil)) (eCall lenD (aCons (eVar 1) aNil)))) (gSeq (gExprE (eMeth 3 appG (aLift (aCons (eVar 2) aNil)))) (gSeq gRetN gNil)) gNil) (gSeq (gFor (iSeq (eCall (runR nextsG 7) (aCons (eVar 0) (aCons (eVar 1) (aCons (eVar 2) aNil))))) (kName 5) (gSeq (gIf (eTest (eBin leD (eCall lenD (aCons (eVar 3) aNil)) (eVar 4))) (gSeq (gExprE (eCallG [none, none, none, some 3, none] r (aCons (eVar 0) (aCons (eVar 1) (aCons (eBin addD (eVar 2) (eTup (aCons (eVar 5) aNil))) (aCons (eVar 3) (aCons (eVar 4) aNil))))))) gNil) gNil) gNil)) gNil)
def collectD : Nat → List D → M (D × En)
  | 0 => fun _ => .bad
  | n + 1 => runG (collectB (collectD n)) 1 [(3, .lst)]
def collectF (R P : List Int) (most : Nat) : Nat → List Int → List (List Int) → List (List Int)
  | 0, _, f => f
  | n + 1, Q, f => if Q.length = P.length then f ++ [Q] else (nextsF R P Q).foldl (fun f c => if f.length ≤ most then collectF R P most n (Q ++ [c]) f else f) f
abbrev lT (f : List (List Int)) : D := .list (f.map tupI)
section
variable {R P Q : List Int} {most : Nat}
theorem nextsF_in (h : PlOk R P Q) : ∀ c ∈ nextsF R P Q, 0 ≤ c ∧ c < R.length := by
  intro c hc
  unfold nextsF at hc
  have hc := (List.mem_filter.mp hc).1
  obtain ⟨k, hk, rfl⟩ := List.mem_map.mp hc
  have := List.mem_range.mp hk
  have hb : 0 ≤ firstF Q := by
    unfold firstF
    cases hQ : Q.getLast? with
    | none => simp only; omega
    | some q =>
      obtain ⟨a, b⟩ := h.inR q (List.mem_of_getLast? hQ)
      simp only; omega
  have := h.lt
  omega
theorem addD_tup1 (Q : List Int) (c : Int) (h : Q.length ≤ 1000) : addD (tupI Q) (.tuple [.int c]) = .ret (tupI (Q ++ [c])) := by
  have hl : (Q.map PyData.int).length + [PyData.int c].length ≤ sizeLine := by rw [List.length_map, sizeLine_eq]; simp; omega
  simp only [addD, hl, if_true, tupI, List.map_append, List.map_cons, List.map_nil]
theorem collect_ok (hP : P.length ≤ 1000) (hR : R.length ≤ 1000) (hm : most ≤ 1000000) : ∀ (n : Nat) (Q : List Int) (f : List (List Int)), Q.length ≤ P.length → P.length < n + Q.length → (∀ q ∈ Q, 0 ≤ q ∧ q < R.length) → f.length ≤ most →
    collectD n [tupI R, tupI P, tupI Q, lT f, .int (most : Nat)] = .ret (.none, [none, none, none, some (lT (collectF R P most n Q f)), none, none]) ∧ (collectF R P most n Q f).length ≤ most + 1
  | 0, Q, f, h1, h2, _, _ => by omega
  | n + 1, Q, f, h1, h2, hq, hf => by
    have ent : entE 1 [tupI R, tupI P, tupI Q, lT f, .int (most : Nat)] = [some (tupI R), some (tupI P), some (tupI Q), some (lT f), some (.int (most : Nat)), none] := rfl
    have et : eTest (eBin eqD (eCall lenD (aCons (eVar 2) aNil)) (eCall lenD (aCons (eVar 1) aNil))) [some (tupI R), some (tupI P), some (tupI Q), some (lT f), some (.int (most : Nat)), none] = .ret (decide ((Q.length : Int) = P.length)) := by
      simp only [eTest, eBin, eCall, aCons, aNil, eVar, List.getElem?_cons_succ, List.getElem?_cons_zero, M.ret_bind, lenD_tup, List.length_map, eqD_int, asB]
    by_cases hl : Q.length = P.length
    · have hz : (f.map tupI).length < sizeLine := by rw [List.length_map, sizeLine_eq]; omega
      have e1 : collectF R P most (n + 1) Q f = f ++ [Q] := by rw [collectF, if_pos hl]
      rw [e1]
      refine ⟨?_, by rw [List.length_append]; simp; omega⟩
      unfold collectD runG
      rw [ent]
      have b : collectB (collectD n) [some (tupI R), some (tupI P), some (tupI Q), some (lT f), some (.int (most : Nat)), none] = .ret (.rt .none, [some (tupI R), some (tupI P), some (tupI Q), some (lT (f ++ [Q])), some (.int (most : Nat)), none]) := by
        unfold collectB
        refine seq_rt ?_
        simp only [gIf, et, M.ret_bind, decide_eq_true (show (Q.length : Int) = P.length by omega), if_true]
        rw [seq_nx (show gExprE _ _ = .ret (.nx, [some (tupI R), some (tupI P), some (tupI Q), some (lT (f ++ [Q])), some (.int (most : Nat)), none]) from by
          simp only [gExprE, eMeth, aLift, aCons, aNil, eVar, List.getElem?_cons_succ, List.getElem?_cons_zero, M.ret_bind, heldAt, appG, hz, if_true, List.set_cons_succ, List.set_cons_zero, lT, List.map_append, List.map_cons, List.map_nil])]
        exact seq_rt rfl
      rw [b]
      rfl
    · have hlt : Q.length < P.length := by omega
      have pk : PlOk R P Q := ⟨hlt, hP, hR, hq⟩
      have loop : ∀ (cs : List Int) (f : List (List Int)) (x5 : Option D), (∀ c ∈ cs, 0 ≤ c ∧ c < R.length) → f.length ≤ most + 1 →
          ∃ y5, forL (kName 5) (gSeq (gIf (eTest (eBin leD (eCall lenD (aCons (eVar 3) aNil)) (eVar 4))) (gSeq (gExprE (eCallG [none, none, none, some 3, none] (collectD n) (aCons (eVar 0) (aCons (eVar 1) (aCons (eBin addD (eVar 2) (eTup (aCons (eVar 5) aNil))) (aCons (eVar 3) (aCons (eVar 4) aNil))))))) gNil) gNil) gNil)
            (cs.map PyData.int) [some (tupI R), some (tupI P), some (tupI Q), some (lT f), some (.int (most : Nat)), x5] = .ret (.nx, [some (tupI R), some (tupI P), some (tupI Q), some (lT (cs.foldl (fun f c => if f.length ≤ most then collectF R P most n (Q ++ [c]) f else f) f)), some (.int (most : Nat)), y5]) ∧ (cs.foldl (fun f c => if f.length ≤ most then collectF R P most n (Q ++ [c]) f else f) f).length ≤ most + 1 := by
        intro cs
        induction cs with
        | nil => exact fun f x5 _ hf => ⟨x5, rfl, hf⟩
        | cons c cs ih =>
          intro f x5 hc hf
          have e2 : eTest (eBin leD (eCall lenD (aCons (eVar 3) aNil)) (eVar 4)) [some (tupI R), some (tupI P), some (tupI Q), some (lT f), some (.int (most : Nat)), some (.int c)] = .ret (decide ((f.length : Int) ≤ most)) := by
            simp only [eTest, eBin, eCall, aCons, aNil, eVar, List.getElem?_cons_succ, List.getElem?_cons_zero, M.ret_bind, lenD_lst, List.length_map, leD_int, asB]
          by_cases hle : f.length ≤ most
          · obtain ⟨r1, r2⟩ := collect_ok hP hR hm n (Q ++ [c]) f (by simp; omega) (by simp; omega) (fun q hq' => by
              rcases List.mem_append.mp hq' with a | a
              · exact hq q a
              · have e : q = c := by simpa using a
                rw [e]; exact hc c List.mem_cons_self) hle
            obtain ⟨y5, i1, i2⟩ := ih (collectF R P most n (Q ++ [c]) f) (some (.int c)) (fun x hx => hc x (List.mem_cons_of_mem _ hx)) r2
            refine ⟨y5, ?_, by rw [List.foldl_cons, if_pos hle]; exact i2⟩
            rw [List.map_cons, forL, List.foldl_cons, if_pos hle]
            have st : gSeq (gIf (eTest (eBin leD (eCall lenD (aCons (eVar 3) aNil)) (eVar 4))) (gSeq (gExprE (eCallG [none, none, none, some 3, none] (collectD n) (aCons (eVar 0) (aCons (eVar 1) (aCons (eBin addD (eVar 2) (eTup (aCons (eVar 5) aNil))) (aCons (eVar 3) (aCons (eVar 4) aNil))))))) gNil) gNil) gNil [some (tupI R), some (tupI P), some (tupI Q), some (lT f), some (.int (most : Nat)), some (.int c)] =
                .ret (.nx, [some (tupI R), some (tupI P), some (tupI Q), some (lT (collectF R P most n (Q ++ [c]) f)), some (.int (most : Nat)), some (.int c)]) := by
              rw [seq_nx (show gIf _ _ _ _ = .ret (.nx, [some (tupI R), some (tupI P), some (tupI Q), some (lT (collectF R P most n (Q ++ [c]) f)), some (.int (most : Nat)), some (.int c)]) from by
                simp only [gIf, e2, M.ret_bind, decide_eq_true (show (f.length : Int) ≤ most by omega), if_true]
                rw [seq_nx (show gExprE _ _ = .ret (.nx, [some (tupI R), some (tupI P), some (tupI Q), some (lT (collectF R P most n (Q ++ [c]) f)), some (.int (most : Nat)), some (.int c)]) from by
                  simp only [gExprE, eCallG, aCons, aNil, eBin, eTup, eVar, List.getElem?_cons_succ, List.getElem?_cons_zero, M.ret_bind, List.length_cons, List.length_nil, Nat.reduceAdd, show (1 : Nat) ≤ sizeLine by decide, if_true, addD_tup1 Q c (by omega), r1]
                  rfl)]
                rfl)]
              rfl
            simp only [kName, List.length_cons, List.length_nil, Nat.reduceAdd, Nat.reduceLT, if_true, M.ret_bind, List.set_cons_succ, List.set_cons_zero, st]
            exact i1
          · obtain ⟨y5, i1, i2⟩ := ih f (some (.int c)) (fun x hx => hc x (List.mem_cons_of_mem _ hx)) hf
            refine ⟨y5, ?_, by rw [List.foldl_cons, if_neg hle]; exact i2⟩
            rw [List.map_cons, forL, List.foldl_cons, if_neg hle]
            have st : gSeq (gIf (eTest (eBin leD (eCall lenD (aCons (eVar 3) aNil)) (eVar 4))) (gSeq (gExprE (eCallG [none, none, none, some 3, none] (collectD n) (aCons (eVar 0) (aCons (eVar 1) (aCons (eBin addD (eVar 2) (eTup (aCons (eVar 5) aNil))) (aCons (eVar 3) (aCons (eVar 4) aNil))))))) gNil) gNil) gNil [some (tupI R), some (tupI P), some (tupI Q), some (lT f), some (.int (most : Nat)), some (.int c)] =
                .ret (.nx, [some (tupI R), some (tupI P), some (tupI Q), some (lT f), some (.int (most : Nat)), some (.int c)]) := by
              rw [seq_nx (show gIf _ _ _ _ = .ret (.nx, [some (tupI R), some (tupI P), some (tupI Q), some (lT f), some (.int (most : Nat)), some (.int c)]) from by
                simp only [gIf, e2, M.ret_bind, decide_eq_false (show ¬ (f.length : Int) ≤ most by omega), Bool.false_eq_true, if_false]
                rfl)]
              rfl
            simp only [kName, List.length_cons, List.length_nil, Nat.reduceAdd, Nat.reduceLT, if_true, M.ret_bind, List.set_cons_succ, List.set_cons_zero, st]
            exact i1
      obtain ⟨y5, l1, l2⟩ := loop (nextsF R P Q) f none (nextsF_in pk) (by omega)
      have e1 : collectF R P most (n + 1) Q f = (nextsF R P Q).foldl (fun f c => if f.length ≤ most then collectF R P most n (Q ++ [c]) f else f) f := by rw [collectF, if_neg hl]
      rw [e1]
      refine ⟨?_, l2⟩
      unfold collectD runG
      rw [ent]
      have b : collectB (collectD n) [some (tupI R), some (tupI P), some (tupI Q), some (lT f), some (.int (most : Nat)), none] = .ret (.nx, [some (tupI R), some (tupI P), some (tupI Q), some (lT ((nextsF R P Q).foldl (fun f c => if f.length ≤ most then collectF R P most n (Q ++ [c]) f else f) f)), some (.int (most : Nat)), y5]) := by
        unfold collectB
        rw [seq_nx (show gIf _ _ _ _ = .ret (.nx, [some (tupI R), some (tupI P), some (tupI Q), some (lT f), some (.int (most : Nat)), none]) from by
          simp only [gIf, et, M.ret_bind, decide_eq_false (show ¬ (Q.length : Int) = P.length by omega), Bool.false_eq_true, if_false]
          rfl)]
        rw [seq_nx (show gFor _ _ _ _ = _ from by
          unfold gFor
          simp only [iSeq, eCall, aCons, aNil, eVar, List.getElem?_cons_succ, List.getElem?_cons_zero, M.ret_bind, nexts_eq pk, seqItems]
          exact l1)]
        rfl
      rw [b]
      rfl
def placeF (R P : List Int) : Option (List Int) := (collectF R P 0 (P.length + 1) [] []).head?
theorem collectF_more : ∀ (n m : Nat) (Q : List Int) (f : List (List Int)), Q.length ≤ P.length → P.length < n + Q.length → P.length < m + Q.length → collectF R P most n Q f = collectF R P most m Q f
  | 0, _, Q, f, h, h1, _ => by omega
  | _ + 1, 0, Q, f, h, _, h2 => by omega
  | n + 1, m + 1, Q, f, h, h1, h2 => by
    rw [collectF, collectF]
    by_cases hl : Q.length = P.length
    · rw [if_pos hl, if_pos hl]
    · rw [if_neg hl, if_neg hl]
      have e : (fun (f : List (List Int)) c => if f.length ≤ most then collectF R P most n (Q ++ [c]) f else f) = fun f c => if f.length ≤ most then collectF R P most m (Q ++ [c]) f else f := by
        funext f c
        by_cases hf : f.length ≤ most
        · rw [if_pos hf, if_pos hf]; exact collectF_more n m (Q ++ [c]) f (by simp; omega) (by simp; omega) (by simp; omega)
        · rw [if_neg hf, if_neg hf]
      rw [e]
def placingG (n : Nat) : G := gSeq (gSetN 2 (eLst aNil)) (gSeq (gExprE (eCallG [none, none, none, some 2, none] (collectD n) (aCons (eVar 0) (aCons (eVar 1) (aCons (eTup aNil) (aCons (eVar 2) (aCons (eC (.int 0)) aNil))))))) (gSeq (gRet (eIf (eTest (eBin neD (eVar 2) (eLst aNil))) (eBin ixD (eVar 2) (eC (.int 0))) (eC .none))) gNil))
def optT : Option (List Int) → D
  | none => .none
  | some Q => tupI Q
theorem placing_eq {n : Nat} (hP : P.length ≤ 1000) (hR : R.length ≤ 1000) (hn : P.length < n) : runR (placingG n) 1 [tupI R, tupI P] = .ret (optT (placeF R P)) := by
  obtain ⟨c1, c2⟩ := collect_ok (most := 0) hP hR (Nat.zero_le _) n [] [] (Nat.zero_le _) (by simpa using hn) (fun q hq => nomatch hq) (Nat.le_refl _)
  have ec : collectF R P 0 n [] [] = collectF R P 0 (P.length + 1) [] [] := collectF_more _ _ _ _ (Nat.zero_le _) (by simpa using hn) (by simp)
  rw [ec] at c1 c2
  unfold placeF
  generalize collectF R P 0 (P.length + 1) [] [] = F at c1 c2
  have ent : entE 1 [tupI R, tupI P] = [some (tupI R), some (tupI P), none] := rfl
  unfold runR placingG
  rw [ent]
  rw [seq_nx (show gSetN 2 _ _ = .ret (.nx, [some (tupI R), some (tupI P), some (lT [])]) from rfl)]
  rw [seq_nx (show gExprE _ _ = .ret (.nx, [some (tupI R), some (tupI P), some (lT F)]) from by
    have c1' : collectD n [tupI R, tupI P, .tuple [], lT [], .int 0] = _ := c1
    simp only [gExprE, eCallG, aCons, aNil, eTup, eC, eVar, List.getElem?_cons_succ, List.getElem?_cons_zero, M.ret_bind, List.length_nil, show (0 : Nat) ≤ sizeLine by decide, if_true, c1']
    rfl)]
  match F, c2 with
  | [], _ => rfl
  | [Q], _ =>
    have e1 : neD (lT [Q]) (.list []) = .ret (.bool true) := by
      have s1 : SeqAt.shaped (lT [Q]) = true := by
        have := shapedT Q
        unfold SeqAt.shaped at this ⊢
        simp only [Bool.and_eq_true, decide_eq_true_eq] at this ⊢
        simp only [lT, List.map_cons, List.map_nil, PyData.canLay0, PyData.canLayAll0, PyData.depth, PyData.depthAll, Bool.and_true, tupI, canLay_ints, depthA_ints]
        exact ⟨trivial, by decide⟩
      have s2 : SeqAt.shaped (.list []) = true := by decide
      have s3 : PyData.eqv (lT [Q]) (.list []) = false := by simp [lT, PyData.eqv, PyData.eqvAll]
      simp only [neD, gDat, shaped2, s1, s2, s3, Bool.and_self, if_true, Bool.not_false]
    rw [seq_rt (show gRet _ _ = .ret (.rt (tupI Q), [some (tupI R), some (tupI P), some (lT [Q])]) from by
      simp only [gRet, eIf, eTest, eBin, eVar, List.getElem?_cons_succ, List.getElem?_cons_zero, eLst, aNil, M.ret_bind, List.length_nil, show (0 : Nat) ≤ sizeLine by decide, if_true, e1, asB, eC]
      rfl)]
    rfl
def withinG (n : Nat) : G := gSeq (gRet (eBin notND (eCall (runR (placingG n) 1) (aCons (eVar 1) (aCons (eVar 0) aNil))) (eC .none))) gNil
def isW (P R : List Int) : Bool := (placeF R P).isSome
theorem within_eq {n : Nat} (hP : P.length ≤ 1000) (hR : R.length ≤ 1000) (hn : P.length < n) : runR (withinG n) 0 [tupI P, tupI R] = .ret (.bool (isW P R)) := by
  unfold runR withinG
  have ent : entE 0 [tupI P, tupI R] = [some (tupI P), some (tupI R)] := rfl
  rw [ent, seq_rt (show gRet _ _ = .ret (.rt (.bool (isW P R)), [some (tupI P), some (tupI R)]) from by
    simp only [gRet, eBin, eCall, aCons, aNil, eVar, List.getElem?_cons_succ, List.getElem?_cons_zero, M.ret_bind, placing_eq hP hR hn, eC]
    unfold isW
    cases placeF R P <;> rfl)]
  rfl
/-- is_within, quick where both are rows of whole numbers -/
def fastW (n : Nat) : List D → M D
  | [.tuple ps, .tuple rs] => match intsOf ps, intsOf rs with
    | some P, some R => if Nat.ble P.length 1000 && Nat.ble R.length 1000 && Nat.blt P.length n then .ret (.bool (isW P R)) else runR (withinG n) 0 [.tuple ps, .tuple rs]
    | _, _ => runR (withinG n) 0 [.tuple ps, .tuple rs]
  | ds => runR (withinG n) 0 ds
theorem intsOf_eq : ∀ {ds : List D} {ns : List Int}, intsOf ds = some ns → ds = ns.map PyData.int
  | [], _, e => by cases e; rfl
  | d :: ds, ns, e => by
    cases d with
    | int i =>
      unfold intsOf at e
      cases q : intsOf ds with
      | none => rw [q] at e; cases e
      | some r =>
        rw [q] at e
        cases e
        rw [List.map_cons, ← intsOf_eq q]
    | _ => cases e
theorem fastW_eq (n : Nat) : runR (withinG n) 0 = fastW n := by
  funext ds
  unfold fastW
  split
  · split
    · split
      · rename_i e1 e2 h
        simp only [Bool.and_eq_true] at h
        rw [intsOf_eq e1, intsOf_eq e2]
        exact within_eq (Nat.le_of_ble_eq_true h.1.1) (Nat.le_of_ble_eq_true h.1.2) (Nat.blt_eq.mp h.2)
      · rfl
    · rfl
  · rfl
end
end DL

set_option Elab.async false
set_option linter.all false
set_option maxRecDepth 100000
set_option maxHeartbeats 4000000
/-! DP4: checking what a run may answer; more on lists. -/
namespace DL
open PySem PySem.Spec PyProof.Rows L2

def M.chk {α : Type} (f : α → Bool) : M α → Bool
  | .ret d => f d
  | .bad => false
  | .err _ => false
  | .draw n k => Nat.blt 0 n && (List.range n).all fun i => (k i).chk f
theorem chk_wp {α : Type} {f : α → Bool} : ∀ {m : M α}, m.chk f = true → m.wp (fun d => f d = true) noE
  | .ret _, h => h
  | .draw n k, h => by
    unfold M.chk at h
    rw [Bool.and_eq_true] at h
    exact ⟨Nat.blt_eq.mp h.1, fun i hi => chk_wp (List.all_eq_true.mp h.2 i (List.mem_range.mpr hi))⟩
theorem wp_seqG {g h : G} {ρ : En} {Q : Fl × En → Prop} (w : (g ρ).wp (fun p => (gThen h p).wp Q noE) noE) : (gSeq g h ρ).wp Q noE := M.wp_bind.mpr w
theorem wp_ret {α : Type} {m : M α} {x : α} {Q : α → Prop} {E : Er → Prop} (h : m = .ret x) (q : Q x) : m.wp Q E := by rw [h]; exact q
@[simp] theorem neD_same {d : D} (h : SeqAt.shaped d = true) (hr : PyData.eqv d d = true) : neD d d = .ret (.bool false) := by
  unfold neD
  split
  · simp
  · simp only [gDat, shaped2, h, Bool.and_self, if_true, hr, Bool.not_true]
theorem neD_str (x : Str) : neD (.str x) (.str x) = .ret (.bool false) := by simp [neD]
theorem all_get {α : Type} (xs : List α) : (List.range xs.length).filterMap (xs[·]?) = xs := by
  induction xs with
  | nil => rfl
  | cons x xs ih =>
    rw [List.length_cons, List.range_succ_eq_map, List.filterMap_cons]
    simp only [List.getElem?_cons_zero, List.filterMap_map]
    congr 1
theorem stepT_rev {α : Type} (xs : List α) : stepT xs none none (-1) = xs.reverse := by
  unfold stepT placesT
  have e1 : Builtin.Slice.sliceAdjust none none (-1) (xs.length : Int) = ((xs.length : Int) - 1, -1) := rfl
  rw [e1]
  have e2 : Builtin.Slice.slicePlaces ((xs.length : Int) - 1) (-1) (-1) = xs.length := by
    unfold Builtin.Slice.slicePlaces
    rw [if_neg (by decide)]
    by_cases h : (xs.length : Int) - 1 > -1
    · rw [if_pos h]
      have : (xs.length : Int) - 1 - -1 - 1 = (xs.length : Int) - 1 := by omega
      rw [this, show (- -1 : Int) = 1 by decide, Int.ediv_one]
      omega
    · rw [if_neg h]; omega
  simp only [e2]
  have e3 : (List.range xs.length).map (fun (k : Nat) => ((xs.length : Int) - 1 + (k : Int) * -1).toNat) = (List.range xs.length).reverse := by
    rw [← PySem.W.krv_range]
    apply List.map_congr_left
    intro k hk
    have := List.mem_range.mp hk
    omega
  rw [e3, List.filterMap_reverse, all_get]
theorem mem_pick {α : Type} {xs : List α} {is : List Nat} {x : α} (h : x ∈ is.filterMap (xs[·]?)) : x ∈ xs := by
  obtain ⟨i, _, e⟩ := List.mem_filterMap.mp h
  exact List.mem_of_getElem? e
theorem reprD_ok {d : D} (h : reprOk d = true) : reprD [d] = .ret (.str d.shown) := by simp only [reprD, h, if_true]
theorem getD_some {α : Type} {o : Option α} {x : α} (h : o = some x) : o = some x := h
end DL

set_option Elab.async false
set_option linter.all false
set_option maxRecDepth 100000
set_option maxHeartbeats 4000000
/-! DP5: _law_like, _law_lots, _law_bars. -/
namespace DL
open PySem PySem.Spec PyProof.Rows L2

def insI (x : Int) : List Int → List Int
  | [] => [x]
  | y :: r => if x ≤ y then x :: y :: r else y :: insI x r
def sortI : List Int → List Int
  | [] => []
  | x :: r => insI x (sortI r)
theorem insD_int (x : Int) : ∀ r : List Int, insD (.int x) (r.map PyData.int) = (insI x r).map PyData.int
  | [] => rfl
  | y :: r => by
    rw [List.map_cons, insD, insI]
    have e : leD2 (.int x) (.int y) = decide (x ≤ y) := by
      unfold leD2
      rw [dataLt_int]
      by_cases h : y < x
      · rw [decide_eq_true h, decide_eq_false (by omega)]; rfl
      · rw [decide_eq_false h, decide_eq_true (by omega)]; rfl
    rw [e]
    by_cases h : x ≤ y
    · rw [if_pos (decide_eq_true h), if_pos h]; rfl
    · rw [if_neg (by rw [decide_eq_false h]; decide), if_neg h, List.map_cons, insD_int x r]
theorem sortL_int : ∀ r : List Int, sortL (r.map PyData.int) = (sortI r).map PyData.int
  | [] => rfl
  | x :: r => by rw [List.map_cons, sortL, sortI, sortL_int r, insD_int]
theorem insI_mem {x y : Int} : ∀ {r : List Int}, y ∈ insI x r ↔ y = x ∨ y ∈ r
  | [] => by simp [insI]
  | z :: r => by
    unfold insI
    split
    · simp
    · simp only [List.mem_cons, insI_mem]
      constructor
      · rintro (h | h | h)
        · exact .inr (.inl h)
        · exact .inl h
        · exact .inr (.inr h)
      · rintro (h | h | h)
        · exact .inr (.inl h)
        · exact .inl h
        · exact .inr (.inr h)
theorem sortI_mem {y : Int} : ∀ {r : List Int}, y ∈ sortI r ↔ y ∈ r
  | [] => by simp [sortI]
  | x :: r => by rw [sortI, insI_mem, sortI_mem, List.mem_cons]
theorem allInt (r : List Int) : (r.map PyData.int).all isInt = true := by
  rw [List.all_map]
  exact List.all_eq_true.mpr fun _ _ => rfl
theorem sortOk_int (r : List Int) : sortOk (r.map PyData.int) = true := by
  unfold sortOk
  rw [allInt]; rfl
theorem sortedD_int (r : List Int) : sortedD [lstI r] = .ret (lstI (sortI r)) := by
  simp only [sortedD, sortOk_int, Bool.true_or, if_true, sortL_int, lstI]
def idxI (x : Int) : Nat → List Int → Option Nat
  | _, [] => none
  | i, y :: r => if y = x then some i else idxI x (i + 1) r
theorem idxD_int (x : Int) : ∀ (i : Nat) (r : List Int), idxD (.int x) i (r.map PyData.int) = idxI x i r
  | _, [] => rfl
  | i, y :: r => by
    rw [List.map_cons, idxD, idxI, eqv_int, idxD_int x (i + 1) r]
    by_cases h : y = x
    · rw [if_pos (decide_eq_true h), if_pos h]
    · rw [if_neg (by rw [decide_eq_false h]; decide), if_neg h]
theorem idxI_some {x : Int} : ∀ {i : Nat} {r : List Int}, x ∈ r → ∃ j, idxI x i r = some j
  | i, y :: r, h => by
    unfold idxI
    by_cases e : y = x
    · exact ⟨i, if_pos e⟩
    · rw [if_neg e]
      rcases List.mem_cons.mp h with h | h
      · exact absurd h.symm e
      · exact idxI_some h
def likeF (xs : List Int) : List Int := xs.map fun x => (((idxI x 0 (sortI xs)).getD 0 : Nat) : Int)
def likeG : G := gSeq (gSetN 1 (eCall sortedD (aCons (eVar 0) aNil))) (gSeq (gRet (eCall tupleD (aCons (eComp (iSeq (eVar 0)) [2] (kName 2) tYesD (eIndex (eVar 1) (eVar 2))) aNil))) gNil)
theorem like_comp (ρ : En) (hl : ρ.length = 3) {ys : List Int} (h1 : ρ[1]? = some (some (lstI ys))) : ∀ xs : List Int, (∀ x ∈ xs, x ∈ ys) →
    compL (kName 2) tYesD (eIndex (eVar 1) (eVar 2)) ρ (xs.map PyData.int) = .ret ((xs.map fun x => (((idxI x 0 ys).getD 0 : Nat) : Int)).map PyData.int)
  | [], _ => rfl
  | x :: xs, h => by
    have e1 : eVar 1 (ρ.set 2 (some (.int x))) = .ret (lstI ys) := by unfold eVar; rw [List.getElem?_set_ne (by decide), h1]
    have e2 : eVar 2 (ρ.set 2 (some (.int x))) = .ret (.int x) := by unfold eVar; rw [List.getElem?_set_self (by omega)]
    obtain ⟨j, hj⟩ := idxI_some (i := 0) (h x List.mem_cons_self)
    have ih := like_comp ρ hl h1 xs fun y hy => h y (List.mem_cons_of_mem _ hy)
    have ei : eIndex (eVar 1) (eVar 2) (ρ.set 2 (some (.int x))) = .ret (.int (j : Nat)) := by
      simp only [eIndex, e1, e2, M.ret_bind, shaped_ints, shaped_int, Bool.and_self, if_true, idxD_int, hj]
    rw [List.map_cons, compL]
    simp only [kName, hl, show (2 : Nat) < 3 by decide, if_true, M.ret_bind, tYesD, ei, ih]
    rw [List.map_cons, List.map_cons, hj]; rfl
theorem like_eq {xs : List Int} (h : xs.length ≤ 1000) : runR likeG 2 [lstI xs] = .ret (tupI (likeF xs)) := by
  have ent : entE 2 [lstI xs] = [some (lstI xs), none, none] := rfl
  have hz : (xs.map PyData.int).length ≤ sizeLine := by rw [List.length_map, sizeLine_eq]; omega
  unfold runR likeG
  rw [ent, seq_nx (show gSetN 1 _ _ = .ret (.nx, [some (lstI xs), some (lstI (sortI xs)), none]) from by
    simp only [gSetN, List.length_cons, List.length_nil, Nat.reduceAdd, Nat.blt, Nat.ble, gSet, eCall, aCons, aNil, eVar, List.getElem?_cons_zero, M.ret_bind, sortedD_int, List.set_cons_succ, List.set_cons_zero])]
  rw [seq_rt (show gRet _ _ = .ret (.rt (tupI (likeF xs)), [some (lstI xs), some (lstI (sortI xs)), none]) from by
    simp only [gRet, eCall, aCons, aNil, eComp, iSeq, eVar, List.getElem?_cons_zero, M.ret_bind, seqItems, hz, if_true]
    rw [like_comp (killS [2] _) rfl (ys := sortI xs) rfl xs (fun x hx => sortI_mem.mpr hx)]
    rfl)]
  rfl
def lotsG : G := gSeq (gSetN 2 (eLst (aCons (eTup aNil) aNil))) (gSeq (gFor (iRange1 (aCons (eVar 1) aNil)) (kName 3) (gSeq (gSetN 4 (eLst aNil)) (gSeq (gFor (iSeq (eVar 2)) (kName 5) (gSeq (gExprE (eMethB 4 extG (aCons (eComp (iRange2 (aCons (eIf (eTest (eBin neD (eVar 5) (eTup aNil))) (eBin addD (eBin ixD (eVar 5) (eUn negD (eC (.int 1)))) (eC (.int 1))) (eC (.int 0))) (aCons (eVar 0) aNil))) [6] (kName 6) tYesD (eBin addD (eVar 5) (eTup (aCons (eVar 6) aNil)))) aNil))) gNil)) (gSeq (gSetN 2 (eCall listD (aCons (eVar 4) aNil))) gNil)))) (gSeq (gRet (eVar 2)) gNil))
def lots3 (n : Nat) : List (List Int) := (List.range n).flatMap fun a => ((List.range n).filter fun b => Nat.blt a b).flatMap fun b => ((List.range n).filter fun c => Nat.blt b c).map fun (c : Nat) => [(a : Int), (b : Int), (c : Int)]
def sameM (m : M D) (d : D) : Bool := match m with
  | .ret e => sameD e d
  | _ => false
theorem sameM_eq {m : M D} {d : D} (h : sameM m d = true) : m = .ret d := by
  cases m with
  | ret e => rw [sameD_eq e d h]
  | _ => cases h
theorem lots_all : ((List.range 10).all fun n => sameM (runR lotsG 5 [.int (n : Nat), .int 3]) (.list ((lots3 n).map tupI)) && (lots3 n).all fun l => (l.all fun k => decide (0 ≤ k) && decide (k < (n : Nat))) && Nat.beq l.length 3) = true := by decide +kernel
theorem lots_eq {n : Nat} (h : n < 10) : runR lotsG 5 [.int (n : Nat), .int 3] = .ret (.list ((lots3 n).map tupI)) ∧ ∀ l ∈ lots3 n, (∀ k ∈ l, 0 ≤ k ∧ k < (n : Nat)) ∧ l.length = 3 := by
  have := List.all_eq_true.mp lots_all n (List.mem_range.mpr h)
  rw [Bool.and_eq_true] at this
  refine ⟨sameM_eq this.1, fun l hl => ?_⟩
  have h2 := List.all_eq_true.mp this.2 l hl
  rw [Bool.and_eq_true] at h2
  refine ⟨fun k hk => ?_, Nat.eq_of_beq_eq_true h2.2⟩
  have := List.all_eq_true.mp h2.1 k hk
  simpa using this
def barsG : G := gSeq (gFor (iSeq (eCall (runR lotsG 5) (aCons (eCall lenD (aCons (eVar 0) aNil)) (aCons (eC (.int 3)) aNil)))) (kName 2) (gSeq (gIf (eTest (eBin eqD (eCall (runR likeG 2) (aCons (eComp (iSeq (eVar 2)) [3] (kName 3) tYesD (eBin ixD (eVar 0) (eVar 3))) aNil)) (eVar 1))) (gSeq (gRet (eC (.bool false))) gNil) gNil) gNil)) (gSeq (gRet (eC (.bool true))) gNil)
def atL (row lot : List Int) : List Int := lot.map fun k => row.getD k.toNat 0
def barsI (row p : List Int) : Bool := (lots3 row.length).all fun l => !decide (likeF (atL row l) = p)
theorem at_comp {row : List Int} (ρ : En) (hl : ρ.length = 4) (h0 : ρ[0]? = some (some (tupI row))) : ∀ lot : List Int, (∀ k ∈ lot, 0 ≤ k ∧ k < row.length) →
    compL (kName 3) tYesD (eBin ixD (eVar 0) (eVar 3)) ρ (lot.map PyData.int) = .ret ((atL row lot).map PyData.int)
  | [], _ => rfl
  | k :: lot, h => by
    have e0 : eVar 0 (ρ.set 3 (some (.int k))) = .ret (tupI row) := by unfold eVar; rw [List.getElem?_set_ne (by decide), h0]
    have e3 : eVar 3 (ρ.set 3 (some (.int k))) = .ret (.int k) := by unfold eVar; rw [List.getElem?_set_self (by omega)]
    obtain ⟨a, b⟩ := h k List.mem_cons_self
    have ih := at_comp ρ hl h0 lot fun y hy => h y (List.mem_cons_of_mem _ hy)
    rw [List.map_cons, compL]
    simp only [kName, hl, show (3 : Nat) < 4 by decide, if_true, M.ret_bind, tYesD, eBin, e0, e3, ix_D a b, ih]
    rfl
def barsBody : G := gSeq (gIf (eTest (eBin eqD (eCall (runR likeG 2) (aCons (eComp (iSeq (eVar 2)) [3] (kName 3) tYesD (eBin ixD (eVar 0) (eVar 3))) aNil)) (eVar 1))) (gSeq (gRet (eC (.bool false))) gNil) gNil) gNil
theorem bars_test {row p l : List Int} (q1 : ∀ k ∈ l, 0 ≤ k ∧ k < row.length) (q2 : l.length ≤ 1000) : eTest (eBin eqD (eCall (runR likeG 2) (aCons (eComp (iSeq (eVar 2)) [3] (kName 3) tYesD (eBin ixD (eVar 0) (eVar 3))) aNil)) (eVar 1)) [some (tupI row), some (tupI p), some (tupI l), none] = .ret (decide (likeF (atL row l) = p)) := by
  have hz : (l.map PyData.int).length ≤ sizeLine := by rw [List.length_map, sizeLine_eq]; omega
  have e1 : eComp (iSeq (eVar 2)) [3] (kName 3) tYesD (eBin ixD (eVar 0) (eVar 3)) [some (tupI row), some (tupI p), some (tupI l), none] = .ret (lstI (atL row l)) := by
    simp only [eComp, iSeq, eVar, List.getElem?_cons_succ, List.getElem?_cons_zero, M.ret_bind, seqItems, hz, if_true]
    rw [at_comp (killS [3] _) rfl rfl l q1]
    rfl
  have e2 := like_eq (xs := atL row l) (by unfold atL; rw [List.length_map]; exact q2)
  simp only [eTest, eBin, eCall, aCons, aNil, e1, M.ret_bind, e2, eVar, List.getElem?_cons_succ, List.getElem?_cons_zero, eqD_tupI, asB]
theorem bars_loop {row p : List Int} : ∀ (ls : List (List Int)) (x2 : Option D), (∀ l ∈ ls, (∀ k ∈ l, 0 ≤ k ∧ k < row.length) ∧ l.length ≤ 1000) →
    ∃ y2, forL (kName 2) barsBody (ls.map tupI) [some (tupI row), some (tupI p), x2, none] = .ret (if (ls.all fun l => !decide (likeF (atL row l) = p)) then .nx else .rt (.bool false), [some (tupI row), some (tupI p), y2, none])
  | [], x2, _ => ⟨x2, rfl⟩
  | l :: ls, x2, hl => by
    obtain ⟨q1, q2⟩ := hl l List.mem_cons_self
    have et := bars_test (p := p) q1 q2
    rw [List.map_cons, forL]
    by_cases c : likeF (atL row l) = p
    · refine ⟨some (tupI l), ?_⟩
      rw [decide_eq_true c] at et
      simp only [kName, List.length_cons, List.length_nil, Nat.reduceAdd, Nat.reduceLT, if_true, M.ret_bind, List.set_cons_succ, List.set_cons_zero, barsBody, gSeq, gIf, et, gRet, eC, gThen, List.all_cons, decide_eq_true c, Bool.not_true, Bool.false_and, Bool.false_eq_true, if_false]
    · obtain ⟨y2, i1⟩ := bars_loop (p := p) ls (some (tupI l)) fun l' h' => hl l' (List.mem_cons_of_mem _ h')
      refine ⟨y2, ?_⟩
      rw [decide_eq_false c] at et
      have st : barsBody [some (tupI row), some (tupI p), some (tupI l), none] = .ret (.nx, [some (tupI row), some (tupI p), some (tupI l), none]) := by
        simp only [barsBody, gSeq, gIf, et, M.ret_bind, Bool.false_eq_true, if_false, gNil, gThen]
      simp only [kName, List.length_cons, List.length_nil, Nat.reduceAdd, Nat.reduceLT, if_true, M.ret_bind, List.set_cons_succ, List.set_cons_zero, st, List.all_cons, decide_eq_false c, Bool.not_false, Bool.true_and]
      exact i1
theorem bars_gen {row p : List Int} {L : List D → M D} {ls : List (List Int)} (l1 : L [.int (row.length : Nat), .int 3] = .ret (.list (ls.map tupI))) (l2 : ∀ l ∈ ls, (∀ k ∈ l, 0 ≤ k ∧ k < row.length) ∧ l.length ≤ 1000) :
    runR (gSeq (gFor (iSeq (eCall L (aCons (eCall lenD (aCons (eVar 0) aNil)) (aCons (eC (.int 3)) aNil)))) (kName 2) barsBody) (gSeq (gRet (eC (.bool true))) gNil)) 2 [tupI row, tupI p] = .ret (.bool (ls.all fun l => !decide (likeF (atL row l) = p))) := by
  obtain ⟨y2, hl⟩ := bars_loop (p := p) ls none l2
  have ent : entE 2 [tupI row, tupI p] = [some (tupI row), some (tupI p), none, none] := rfl
  have ef : gFor (iSeq (eCall L (aCons (eCall lenD (aCons (eVar 0) aNil)) (aCons (eC (.int 3)) aNil)))) (kName 2) barsBody [some (tupI row), some (tupI p), none, none] = .ret (if (ls.all fun l => !decide (likeF (atL row l) = p)) then .nx else .rt (.bool false), [some (tupI row), some (tupI p), y2, none]) := by
    unfold gFor
    simp only [iSeq, eCall, aCons, aNil, eVar, List.getElem?_cons_zero, M.ret_bind, lenD_tup, List.length_map, eC, l1, seqItems]
    exact hl
  unfold runR
  rw [ent]
  cases hb : (ls.all fun l => !decide (likeF (atL row l) = p)) with
  | true =>
    rw [hb, if_pos rfl] at ef
    rw [seq_nx ef]
    rfl
  | false =>
    rw [hb, if_neg (by decide)] at ef
    rw [seq_rt ef]
    rfl
theorem bars_eq {row p : List Int} (h : row.length < 10) : runR barsG 2 [tupI row, tupI p] = .ret (.bool (barsI row p)) :=
  bars_gen (L := runR lotsG 5) (lots_eq h).1 fun l hl => ⟨((lots_eq h).2 l hl).1, by rw [((lots_eq h).2 l hl).2]; decide⟩
def fastB : List D → M D
  | [.tuple rs, .tuple ps] => match intsOf rs, intsOf ps with
    | some R, some P => match Nat.blt R.length 10 with
      | true => .ret (.bool (barsI R P))
      | false => runR barsG 2 [.tuple rs, .tuple ps]
    | _, _ => runR barsG 2 [.tuple rs, .tuple ps]
  | ds => runR barsG 2 ds
theorem fastB_eq : runR barsG 2 = fastB := by
  funext ds
  unfold fastB
  split
  · split
    · split
      · rename_i e1 e2 _ h
        rw [intsOf_eq e1, intsOf_eq e2]
        exact bars_eq (Nat.blt_eq.mp h)
      · rfl
    · rfl
  · rfl
end DL

set_option Elab.async false
set_option linter.all false
set_option maxRecDepth 100000
set_option maxHeartbeats 4000000
/-! DP6: the plain law: comprehensions over whole numbers, _law_row, checks of statements. -/
namespace DL
open PySem PySem.Spec PyProof.Rows L2

theorem comp_filterI {v : Nat} {c : En → M Bool} (ρ : En) (hv : v < ρ.length) (p : Int → Bool) : ∀ xs : List Int, (∀ x ∈ xs, c (ρ.set v (some (.int x))) = .ret (p x)) → compL (kName v) c (eVar v) ρ (xs.map PyData.int) = .ret ((xs.filter p).map PyData.int)
  | [], _ => rfl
  | x :: xs, h => by
    have ih := comp_filterI ρ hv p xs fun y hy => h y (List.mem_cons_of_mem _ hy)
    have e := h x List.mem_cons_self
    have ev : eVar v (ρ.set v (some (.int x))) = .ret (.int x) := by unfold eVar; rw [List.getElem?_set_self hv]
    rw [List.map_cons, compL, List.filter_cons]
    simp only [kName, hv, if_true, M.ret_bind, e, ev, ih]
    cases p x with
    | true => simp only [if_true, M.ret_bind, List.map_cons]
    | false => simp only [Bool.false_eq_true, if_false]
theorem comp_map {α : Type} {v : Nat} {e : En → M D} (ρ : En) (hv : v < ρ.length) (d g : α → D) : ∀ xs : List α, (∀ x ∈ xs, e (ρ.set v (some (d x))) = .ret (g x)) → compL (kName v) tYesD e ρ (xs.map d) = .ret (xs.map g)
  | [], _ => rfl
  | x :: xs, h => by
    have ih := comp_map ρ hv d g xs fun y hy => h y (List.mem_cons_of_mem _ hy)
    rw [List.map_cons, compL]
    simp only [kName, hv, if_true, M.ret_bind, tYesD, h x List.mem_cons_self, ih, List.map_cons]
theorem any_eqv (i : Int) : ∀ r : List Int, ((r.map PyData.int).any fun y => PyData.eqv y (.int i)) = r.any fun y => decide (y = i)
  | [] => rfl
  | x :: r => by rw [List.map_cons, List.any_cons, List.any_cons, any_eqv i r, eqv_int]
theorem inOk_I (i : Int) (r : List Int) : inOk (.int i) (tupI r) = true ∧ inOk (.int i) (lstI r) = true := by
  simp [inOk, itemsOf, shaped_int, canLay_ints]
@[simp] theorem inD_tupI (i : Int) (r : List Int) : inD (.int i) (tupI r) = .ret (.bool (r.any fun y => decide (y = i))) := by
  simp only [inD, gDat, (inOk_I i r).1, if_true, inAns, itemsOf, any_eqv]
@[simp] theorem ninD_tupI (i : Int) (r : List Int) : ninD (.int i) (tupI r) = .ret (.bool (!r.any fun y => decide (y = i))) := by
  simp only [ninD, gDat, (inOk_I i r).1, if_true, inAns, itemsOf, any_eqv]
theorem shapedL (xs : List Int) : SeqAt.shaped (lstI xs) = true := shaped_ints xs
@[simp] theorem neD_lstI (xs ys : List Int) : neD (lstI xs) (lstI ys) = .ret (.bool (!decide (xs = ys))) := by simp [neD, gDat, shaped2, shapedL, eqv_lstI]
@[simp] theorem eqD_lstI (xs ys : List Int) : eqD (lstI xs) (lstI ys) = .ret (.bool (decide (xs = ys))) := by simp [eqD, gDat, shaped2, shapedL, eqv_lstI]
theorem shaped_bool (b : Bool) : SeqAt.shaped (.bool b) = true := by cases b <;> decide
@[simp] theorem eqD_bool (a b : Bool) : eqD (.bool a) (.bool b) = .ret (.bool (a == b)) := by
  have e : PyData.eqv (.bool a) (.bool b) = (a == b) := by cases a <;> cases b <;> rfl
  simp [eqD, gDat, shaped2, shaped_bool, e]
@[simp] theorem modD_int (i j : Int) (h : j ≠ 0) : modD (.int i) (.int j) = .ret (.int (i.fmod j)) := by
  show (if (j == 0) = true then M.bad else M.ret (PyData.int (i.fmod j))) = _
  rw [if_neg (by simpa using h)]

/-! ### _law_row -/
def rowBody : G := gSeq (gExprE (eMeth 3 appG (aOne (eMeth 2 popAtG (aLift (aCons (eCall drawD (aCons (eVar 0) (aCons (eCall lenD (aCons (eVar 2) aNil)) aNil))) aNil)))))) gNil
def rowG : G := gSeq (gPar 2 3 (eLstRg (rg1 (eVar 1))) (eLst aNil)) (gSeq (whileN (eTest (eBin neD (eVar 2) (eLst aNil))) rowBody 12) (gSeq (gRet (eCall tupleD (aCons (eVar 3) aNil))) gNil))
theorem drawD_len (d0 : D) (n : Nat) (h0 : 0 < n) (h1 : n < 1073741824) : drawD [d0, .int (n : Nat)] = .draw n fun i => .ret (.int (i : Nat)) := by
  have h : 0 < ((n : Nat) : Int) ∧ ((n : Nat) : Int) < 1073741824 := ⟨by omega, by omega⟩
  have e : drawD [d0, .int (n : Nat)] = if 0 < ((n : Nat) : Int) ∧ ((n : Nat) : Int) < 1073741824 then M.draw ((n : Nat) : Int).toNat fun i => M.ret (PyData.int (i : Nat)) else M.bad := rfl
  rw [e, if_pos h, Int.toNat_natCast]
theorem map_erase (f : Int → D) : ∀ (xs : List Int) (k : Nat), (xs.map f).eraseIdx k = (xs.eraseIdx k).map f
  | [], _ => rfl
  | _ :: _, 0 => rfl
  | x :: r, k + 1 => by rw [List.map_cons, List.eraseIdx_cons_succ, List.eraseIdx_cons_succ, List.map_cons, map_erase f r k]
theorem pop_at {xs : List Int} {i : Nat} (hi : i < xs.length) (hl : xs.length ≤ 1000) : popAtG (xs.map PyData.int) [.int (i : Nat)] = .ret (.int xs[i], (xs.eraseIdx i).map PyData.int) := by
  have ex : ixN xs.length (i : Int) = some i := by
    unfold ixN
    rw [if_pos (by omega), if_pos (by omega)]
    rfl
  have eg : (xs.map PyData.int)[i]? = some (.int xs[i]) := by rw [List.getElem?_map, List.getElem?_eq_getElem hi]; rfl
  have hb : -(2 ^ 63) ≤ ((i : Nat) : Int) ∧ ((i : Nat) : Int) < 2 ^ 63 := ⟨by omega, by omega⟩
  unfold popAtG
  simp only [List.length_map, ex, eg]
  rw [if_pos hb, map_erase]
theorem app_at {xs : List Int} {x : Int} (hl : xs.length ≤ 1000) : appG (xs.map PyData.int) [.int x] = .ret (.none, (xs ++ [x]).map PyData.int) := by
  unfold appG
  simp only [List.length_map]
  rw [if_pos (by rw [sizeLine_eq]; omega), List.map_append]
  rfl
theorem row_step {L : List D → M D} {PO AP : List D → List D → M (D × List D)} {x1 : Option D} {left found : List Int} {d0 : D} (hL : L [d0, .int (left.length : Nat)] = .draw left.length fun i => .ret (.int (i : Nat))) (hP : ∀ i (hi : i < left.length), PO (left.map PyData.int) [.int (i : Nat)] = .ret (.int left[i], (left.eraseIdx i).map PyData.int)) (hA : ∀ x : Int, AP (found.map PyData.int) [.int x] = .ret (.none, (found ++ [x]).map PyData.int)) (hl : left ≠ []) {Q : Fl × En → Prop}
    (h : ∀ k (hk : k < left.length), Q (.nx, [some d0, x1, some (lstI (left.eraseIdx k)), some (lstI (found ++ [left[k]]))])) : (gSeq (gExprE (eMeth 3 AP (aOne (eMeth 2 PO (aLift (aCons (eCall L (aCons (eVar 0) (aCons (eCall lenD (aCons (eVar 2) aNil)) aNil))) aNil)))))) gNil [some d0, x1, some (lstI left), some (lstI found)]).wp Q noE := by
  have hp : 0 < left.length := List.length_pos_iff.mpr hl
  unfold gSeq gExprE eMeth aOne aLift eCall aCons
  simp only [eVar, List.getElem?_cons_succ, List.getElem?_cons_zero, M.ret_bind, lenD_lst, List.length_map, aNil, hL, M.draw_bind]
  refine ⟨hp, fun i hi => ?_⟩
  have ep := hP i hi
  have ea := hA left[i]
  simp only [heldAt, List.getElem?_cons_succ, List.getElem?_cons_zero, M.ret_bind, ep, ea, List.set_cons_succ, List.set_cons_zero, gThen, gNil]
  exact h i hi
theorem perm_erase : ∀ {l : List Int} {k : Nat} (hk : k < l.length), (l[k] :: l.eraseIdx k).Perm l
  | x :: r, 0, _ => by simp
  | x :: r, k + 1, hk => by
    have ih := perm_erase (l := r) (k := k) (by simpa using hk)
    simp only [List.getElem_cons_succ, List.eraseIdx_cons_succ]
    exact (List.Perm.swap _ _ _).trans (ih.cons x)
theorem row_loop {x1 : Option D} {d0 : D} : ∀ (f : Nat) (left found : List Int), left.length < f → left.length + found.length ≤ 1000 →
    (whileN (eTest (eBin neD (eVar 2) (eLst aNil))) rowBody f [some d0, x1, some (lstI left), some (lstI found)]).wp (fun q => q.1 = .nx ∧ ∃ r : List Int, r.Perm (left ++ found) ∧ q.2 = [some d0, x1, some (lstI []), some (lstI r)]) noE
  | 0, _, _, h, _ => absurd h (by omega)
  | f + 1, left, found, h, hs => by
    have et : eTest (eBin neD (eVar 2) (eLst aNil)) [some d0, x1, some (lstI left), some (lstI found)] = .ret (!decide (left = [])) := by
      have e : neD (lstI left) (lstI []) = .ret (.bool (!decide (left = []))) := neD_lstI left []
      simp only [eTest, eBin, eVar, List.getElem?_cons_succ, List.getElem?_cons_zero, M.ret_bind, eLst, aNil, List.length_nil, Nat.zero_le, if_true]
      rw [show neD (lstI left) (.list []) = .ret (.bool (!decide (left = []))) from e]
      rfl
    unfold whileN
    rw [et]
    simp only [M.ret_bind]
    by_cases hl : left = []
    · subst hl
      simp only [decide_true, Bool.not_true, Bool.false_eq_true, if_false]
      exact ⟨rfl, found, by simp, rfl⟩
    · rw [if_pos (by simp [hl])]
      refine M.wp_bind.mpr (row_step (L := drawD) (PO := popAtG) (AP := appG) (drawD_len d0 left.length (List.length_pos_iff.mpr hl) (by omega)) (fun i hi => pop_at hi (by omega)) (fun x => app_at (by omega)) hl fun k hk => ?_)
      have ih := row_loop (x1 := x1) (d0 := d0) f (left.eraseIdx k) (found ++ [left[k]]) (by rw [List.length_eraseIdx]; split <;> omega) (by rw [List.length_eraseIdx, List.length_append]; simp; split <;> omega)
      refine M.wp_mono (fun q hq => ?_) (fun _ z => z) ih
      obtain ⟨h1, r, h2, h3⟩ := hq
      refine ⟨h1, r, h2.trans ?_, h3⟩
      have p1 : (left[k] :: left.eraseIdx k).Perm left := perm_erase hk
      have p2 : (left.eraseIdx k ++ (found ++ [left[k]])).Perm (left[k] :: left.eraseIdx k ++ found) := by
        refine (List.perm_append_comm).trans ?_
        rw [List.append_assoc]
        refine (List.perm_append_comm).trans ?_
        simp
      exact p2.trans (p1.append_right found)
abbrev upTo (n : Nat) : List Int := (List.range n).map fun (i : Nat) => (i : Int)
theorem rgOk0 {n : Nat} (hn : n < 1000) : rgOkB 0 (n : Nat) = true := by
  unfold rgOkB
  rw [Bool.and_eq_true, Bool.and_eq_true, Bool.and_eq_true, Bool.and_eq_true]
  refine ⟨⟨⟨⟨rfl, rfl⟩, decide_eq_true (by omega)⟩, decide_eq_true (by omega)⟩, decide_eq_true (by omega)⟩
theorem rgL0 (n : Nat) : rgL 0 (n : Nat) = (upTo n).map PyData.int := by
  unfold rgL upTo
  rw [List.map_map]
  simp only [Int.sub_zero, Int.toNat_natCast]
  refine List.map_congr_left fun i _ => ?_
  simp
theorem lstRg_if {b : Bool} {x : D} (h : b = true) : (if b then M.ret x else M.bad) = M.ret x := by rw [if_pos h]
theorem lstRg_ok {f : En → M D} {ρ : En} {n : Nat} (h : f ρ = .ret (.int (n : Nat))) (hn : n < 1000) : eLstRg (rg1 f) ρ = .ret (lstI (upTo n)) := by
  have e : rg1 f ρ = .ret (0, ((n : Nat) : Int)) := by unfold rg1; rw [h]; rfl
  unfold eLstRg
  rw [e]
  have e2 := lstRg_if (x := .list (rgL 0 (n : Nat))) (rgOk0 hn)
  rw [rgL0] at e2
  refine Eq.trans ?_ e2
  rw [M.ret_bind, rgL0]
theorem par_ok {J N : En → M D} {x0 x1 : Option D} {a b : D} (h1 : J [x0, x1, none, none] = .ret a) (h2 : N [x0, x1, none, none] = .ret b) : gPar 2 3 J N [x0, x1, none, none] = .ret (.nx, [x0, x1, some a, some b]) := by
  simp only [gPar, List.length_cons, List.length_nil, Nat.reduceAdd, Nat.blt, Nat.ble, Bool.and_self, h1, h2, M.ret_bind, List.set_cons_succ, List.set_cons_zero]
theorem row_end {P W T : G} {x0 x1 x2 : Option D} {l : List Int} {ds : List D} {ρ0 : En} (hd : entE 2 ds = ρ0) {ρ1 : En} (hP : P ρ0 = .ret (.nx, ρ1)) (hW : (W ρ1).wp (fun q => q.1 = .nx ∧ ∃ r : List Int, r.Perm l ∧ q.2 = [x0, x1, x2, some (lstI r)]) noE)
    (hT : ∀ r : List Int, T [x0, x1, x2, some (lstI r)] = .ret (.rt (tupI r), [x0, x1, x2, some (lstI r)])) : (runR (gSeq P (gSeq W T)) 2 ds).wp (fun d => ∃ r : List Int, r.Perm l ∧ d = tupI r) noE := by
  unfold runR
  rw [hd]
  refine M.wp_bind.mpr ?_
  rw [seq_nx hP]
  refine wp_seqG (M.wp_mono (fun q hq => ?_) (fun _ z => z) hW)
  obtain ⟨fl, ρ⟩ := q
  obtain ⟨h1, r, h2, h3⟩ := hq
  have h1 : fl = .nx := h1
  have h3 : ρ = _ := h3
  subst h1 h3
  have hq : ∃ r' : List Int, r'.Perm l ∧ tupI r = tupI r' := ⟨r, h2, rfl⟩
  exact wp_ret (m := T [x0, x1, x2, some (lstI r)]) (x := (Fl.rt (tupI r), [x0, x1, x2, some (lstI r)])) (hT r) hq
theorem eLst_nil (ρ : En) : eLst aNil ρ = .ret (lstI []) := by
  unfold eLst aNil
  simp only [M.ret_bind, List.length_nil, Nat.zero_le, if_true]
  rfl
theorem row_fin (x0 x1 x2 : Option D) (r : List Int) : (gSeq (gRet (eCall tupleD (aCons (eVar 3) aNil))) gNil) [x0, x1, x2, some (lstI r)] = .ret (.rt (tupI r), [x0, x1, x2, some (lstI r)]) := rfl
theorem row_hw {n : Nat} {d0 : D} (hn : n < 12) : (whileN (eTest (eBin neD (eVar 2) (eLst aNil))) rowBody 12 [some d0, some (.int (n : Nat)), some (lstI (upTo n)), some (lstI [])]).wp (fun q => q.1 = .nx ∧ ∃ r : List Int, r.Perm (upTo n) ∧ q.2 = [some d0, some (.int (n : Nat)), some (lstI []), some (lstI r)]) noE := by
  have h1 : (upTo n).length = n := by unfold upTo; rw [List.length_map, List.length_range]
  have h2 : (upTo n).length < 12 := by omega
  have h3 : (upTo n).length + ([] : List Int).length ≤ 1000 := by rw [List.length_nil]; omega
  generalize upTo n = l at h2 h3
  refine M.wp_mono (fun q hq => ?_) (fun _ z => z) (row_loop (x1 := some (.int (n : Nat))) (d0 := d0) 12 l [] h2 h3)
  obtain ⟨a, r, b, c⟩ := hq
  exact ⟨a, r, by rw [List.append_nil] at b; exact b, c⟩
theorem row_hp {n : Nat} {d0 : D} (hn : n < 12) : gPar 2 3 (eLstRg (rg1 (eVar 1))) (eLst aNil) [some d0, some (.int (n : Nat)), none, none] = .ret (.nx, [some d0, some (.int (n : Nat)), some (lstI (upTo n)), some (lstI [])]) :=
  par_ok (lstRg_ok rfl (by omega)) (eLst_nil _)
theorem row_ent (a b : D) : entE 2 [a, b] = [some a, some b, none, none] := rfl
theorem rowG_eq : rowG = gSeq (gPar 2 3 (eLstRg (rg1 (eVar 1))) (eLst aNil)) (gSeq (whileN (eTest (eBin neD (eVar 2) (eLst aNil))) rowBody 12) (gSeq (gRet (eCall tupleD (aCons (eVar 3) aNil))) gNil)) := rfl
theorem row_gen {n : Nat} {d0 : D} (hn : n < 12) : (runR rowG 2 [d0, .int (n : Nat)]).wp (fun d => ∃ r : List Int, r.Perm (upTo n) ∧ d = tupI r) noE := by
  rw [rowG_eq]
  have h1 := row_hp (d0 := d0) hn
  have h2 := row_hw (d0 := d0) hn
  generalize gPar 2 3 (eLstRg (rg1 (eVar 1))) (eLst aNil) = P at h1 ⊢
  generalize whileN (eTest (eBin neD (eVar 2) (eLst aNil))) rowBody 12 = W at h2 ⊢
  exact row_end (row_ent _ _) h1 h2 fun r => row_fin _ _ _ r
end DL

set_option Elab.async false
set_option linter.all false
set_option maxRecDepth 100000
set_option maxHeartbeats 4000000
/-! DT0: new things of any kind; several names stored at once. -/
namespace DL
open PySem PySem.Spec PyProof.Rows L2

/-- the things at S are new; the rest as before -/
structure NewY (y yN : Y) (S : List Addr) : Prop where
  b : ∀ a u, y.B a = some u → yN.B a = some u
  f : yN.F0 = y.F0
  z : yN.Z = y.Z
  s : ∀ a ∈ S, y.B a = none ∧ y.F0 a = none ∧ yN.B a ≠ none
section
variable {K : PySem.W.Frag} {y yN : Y} {o : Own} {σ : Sl} {H F : Hp} {ρ : En} {S : List Addr}
theorem NewY.of_with {a : Addr} {vs : List V} (h0 : y.F0 a = none) (hB : y.B a = none) : NewY y (y.with a vs) [a] where
  b := fun b u e => by show upd y.B a (.lst vs) b = some u; rw [upd_ne (ne_of_none e hB)]; exact e
  f := rfl
  z := rfl
  s := fun b hb => by
    have e : b = a := by simpa using hb
    subst e
    exact ⟨hB, h0, by show upd y.B b (.lst vs) b ≠ none; rw [upd_same]; exact nofun⟩
theorem NewY.there (n : NewY y yN S) (s : SR K yN o σ H ρ F) {a : Addr} (ha : a ∈ S) : F a = none ∧ H a ≠ none := by
  obtain ⟨h1, h2, h3⟩ := n.s a ha
  refine ⟨s.pr a h3 (by rw [n.f]; exact h2), fun q => ?_⟩
  exact h3 (s.bs.free q)
/-- the new things are let be -/
theorem NewY.drop (n : NewY y yN S) (s : SR K yN o σ H ρ F) : SR K y o σ H ρ F where
  len := s.len
  fz := s.fz
  bs := fun a u e => s.bs a u (n.b a u e)
  f0 := by rw [← n.f]; exact s.f0
  pr := fun a h1 h2 => s.pr a (fun q => by
    cases e : y.B a with
    | none => exact h1 e
    | some u => rw [n.b a u e] at q; cases q) (by rw [n.f]; exact h2)
  pin := by rw [← n.z]; exact s.pin
  imm := s.imm
  own := by
    obtain ⟨Sx, g1, g2⟩ := s.own
    refine ⟨Sx, fun i kd hi => ?_, g2⟩
    obtain ⟨v, d, e1, e2, e3, e4⟩ := g1 i kd hi
    refine ⟨v, d, e1, e2, e3, fun a ha => ?_⟩
    obtain ⟨r1, r2, r3⟩ := e4 a ha
    refine ⟨r1, ?_, r3⟩
    cases e : y.B a with
    | none => rfl
    | some u => rw [n.b a u e] at r2; cases r2
/-- a name is stored: a new thing of its own, of any kind -/
theorem sr_setW {kd : Kd} {i : Nat} {v : V} {d : D} (n : NewY y yN S) (s : SR K yN o σ H ρ F) (hok : OwnAt K F H kd v d S) (hp : ∀ p ∈ y.Z, p.1 ≠ i) (hi : i < σ.length) :
    SR K y (insO i kd o) (σ.set i (some v)) H (ρ.set i (some d)) F := by
  have s1 := n.drop s
  obtain ⟨Sx, g1, g2⟩ := s.own
  have apart : ∀ {l : Nat} {kd2 : Kd}, o.lookup l = some kd2 → ∀ a ∈ Sx l, a ∉ S := fun {l kd2} hlk a ha hS => by
    obtain ⟨_, _, _, _, _, e4⟩ := g1 l kd2 hlk
    exact (n.s a hS).2.2 (e4 a ha).2.1
  refine ⟨by simpa using s.len, s1.fz, s1.bs, s1.f0, s1.pr, fun p hpz => ?_, fun j d' h1 h2 => ?_, ?_⟩
  · rw [List.getElem?_set_ne (Ne.symm (hp p hpz))]; exact s1.pin p hpz
  · by_cases z : j = i
    · subst z; rw [ins_self] at h2; cases h2
    · rw [List.getElem?_set_ne (Ne.symm z)] at h1
      rw [ins_ne _ z] at h2
      obtain ⟨v', e1, q⟩ := s1.imm j d' h1 h2
      exact ⟨v', by rw [List.getElem?_set_ne (Ne.symm z)]; exact e1, q⟩
  · refine ⟨fun j => if j = i then S else Sx j, fun j kd2 hj => ?_, fun j k kd2 kd' hj hk hjk a ha => ?_⟩
    · by_cases z : j = i
      · subst z
        rw [ins_self] at hj
        cases hj
        refine ⟨v, d, by rw [List.getElem?_set_self hi], by rw [List.getElem?_set_self (by rw [s.len]; exact hi)], by simp only [if_pos rfl]; exact hok, fun a ha => ?_⟩
        simp only [if_pos rfl] at ha
        exact ⟨(n.there s ha).1, (n.s a ha).1, (n.there s ha).2⟩
      · rw [ins_ne _ z] at hj
        obtain ⟨v', d', e1, e2, e3, e4⟩ := g1 j kd2 hj
        refine ⟨v', d', by rw [List.getElem?_set_ne (Ne.symm z)]; exact e1, by rw [List.getElem?_set_ne (Ne.symm z)]; exact e2, by simp only [if_neg z]; exact e3, fun a ha => ?_⟩
        simp only [if_neg z] at ha
        obtain ⟨r1, r2, r3⟩ := e4 a ha
        refine ⟨r1, ?_, r3⟩
        cases e : y.B a with
        | none => rfl
        | some u => rw [n.b a u e] at r2; cases r2
    · by_cases z : j = i
      · subst z
        simp only [if_pos rfl] at ha
        have zk : k ≠ j := fun q => hjk q.symm
        rw [ins_ne _ zk] at hk
        simp only [if_neg zk]
        exact fun q => apart hk a q ha
      · simp only [if_neg z] at ha
        rw [ins_ne _ z] at hj
        by_cases zk : k = i
        · subst zk
          simp only [if_pos rfl]
          exact apart hj a ha
        · simp only [if_neg zk]
          rw [ins_ne _ zk] at hk
          exact g2 j k kd2 kd' hj hk hjk a ha
end

/-- an expression that makes a new thing of the kind kd -/
structure DNK (X : Cx) (o : Own) (kd : Kd) (e : Expr) (f : En → M D) (t : TE) : Prop where
  p : PE X e t
  q : ∀ (y : Y) (σ : Sl) (H : Hp) (ρ : En) (F : Hp) (Q : VK), SR X.K y o σ H ρ F →
    (f ρ).wp (fun d => ∀ v S yN H' F', NewY y yN S → SR X.K yN o σ H' ρ F' → Same F F' → OwnAt X.K F' H' kd v d S → Q v H') noE → t σ H Q
/-- none: frozen; some kd: a new thing of this kind -/
def KWok (k : Option Kd) (K : PySem.W.Frag) (y : Y) (o : Own) (σ : Sl) (ρ : En) (H' F' : Hp) (v : V) (d : D) (yN : Y) : Prop := match k with
  | none => yN = y ∧ SR K y o σ H' ρ F' ∧ Rp K F' v d
  | some kd => ∃ S, NewY y yN S ∧ SR K yN o σ H' ρ F' ∧ OwnAt K F' H' kd v d S
structure DW2 (X : Cx) (o : Own) (k : Option Kd) (e : Expr) (f : En → M D) (t : TE) : Prop where
  p : PE X e t
  q : ∀ (y : Y) (σ : Sl) (H : Hp) (ρ : En) (F : Hp) (Q : VK), SR X.K y o σ H ρ F →
    (f ρ).wp (fun d => ∀ v yN H' F', Same F F' → KWok k X.K y o σ ρ H' F' v d yN → Q v H') noE → t σ H Q
section
variable {X : Cx} {C : Sc} {ol o o' : Own} {kd : Kd} {k : Option Kd} {e : Expr} {es : List Expr} {f : En → M D} {te : TE} {pos : Pos}
theorem DN.nk (h : DN X o e f te) : DNK X o .lst e f te :=
  ⟨h.p, fun y σ H ρ F Q s w => h.q y σ H ρ F Q s (M.wp_mono (fun d k a vs ds H' F' ed hB h0 s' e' hd => k _ [a] _ H' F' (.of_with h0 hB) s' e' ⟨a, vs, ds, rfl, ed, rfl, s'.bs _ _ upd_same, hd⟩) (fun _ z => z) w)⟩
theorem DE.w2 (h : DE X o e f te) : DW2 X o none e f te :=
  ⟨h.p, fun y σ H ρ F Q s w => h.q y σ H ρ F Q s (M.wp_mono (fun d k v H' F' s' e' hd => k v y H' F' e' ⟨rfl, s', hd⟩) (fun _ z => z) w)⟩
theorem DNK.w2 (h : DNK X o kd e f te) : DW2 X o (some kd) e f te :=
  ⟨h.p, fun y σ H ρ F Q s w => h.q y σ H ρ F Q s (M.wp_mono (fun d k v S yN H' F' n s' e' hok => k v yN H' F' e' ⟨S, n, s', hok⟩) (fun _ z => z) w)⟩
theorem DN.w2 (h : DN X o e f te) : DW2 X o (some .lst) e f te := h.nk.w2
/-- x = e, e a new thing -/
theorem ds_newKp {i : Nat} {x : Str} {pos' : Pos} (hp : PS X (.Assign [.Name x pos'] e pos) (tAsg te (gName i))) (he : DNK X o kd e f te) (hk : i ∉ C.kp := by first | decide | (dsimp only; decide)) :
    DS X C ol o (.Assign [.Name x pos'] e pos) (insO i kd o) (gSetN i f) (tAsg te (gName i)) := by
  refine ⟨hp, fun y σ H ρ F D' hz s w => ?_⟩
  unfold gSetN at w
  split at w
  · rename_i hlt
    have hlt : i < ρ.length := Nat.blt_eq.mp hlt
    refine he.q y σ H ρ F _ s (M.wp_mono (fun d k v S yN H' F' n s' e' hok => ?_) (fun _ z => z) (M.wp_bind.mp w))
    exact k _ H' F' (sr_setW n s' hok (fun p hp q => hk (q ▸ hz p hp)) (by rw [← s.len]; exact hlt)) e'
  · exact w.elim
theorem ds_newK {i : Nat} {x : Str} {pos' : Pos} (hN : X.N.Nodup) (he : DNK X o kd e f te) (hi : X.N[i]? = some x := by rfl) (hx : Loc X.env.scope x := by first | exact Or.inl rfl | exact Or.inr rfl) (hk : i ∉ C.kp := by first | decide | (dsimp only; decide)) (hs : swapsWith e (some (.Name x pos')) pos.line X.env = pure false := by rfl) (hf : X.fn x = true ∨ X.env.scope.names.lookup x = some .local := by first | exact .inl rfl | exact .inr rfl | assumption) :
    DS X C ol o (.Assign [.Name x pos'] e pos) (insO i kd o) (gSetN i f) (tAsg te (gName i)) := ds_newKp (ps_set hN hi hx he.p hs hf) he hk

/-! ### several values -/
/-- each frozen, or new -/
inductive KWs (K : PySem.W.Frag) (o : Own) (σ : Sl) (ρ : En) (H' F' : Hp) : List (Option Kd) → Y → List V → List D → Prop
  | nil {y : Y} : SR K y o σ H' ρ F' → KWs K o σ ρ H' F' [] y [] []
  | fz {ks : List (Option Kd)} {y : Y} {v : V} {vs : List V} {d : D} {ds : List D} : Rp K F' v d → KWs K o σ ρ H' F' ks y vs ds → KWs K o σ ρ H' F' (none :: ks) y (v :: vs) (d :: ds)
  | nw {ks : List (Option Kd)} {kd : Kd} {y yN : Y} {S : List Addr} {v : V} {vs : List V} {d : D} {ds : List D} : NewY y yN S → OwnAt K F' H' kd v d S → KWs K o σ ρ H' F' ks yN vs ds → KWs K o σ ρ H' F' (some kd :: ks) y (v :: vs) (d :: ds)
structure DW2s (X : Cx) (o : Own) (ks : List (Option Kd)) (es : List Expr) (f : En → M (List D)) (t : TA) : Prop where
  p : PA X es t
  q : ∀ (y : Y) (σ : Sl) (H : Hp) (ρ : En) (F : Hp) (Q : List V → Hp → Prop), SR X.K y o σ H ρ F →
    (f ρ).wp (fun ds => ∀ vs H' F', Same F F' → KWs X.K o σ ρ H' F' ks y vs ds → Q vs H') noE → t σ H Q
theorem dw2s_nil : DW2s X o [] [] aNil tNil := ⟨pa_nil, fun y σ H ρ F Q s w => w [] H F (.refl _) (.nil s)⟩
theorem KWs.sr {ks : List (Option Kd)} {y : Y} {σ : Sl} {ρ : En} {H F : Hp} {K : PySem.W.Frag} {vs : List V} {ds : List D} (h : KWs K o σ ρ H F ks y vs ds) : SR K y o σ H ρ F := by
  induction h with
  | nil s => exact s
  | fz _ _ ih => exact ih
  | nw n _ _ ih => exact n.drop ih
theorem dw2s_cons {ks : List (Option Kd)} {fs : En → M (List D)} {ta : TA} (h1 : DW2 X o k e f te) (h2 : DW2s X o ks es fs ta) (hs : starEach (e :: es) X.env = (false, eval e X.env) :: starEach es X.env := by rfl) : DW2s X o (k :: ks) (e :: es) (aCons f fs) (tCons te ta) := by
  refine ⟨pa_cons h1.p h2.p hs, fun y σ H ρ F Q s w => h1.q y σ H ρ F _ s (M.wp_mono (fun d q v yN H1 F1 e1 hk => ?_) (fun _ z => z) (M.wp_bind.mp w))⟩
  have s1 : SR X.K yN o σ H1 ρ F1 := by
    cases k with
    | none => obtain ⟨rfl, s1, _⟩ := hk; exact s1
    | some kd => obtain ⟨S, n, s1, _⟩ := hk; exact s1
  refine h2.q yN σ H1 ρ F1 _ s1 (M.wp_mono (fun ds q2 vs H2 F2 e2 hks => ?_) (fun _ z => z) (M.wp_bind.mp q))
  refine q2 (v :: vs) H2 F2 (e1.trans e2) ?_
  cases k with
  | none =>
    obtain ⟨rfl, _, r⟩ := hk
    exact .fz (rp_mono e2 r) hks
  | some kd =>
    obtain ⟨S, n, s1', hok⟩ := hk
    have hh : ∀ a ∈ S, H2 a = H1 a := fun a ha => by
      cases e : yN.B a with
      | none => exact absurd e (n.s a ha).2.2
      | some u => rw [hks.sr.bs a u e, s1'.bs a u e]
    exact .nw n (ownAt_ext hok e2 hh) hks

/-! ### storing them -/
def setW (k : Option Kd) (i : Nat) (o : Own) : Own := match k with
  | none => remO o i
  | some kd => insO i kd o
def setWs : List (Option Kd) → List Nat → Own → Own
  | k :: ks, i :: is, o => setW k i (setWs ks is o)
  | _, _, o => o
def setAll {α : Type} : List Nat → List α → List (Option α) → List (Option α)
  | i :: is, x :: xs, l => setAll is xs (l.set i (some x))
  | _, _, l => l
theorem setAll_comm {α : Type} {i : Nat} {x : α} : ∀ {is : List Nat} {xs : List α} {l : List (Option α)}, i ∉ is → setAll is xs (l.set i (some x)) = (setAll is xs l).set i (some x)
  | [], _, _, _ => by unfold setAll; rfl
  | _ :: _, [], _, _ => rfl
  | j :: is, y :: xs, l, h => by
    simp only [List.mem_cons, not_or] at h
    unfold setAll
    rw [List.set_comm _ _ h.1, setAll_comm h.2]
theorem setAll_len {α : Type} : ∀ {is : List Nat} {xs : List α} {l : List (Option α)}, (setAll is xs l).length = l.length
  | [], _, _ => by unfold setAll; rfl
  | _ :: _, [], _ => rfl
  | j :: is, y :: xs, l => by unfold setAll; rw [setAll_len, List.length_set]
theorem kws_store {K : PySem.W.Frag} {σ : Sl} {ρ : En} {H F : Hp} : ∀ {ks : List (Option Kd)} {is : List Nat} {y : Y} {vs : List V} {ds : List D}, KWs K o σ ρ H F ks y vs ds → is.length = ks.length → is.Nodup → (∀ p ∈ y.Z, p.1 ∉ is) → (∀ i ∈ is, i < σ.length) →
    SR K y (setWs ks is o) (setAll is vs σ) H (setAll is ds ρ) F := by
  intro ks is y vs ds h
  induction h generalizing is with
  | nil s =>
    intro hl _ _ _
    cases is with
    | nil => exact s
    | cons _ _ => cases hl
  | @fz ks y v vs d ds r hks ih =>
    intro hl nd hz hb
    cases is with
    | nil => cases hl
    | cons i is =>
      have nd' := List.nodup_cons.mp nd
      have s := ih (is := is) (by simpa using hl) nd'.2 (fun p hp q => hz p hp (List.mem_cons_of_mem _ q)) fun j hj => hb j (List.mem_cons_of_mem _ hj)
      show SR K y (remO (setWs ks is o) i) (setAll is vs (σ.set i (some v))) H (setAll is ds (ρ.set i (some d))) F
      rw [setAll_comm nd'.1, setAll_comm nd'.1]
      exact sr_set s (fun p hp q => hz p hp (q ▸ List.mem_cons_self)) r (by rw [setAll_len]; exact hb i List.mem_cons_self)
  | @nw ks kd y yN S v vs d ds n hok hks ih =>
    intro hl nd hz hb
    cases is with
    | nil => cases hl
    | cons i is =>
      have nd' := List.nodup_cons.mp nd
      have s := ih (is := is) (by simpa using hl) nd'.2 (fun p hp q => hz p (n.z ▸ hp) (List.mem_cons_of_mem _ q)) fun j hj => hb j (List.mem_cons_of_mem _ hj)
      show SR K y (insO i kd (setWs ks is o)) (setAll is vs (σ.set i (some v))) H (setAll is ds (ρ.set i (some d))) F
      rw [setAll_comm nd'.1, setAll_comm nd'.1]
      exact sr_setW n s hok (fun p hp q => hz p hp (q ▸ List.mem_cons_self)) (by rw [setAll_len]; exact hb i List.mem_cons_self)
def gPars (is : List Nat) (fs : En → M (List D)) : G := fun ρ => match is.all (fun i => Nat.blt i ρ.length) with
  | true => (fs ρ).bind fun ds => .ret (.nx, setAll is ds ρ)
  | false => .bad
theorem kws_len {K : PySem.W.Frag} {σ : Sl} {ρ : En} {H F : Hp} {ks : List (Option Kd)} {y : Y} {vs : List V} {ds : List D} (h : KWs K o σ ρ H F ks y vs ds) : vs.length = ks.length := by
  induction h with
  | nil _ => rfl
  | fz _ _ ih => simp [ih]
  | nw _ _ _ ih => simp [ih]
def kpNo (is kp : List Nat) : Bool := is.all fun i => !kp.contains i
theorem pars_w {is : List Nat} {ks : List (Option Kd)} {fs : En → M (List D)} {ta : TA} (he : DW2s X o ks es fs ta) (hl : is.length = ks.length) (nd : is.Nodup) (hk : kpNo is C.kp = true)
    {y : Y} {σ : Sl} {H : Hp} {ρ : En} {F : Hp} {D' : Ends} {Q : List V → Hp → Prop} (hz : ∀ p ∈ y.Z, p.1 ∈ C.kp) (s : SR X.K y o σ H ρ F) (w : (gPars is fs ρ).wp (Post X.K y C ol (setWs ks is o) F D') noE)
    (hQ : ∀ vs H1, vs.length = is.length → (∀ H2, Same H1 H2 → D'.nx (setAll is vs σ) H2) → Q vs H1) : ta σ H Q := by
  unfold gPars at w
  split at w
  · rename_i hlt
    have hb : ∀ i ∈ is, i < σ.length := fun i hi => by rw [← s.len]; exact Nat.blt_eq.mp (List.all_eq_true.mp hlt i hi)
    refine he.q y σ H ρ F _ s (M.wp_mono (fun ds q vs H' F' e' hks => ?_) (fun _ z => z) (M.wp_bind.mp w))
    refine hQ vs H' (by rw [kws_len hks, hl]) fun H2 hs => ?_
    have s2 := kws_store hks hl nd (fun p hp q => by
      have h1 := List.all_eq_true.mp hk _ q
      have h2 := hz p hp
      simp only [Bool.not_eq_true', List.contains_eq_mem, decide_eq_false_iff_not] at h1
      exact h1 h2) hb
    exact q _ H2 F' (s2.ext ⟨.refl _, s2.fz.trans hs, hs, fun _ _ e => e⟩) e'
  · exact w.elim
theorem ds_pars2 {k1 k2 : Option Kd} {i j : Nat} {a b : Expr} {fs : En → M (List D)} {ta : TA} {x x2 : Str} {px py pt : Pos} {kt k3 : Nat} {pt2 : Pos} (hp : DW2s X o [k1, k2] [a, b] fs ta → PS X (.Assign [.Tuple [.Name x px, .Name x2 py] kt pt] (.Tuple [a, b] k3 pt2) pos) (tPar i j ta))
    (he : DW2s X o [k1, k2] [a, b] fs ta) (nd : [i, j].Nodup := by decide) (hk : kpNo [i, j] C.kp = true := by rfl) :
    DS X C ol o (.Assign [.Tuple [.Name x px, .Name x2 py] kt pt] (.Tuple [a, b] k3 pt2) pos) (setWs [k1, k2] [i, j] o) (gPars [i, j] fs) (tPar i j ta) :=
  ⟨hp he, fun y σ H ρ F D' hz s w => pars_w he rfl nd hk hz s w fun vs H1 hl q => match vs, hl with
    | [v, w'], _ => ⟨v, w', rfl, q H1 (.refl _)⟩⟩
theorem ds_pars3 {k1 k2 k4 : Option Kd} {i j l : Nat} {a b c : Expr} {fs : En → M (List D)} {ta : TA} {x x2 x3 : Str} {px py pz pt : Pos} {kt k3 : Nat} {pt2 : Pos} (hp : DW2s X o [k1, k2, k4] [a, b, c] fs ta → PS X (.Assign [.Tuple [.Name x px, .Name x2 py, .Name x3 pz] kt pt] (.Tuple [a, b, c] k3 pt2) pos) (tPar3 i j l ta))
    (he : DW2s X o [k1, k2, k4] [a, b, c] fs ta) (nd : [i, j, l].Nodup := by decide) (hk : kpNo [i, j, l] C.kp = true := by rfl) :
    DS X C ol o (.Assign [.Tuple [.Name x px, .Name x2 py, .Name x3 pz] kt pt] (.Tuple [a, b, c] k3 pt2) pos) (setWs [k1, k2, k4] [i, j, l] o) (gPars [i, j, l] fs) (tPar3 i j l ta) :=
  ⟨hp he, fun y σ H ρ F D' hz s w => pars_w he rfl nd hk hz s w fun vs H1 hl q => match vs, hl with
    | [u, v, w'], _ => ⟨u, v, w', rfl, q H1 (.refl _)⟩⟩
/-- by a tuple, taken apart -/
def gNames : List Nat → TGs
  | [] => L2.gNil
  | i :: is => gCons (gName i) (gNames is)
theorem gNames_w : ∀ {is : List Nat} {vs : List V} {σ : Sl} {H : Hp} {Q : Sl → Hp → Prop}, vs.length = is.length → Q (setAll is vs σ) H → gNames is vs σ H Q
  | [], [], σ, H, Q, _, q => ⟨rfl, q⟩
  | i :: is, v :: vs, σ, H, Q, hl, q => ⟨v, vs, rfl, gNames_w (is := is) (by simpa using hl) q⟩
  | [], _ :: _, _, _, _, hl, _ => by cases hl
  | _ :: _, [], _, _, _, hl, _ => by cases hl
theorem ds_parsT {is : List Nat} {ks : List (Option Kd)} {tgs : List Expr} {fs : En → M (List D)} {ta : TA} {n kt k3 : Nat} {pt pt2 : Pos} {tx : TE} {gt : TG} (hp : DW2s X o ks es fs ta → PS X (.Assign [.Tuple tgs kt pt] (.Tuple es k3 pt2) pos) (tAsg tx gt)) (htx : tx = tTup ta) (hgt : gt = gTup X.K n (gNames is))
    (he : DW2s X o ks es fs ta) (hl : is.length = ks.length) (hn : is.length = n) (hsz : n ≤ sizeLine := by decide) (nd : is.Nodup := by decide) (hk : kpNo is C.kp = true := by rfl) :
    DS X C ol o (.Assign [.Tuple tgs kt pt] (.Tuple es k3 pt2) pos) (setWs ks is o) (gPars is fs) (tAsg tx gt) := by
  subst htx hgt
  refine ⟨hp he, fun y σ H ρ F D' hz s w => ?_⟩
  refine pars_w (Q := fun xs H1 => xs.length ≤ sizeLine ∧ ∀ p, H1 p = none → gTup X.K n (gNames is) (.ref p) σ (upd H1 p (.tup xs)) fun σ' H' => D'.nx σ' H') he hl nd hk hz s w fun vs H1 hl' q => ?_
  refine ⟨by rw [hl', hn]; exact hsz, fun p hp => ⟨p, vs, rfl, .inl (.inl upd_same), by rw [hl', hn], gNames_w hl' (q _ fun b u e => ?_)⟩⟩
  rw [upd_ne (ne_of_none e hp)]; exact e
end
end DL

set_option Elab.async false
set_option linter.all false
set_option maxRecDepth 100000
set_option maxHeartbeats 4000000
/-! DT1: dicts that a name holds alone, keys ints and texts. -/
namespace DL
open PySem PySem.Spec PyProof.Rows L2

section
variable {κ : Type} [DecidableEq κ] (emb : κ → D)
/-- a table of pairs, by value -/
inductive KVR (K : PySem.W.Frag) (F : Hp) : List (κ × V) → List (D × D) → Prop
  | nil : KVR K F [] []
  | cons {k : κ} {v : V} {d : D} {r : List (κ × V)} {r' : List (D × D)} : Rp K F v d → KVR K F r r' → KVR K F ((k, v) :: r) ((emb k, d) :: r')
end
def findD (k : D) : List (D × D) → Option D
  | [] => none
  | p :: r => if sameD p.1 k then some p.2 else findD k r
def putD (k v : D) (ds : List (D × D)) : List (D × D) := if ds.any fun p => sameD p.1 k then ds.map fun p => if sameD p.1 k then (p.1, v) else p else ds ++ [(k, v)]
section
variable {κ : Type} [DecidableEq κ] {emb : κ → D} {K : PySem.W.Frag} {F F' : Hp} {kvs : List (κ × V)} {ds : List (D × D)}
theorem KVR.mono (e : Same F F') (h : KVR emb K F kvs ds) : KVR emb K F' kvs ds := by
  induction h with
  | nil => exact .nil
  | cons r _ ih => exact .cons (rp_mono e r) ih
theorem KVR.len (h : KVR emb K F kvs ds) : kvs.length = ds.length := by
  induction h with
  | nil => rfl
  | cons _ _ ih => simp [ih]
def Inj (emb : κ → D) : Prop := ∀ a b, sameD (emb a) (emb b) = decide (a = b)
theorem KVR.find (he : Inj emb) (k : κ) (h : KVR emb K F kvs ds) : (valV kvs k = none ∧ findD (emb k) ds = none) ∨ ∃ v d, valV kvs k = some v ∧ findD (emb k) ds = some d ∧ Rp K F v d := by
  induction h with
  | nil => exact .inl ⟨rfl, rfl⟩
  | @cons k' v d r r' hr _ ih =>
    by_cases e : k' = k
    · exact .inr ⟨v, d, valV_pos (p := (k', v)) e, by unfold findD; rw [he, if_pos (decide_eq_true e)], hr⟩
    · have e2 : findD (emb k) ((emb k', d) :: r') = findD (emb k) r' := by
        show (if sameD (emb k') (emb k) then _ else _) = _
        rw [he, if_neg (by rw [decide_eq_false e]; exact Bool.false_ne_true)]
      rw [valV_neg (p := (k', v)) e, e2]
      exact ih
theorem KVR.any (he : Inj emb) (k : κ) (h : KVR emb K F kvs ds) : (kvs.any fun kv => decide (kv.1 = k)) = ds.any fun p => sameD p.1 (emb k) := by
  induction h with
  | nil => rfl
  | cons _ _ ih => rw [List.any_cons, List.any_cons, ih, he]
theorem KVR.map (he : Inj emb) (k : κ) {v : V} {d : D} (hv : Rp K F v d) (h : KVR emb K F kvs ds) : KVR emb K F (kvs.map fun kv => if kv.1 = k then (kv.1, v) else kv) (ds.map fun p => if sameD p.1 (emb k) then (p.1, d) else p) := by
  induction h with
  | nil => exact .nil
  | @cons k' v' d' r r' hr _ ih =>
    have he' : ∀ a b, sameD (emb a) (emb b) = decide (a = b) := he
    rw [List.map_cons, List.map_cons]
    by_cases e : k' = k
    · simp only [he', if_pos e, decide_eq_true e, if_true]
      exact .cons hv ih
    · simp only [he', if_neg e, decide_eq_false e, Bool.false_eq_true, if_false]
      exact .cons hr ih
theorem KVR.snoc (k : κ) {v : V} {d : D} (hv : Rp K F v d) (h : KVR emb K F kvs ds) : KVR emb K F (kvs ++ [(k, v)]) (ds ++ [(emb k, d)]) := by
  induction h with
  | nil => exact .cons hv .nil
  | cons hr _ ih => exact .cons hr ih
theorem KVR.put (he : Inj emb) (k : κ) {v : V} {d : D} (hv : Rp K F v d) (h : KVR emb K F kvs ds) : KVR emb K F (putK kvs k v) (putD (emb k) d ds) := by
  unfold putK putD
  rw [h.any he k]
  by_cases e : (ds.any fun p => sameD p.1 (emb k)) = true
  · rw [if_pos e, if_pos e]; exact h.map he k hv
  · rw [if_neg e, if_neg e]; exact h.snoc k hv
end
def kD : Key → D
  | .inl i => .int i
  | .inr x => .str x
theorem inj_kD : Inj kD := fun a b => by
  cases a with
  | inl i =>
    cases b with
    | inl j => simp [kD, sameD]
    | inr y => simp [kD, sameD]
  | inr x =>
    cases b with
    | inl j => simp [kD, sameD]
    | inr y => simp [kD, sameD]
def keyOf : D → Option Key
  | .int i => some (.inl i)
  | .str x => some (.inr x)
  | _ => none
theorem keyOf_kD {d : D} {k : Key} (h : keyOf d = some k) : d = kD k := by
  cases d <;> simp [keyOf] at h <;> subst h <;> rfl
theorem rp_key {K : PySem.W.Frag} {F : Hp} {v : V} {k : Key} (h : Rp K F v (kD k)) : v = kV k := by
  cases k with
  | inl i => cases h; rfl
  | inr x => cases h; rfl
/-- a dict with such keys -/
def dctK : RawS where
  ok := fun K F H v d S => ∃ a kvs ds, v = .ref a ∧ d = .dict ds ∧ S = [a] ∧ H a = some (.dK kvs) ∧ KVR kD K F kvs ds
  fr := fun {K F F' H H' v d S} h hf hh => by
    obtain ⟨a, kvs, ds, rfl, rfl, rfl, h1, h2⟩ := h
    exact ⟨a, kvs, ds, rfl, rfl, rfl, by rw [hh a List.mem_cons_self]; exact h1, h2.mono hf⟩
theorem new_dict {y : Y} {a : Addr} {o : HO} (h0 : y.F0 a = none) (hB : y.B a = none) : NewY y ⟨upd y.B a o, y.F0, y.Z⟩ [a] where
  b := fun b u e => by show upd y.B a o b = some u; rw [upd_ne (ne_of_none e hB)]; exact e
  f := rfl
  z := rfl
  s := fun b hb => by
    have e : b = a := by simpa using hb
    subst e
    exact ⟨hB, h0, by show upd y.B b o b ≠ none; rw [upd_same]; exact nofun⟩
/-- a new object at a, let be -/
theorem sr_newW {K : PySem.W.Frag} {y : Y} {o : Own} {σ : Sl} {H F : Hp} {ρ : En} {a : Addr} {u : HO} (s : SR K y o σ H ρ F) (ha : H a = none) : SR K ⟨upd y.B a u, y.F0, y.Z⟩ o σ (upd H a u) ρ F := by
  have hF : F a = none := s.fz.free ha
  have hB : y.B a = none := s.bs.free ha
  have hs : Same H (upd H a u) := fun b w e => by rw [upd_ne (ne_of_none e ha)]; exact e
  have s1 : SR K y o σ (upd H a u) ρ F := s.ext ⟨.refl _, s.fz.trans hs, hs, fun _ _ e => e⟩
  refine ⟨s1.len, s1.fz, fun b w e => ?_, s1.f0, fun b h1 h2 => ?_, s1.pin, s1.imm, ?_⟩
  · by_cases z : b = a
    · subst z
      have e : upd y.B b u b = some w := e
      rw [upd_same] at e ⊢; exact e
    · have e : upd y.B a u b = some w := e
      rw [upd_ne z] at e
      exact s1.bs b w e
  · by_cases z : b = a
    · subst z; exact hF
    · have h1 : upd y.B a u b ≠ none := h1
      rw [upd_ne z] at h1
      exact s1.pr b h1 h2
  · obtain ⟨S, g1, g2⟩ := s.own
    refine ⟨S, fun i kd hi => ?_, g2⟩
    obtain ⟨v, d, e1, e2, e3, e4⟩ := g1 i kd hi
    refine ⟨v, d, e1, e2, ownAt_ext e3 (.refl _) fun b hb => upd_ne fun z => (e4 b hb).2.2 (z ▸ ha), fun b hb => ?_⟩
    obtain ⟨r1, r2, r3⟩ := e4 b hb
    have z : b ≠ a := fun z => r3 (z ▸ ha)
    exact ⟨r1, by show upd y.B a u b = none; rw [upd_ne z]; exact r2, by rw [upd_ne z]; exact r3⟩
def eDct0 : En → M D := fun _ => .ret (.dict [])
section
variable {X : Cx} {C : Sc} {ol o o' : Own} {e ei : Expr} {f fk : En → M D} {te tk : TE} {pos pos' p2 : Pos} {k : Nat}
theorem dnk_newK : DNK X o (.st dctK) (.Dict [] [] pos) eDct0 tDNewK := by
  refine ⟨pe_dnewK, fun y σ H ρ F Q s w p hp => ?_⟩
  have hB : y.B p = none := s.bs.free hp
  have h0 : y.F0 p = none := s.f0.free (s.fz.free hp)
  exact w (.ref p) [p] _ _ F (new_dict (o := .dK []) h0 hB) (sr_newW s hp) (.refl _) ⟨p, [], [], rfl, rfl, rfl, upd_same, .nil⟩
theorem dct_of {K : PySem.W.Frag} {y : Y} {σ : Sl} {H F : Hp} {ρ : En} {i : Nat} (s : SR K y o σ H ρ F) (ho : o.lookup i = some (.st dctK)) : ∃ a kvs ds, σ[i]? = some (some (.ref a)) ∧ ρ[i]? = some (some (.dict ds)) ∧ H a = some (.dK kvs) ∧ KVR kD K F kvs ds ∧ F a = none := by
  obtain ⟨S, g1, _⟩ := s.own
  obtain ⟨v, d, e1, e2, e3, e4⟩ := g1 i _ ho
  obtain ⟨a, kvs, ds, rfl, rfl, hS, h1, h2⟩ := e3
  exact ⟨a, kvs, ds, e1, e2, h1, h2, (e4 a (by rw [hS]; exact List.mem_cons_self)).1⟩
/-- what a slot holds is changed: it holds the like again -/
theorem sr_putW {K : PySem.W.Frag} {y : Y} {σ : Sl} {H H' F : Hp} {ρ : En} {i : Nat} {kd : Kd} {v : V} {d d' : D} (s : SR K y o σ H ρ F) (ho : o.lookup i = some kd) (hv : σ[i]? = some (some v)) (hd : ρ[i]? = some (some d))
    (hH : ∀ S, OwnAt K F H kd v d S → (∀ a ∈ S, F a = none ∧ y.B a = none ∧ H a ≠ none) → OwnAt K F H' kd v d' S ∧ (∀ a ∈ S, H' a ≠ none) ∧ ∀ a, a ∉ S → H a ≠ none → H' a = H a) : SR K y o σ H' (ρ.set i (some d')) F := by
  obtain ⟨S, g1, g2⟩ := s.own
  obtain ⟨v0, d0, e1, e2, e3, e4⟩ := g1 i kd ho
  rw [hv] at e1; cases e1
  rw [hd] at e2; cases e2
  obtain ⟨q1, q2, q3⟩ := hH (S i) e3 e4
  have hi : i < ρ.length := by
    rcases Nat.lt_or_ge i ρ.length with h | h
    · exact h
    · rw [List.getElem?_eq_none h] at hd; cases hd
  have keep : ∀ a u, H a = some u → a ∉ S i → H' a = some u := fun a u e hn => (q3 a hn (by rw [e]; exact nofun)).trans e
  refine ⟨by simpa using s.len, fun a u e => keep a u (s.fz a u e) fun hS => ?_, fun a u e => keep a u (s.bs a u e) fun hS => ?_, s.f0, s.pr, s.pin, fun j d2 h1 h2 => ?_, ⟨S, fun j kd2 hj => ?_, g2⟩⟩
  · rw [(e4 a hS).1] at e; cases e
  · rw [(e4 a hS).2.1] at e; cases e
  · by_cases z : j = i
    · subst z; rw [ho] at h2; cases h2
    · rw [List.getElem?_set_ne (Ne.symm z)] at h1
      exact s.imm j d2 h1 h2
  · by_cases z : j = i
    · subst z
      rw [ho] at hj; cases hj
      exact ⟨v, d', hv, by rw [List.getElem?_set_self hi], q1, fun a ha => ⟨(e4 a ha).1, (e4 a ha).2.1, q2 a ha⟩⟩
    · obtain ⟨v2, d2, r1, r2, r3, r4⟩ := g1 j kd2 hj
      have hh : ∀ a ∈ S j, H' a = H a := fun a ha => q3 a (g2 j i kd2 kd hj ho z a ha) (r4 a ha).2.2
      exact ⟨v2, d2, r1, by rw [List.getElem?_set_ne (Ne.symm z)]; exact r2, ownAt_ext r3 (.refl _) hh, fun a ha => ⟨(r4 a ha).1, (r4 a ha).2.1, by rw [hh a ha]; exact (r4 a ha).2.2⟩⟩
def dctAt (i : Nat) (ρ : En) : M (List (D × D)) := match ρ[i]? with
  | some (some (.dict ds)) => .ret ds
  | _ => .bad
/-- d[k] = v -/
def gDPut (i : Nat) (f fk : En → M D) : G := fun ρ => (f ρ).bind fun d => (fk ρ).bind fun kd => (dctAt i ρ).bind fun ds => match keyOf kd with
  | some _ => if ds.length < sizeLine then .ret (.nx, ρ.set i (some (.dict (putD kd d ds)))) else .bad
  | none => .bad
theorem RB.frz {K : PySem.W.Frag} {y : Y} {σ : Sl} {H F : Hp} {ρ : En} {v : V} {k : Key} (s : SR K y o σ H ρ F) (r : RB K o σ ρ F v (kD k)) : v = kV k := rp_key (RB.rp s r)
theorem ds_dput {i : Nat} {o₁ : Expr} (hr : Rm k X.A) (hv : PE X o₁ (tVar i)) (he : DE X o e f te) (hik : DB X o ei fk tk) (ho : o.lookup i = some (.st dctK)) (hs : swapsWith e (some (.Subscript o₁ ei p2)) pos.line X.env = pure false := by rfl) :
    DS X C ol o (.Assign [.Subscript o₁ ei p2] e pos) o (gDPut i f fk) (sDPut (tVar i) tk te) := by
  refine ⟨ps_dput (by have := hr.r.units; omega) hv hik.p he.p hs, fun y σ H ρ F D' hz s w => he.q y σ H ρ F _ s (M.wp_mono (fun d q v H1 F1 s1 e1 hd => ?_) (fun _ z => z) (M.wp_bind.mp w))⟩
  obtain ⟨a, kvs, ds, h1, h2, _⟩ := dct_of s1 ho
  refine ⟨.ref a, h1, ?_⟩
  refine hik.q y σ H1 ρ F1 _ s1 (M.wp_mono (fun kd q2 vk H2 F2 s2 e2 hk => ?_) (fun _ z => z) (M.wp_bind.mp q))
  obtain ⟨a', kvs', ds', h1', h2', h3, h4, h5⟩ := dct_of s2 ho
  rw [h1] at h1'; cases h1'
  rw [h2] at h2'; cases h2'
  unfold dctAt at q2
  simp only [h2, M.ret_bind] at q2
  split at q2
  · rename_i ky hky
    split at q2
    · rename_i hl
      have ek := keyOf_kD hky
      subst ek
      have ev := RB.frz s2 hk
      subst ev
      refine ⟨a, _, rfl, DPut.k h3 (by rw [h4.len]; exact hl), ?_⟩
      refine q2 σ _ F2 (sr_putW s2 ho h1 h2 fun S hS hSa => ?_) (e1.trans e2)
      obtain ⟨a2, kvs2, ds2, e1', e2', rfl, h1'', h2''⟩ := hS
      cases e1'; cases e2'
      rw [h3] at h1''; cases h1''
      refine ⟨⟨a, _, _, rfl, rfl, rfl, upd_same, h2''.put inj_kD _ (rp_mono e2 hd)⟩, fun b hb => ?_, fun b hb _ => ?_⟩
      · have e : b = a := by simpa using hb
        subst e
        rw [upd_same]; exact nofun
      · exact upd_ne fun z => hb (by simp [z])
    · exact q2.elim
  · exact q2.elim
/-- d[k] -/
def eDGet (i : Nat) (fk : En → M D) : En → M D := fun ρ => (fk ρ).bind fun kd => (dctAt i ρ).bind fun ds => match keyOf kd with
  | some _ => match findD kd ds with
    | some d => .ret d
    | none => .bad
  | none => .bad
theorem de_dget {i : Nat} {o₁ : Expr} (hr : Rm k X.A) (hv : PE X o₁ (tVar i)) (hik : DB X o ei fk tk) (ho : o.lookup i = some (.st dctK)) (hs : NoSl ei) : DE X o (.Subscript o₁ ei pos) (eDGet i fk) (tDGet (tVar i) tk) := by
  refine ⟨pe_dget (by have := hr.r.units; omega) hv hik.p hs, fun y σ H ρ F Q s w => ?_⟩
  obtain ⟨a, kvs, ds, h1, h2, _⟩ := dct_of s ho
  refine ⟨.ref a, h1, ?_⟩
  refine hik.q y σ H ρ F _ s (M.wp_mono (fun kd q2 vk H2 F2 s2 e2 hk => ?_) (fun _ z => z) (M.wp_bind.mp w))
  obtain ⟨a', kvs', ds', h1', h2', h3, h4, h5⟩ := dct_of s2 ho
  rw [h1] at h1'; cases h1'
  rw [h2] at h2'; cases h2'
  unfold dctAt at q2
  simp only [h2, M.ret_bind] at q2
  split at q2
  · rename_i ky hky
    have ek := keyOf_kD hky
    subst ek
    have ev := RB.frz s2 hk
    subst ev
    rcases h4.find inj_kD ky with ⟨z1, z2⟩ | ⟨v, d, z1, z2, z3⟩
    · rw [z2] at q2; exact q2.elim
    · rw [z2] at q2
      exact ⟨a, v, rfl, by rw [← z1]; exact DGet.k h3, q2 v H2 F2 s2 e2 z3⟩
  · exact q2.elim
def gB : Bool → Bool → Bool
  | true, x => x
  | false, x => !x
/-- k in d -/
def eDIn (b : Bool) (i : Nat) (fk : En → M D) : En → M D := fun ρ => (fk ρ).bind fun kd => (dctAt i ρ).bind fun ds => match keyOf kd with
  | some _ => .ret (.bool (gB b (findD kd ds).isSome))
  | none => .bad
theorem din_w {i : Nat} {b : Bool} (hik : DB X o ei fk tk) (ho : o.lookup i = some (.st dctK)) {y : Y} {σ : Sl} {H : Hp} {ρ : En} {F : Hp} (s : SR X.K y o σ H ρ F) {Q : VK} (w : (eDIn b i fk ρ).wp (fun d => ∀ v H' F', SR X.K y o σ H' ρ F' → Same F F' → Rp X.K F' v d → Q v H') noE) :
    tk σ H fun y H1 => tVar i σ H1 fun x H2 => ∃ a o, x = .ref a ∧ DGet H2 a y o ∧ Q (.bl (gB b o.isSome)) H2 := by
  refine hik.q y σ H ρ F _ s (M.wp_mono (fun kd q2 vk H2 F2 s2 e2 hk => ?_) (fun _ z => z) (M.wp_bind.mp w))
  obtain ⟨a, kvs, ds, h1, h2, h3, h4, h5⟩ := dct_of s2 ho
  refine ⟨.ref a, h1, ?_⟩
  unfold dctAt at q2
  simp only [h2, M.ret_bind] at q2
  split at q2
  · rename_i ky hky
    have ek := keyOf_kD hky
    subst ek
    have ev := RB.frz s2 hk
    subst ev
    refine ⟨a, valV kvs ky, rfl, DGet.k h3, ?_⟩
    have e : (valV kvs ky).isSome = (findD (kD ky) ds).isSome := by
      rcases h4.find inj_kD ky with ⟨z1, z2⟩ | ⟨v, d, z1, z2, z3⟩
      · rw [z1, z2]; rfl
      · rw [z1, z2]; rfl
    rw [e]
    exact q2 _ H2 F2 s2 e2 (.bl _)
  · exact q2.elim
theorem de_din {i : Nat} {o₁ : Expr} (hr : Rm k X.A) (hik : DB X o ei fk tk) (hv : PE X o₁ (tVar i)) (ho : o.lookup i = some (.st dctK)) (hm : behindInMarks .In o₁ = false := by rfl) : DE X o (.Compare ei [.In] [o₁] pos) (eDIn true i fk) (tDIn tk (tVar i)) := by
  refine ⟨pe_cmp (pc_din (by have := hr.r.units; omega) hik.p hv) hm, fun y σ H ρ F Q s w => ?_⟩
  exact din_w (Q := Q) hik ho s w
theorem de_dnin {i : Nat} {o₁ : Expr} (hr : Rm k X.A) (hik : DB X o ei fk tk) (hv : PE X o₁ (tVar i)) (ho : o.lookup i = some (.st dctK)) (hm : behindInMarks .NotIn o₁ = false := by rfl) : DE X o (.Compare ei [.NotIn] [o₁] pos) (eDIn false i fk) (tDNotIn tk (tVar i)) := by
  refine ⟨pe_cmp (pc_dnotin (by have := hr.r.units; omega) hik.p hv) hm, fun y σ H ρ F Q s w => ?_⟩
  exact din_w (Q := Q) hik ho s w
end
end DL

set_option Elab.async false
set_option linter.all false
set_option maxRecDepth 100000
set_option maxHeartbeats 4000000
/-! DT2: min, max of data, with a default. -/
namespace DL
open PySem PySem.Spec PyProof.Rows L2

def canL : List D → Bool := PyData.canLayAll0
def mmOk (ds : List D) : Bool := ds.all isInt || (allAl ds && ds.all notNone && decide (PyData.depthAll ds ≤ 64) && PyData.canLayAll0 ds)
def minX : Bool → D → List D → D
  | true, x, r => PySem.W.maxD x r
  | false, x, r => PySem.W.minD x r
theorem canLay_int : ∀ {ds : List D}, ds.all isInt = true → PyData.canLayAll0 ds = true
  | [], _ => by simp [PyData.canLayAll0]
  | x :: r, h => by
    simp only [List.all_cons, Bool.and_eq_true] at h
    rw [PyData.canLayAll0, canLay_int h.2]
    cases x <;> simp_all [isInt, PyData.canLay0]
theorem mmOk_of {ds : List D} (h : mmOk ds = true) : PySem.W.AlikeAll ds ∧ PyData.depthAll ds ≤ 64 ∧ PyData.canLayAll0 ds = true := by
  unfold mmOk at h
  rw [Bool.or_eq_true] at h
  rcases h with h | h
  · refine ⟨⟨fun x hx y hy => ?_, fun x hx => ?_⟩, by rw [depth_intL h]; omega, canLay_int h⟩
    · have a := List.all_eq_true.mp h x hx; have b := List.all_eq_true.mp h y hy
      cases x <;> cases y <;> simp_all [isInt, PySem.W.alike]
    · have a := List.all_eq_true.mp h x hx
      intro z
      subst z
      simp [isInt] at a
  · simp only [Bool.and_eq_true, decide_eq_true_eq] at h
    refine ⟨⟨fun x hx y hy => allAl_of h.1.1.1 x hx y hy, fun x hx => ?_⟩, h.1.2, h.2⟩
    have a := List.all_eq_true.mp h.1.1.2 x hx
    intro z
    subst z
    simp [notNone] at a
def rMM (b : Bool) (K : PySem.W.Frag) : List V → Hp → VK → Prop := fun xs H Q => ∃ a vs x r, xs = [.ref a] ∧ (SqL K H a vs ∨ SqT K H a vs) ∧ DpAll K H vs (x :: r) ∧ mmOk (x :: r) = true ∧
  ∀ (i : Nat) (v : V), vs[i]? = some v → (x :: r)[i]? = some (minX b x r) → Q v H
def rMMd (b : Bool) (K : PySem.W.Frag) : List V → List V → Hp → VK → Prop := fun xs zs H Q => ∃ a vs ds z, xs = [.ref a] ∧ zs = [z] ∧ (SqL K H a vs ∨ SqT K H a vs) ∧ DpAll K H vs ds ∧ mmOk ds = true ∧
  (ds = [] → Q z H) ∧ ∀ (x : D) (r : List D) (i : Nat) (v : V), ds = x :: r → vs[i]? = some v → ds[i]? = some (minX b x r) → Q v H
section
variable {X : Cx} {k : Nat} {pins : List (Addr × Obj)} {σ : Sl} {H : Hp} {s : Shared}
theorem canLay_get : ∀ {ds : List D} {i : Nat} {d : D}, PyData.canLayAll0 ds = true → ds[i]? = some d → d.canLay0 = true
  | [], _, _, _, h => by simp at h
  | x :: r, 0, d, h, e => by
    simp only [List.getElem?_cons_zero, Option.some.injEq] at e
    subst e
    rw [PyData.canLayAll0, Bool.and_eq_true] at h
    exact h.1
  | x :: r, i + 1, d, h, e => by
    rw [PyData.canLayAll0, Bool.and_eq_true] at h
    exact canLay_get h.2 (by simpa using e)
/-- an item of what is walked, by its data -/
theorem dp_item (I : Inv X pins σ H s) : ∀ {vs : List V} {ds : List D} {us : List Value}, DpAll X.K H vs ds → Vals vs us → ∀ (i : Nat) (u : Value), us[i]? = some u → ∃ v d as, vs[i]? = some v ∧ ds[i]? = some d ∧ RelV v u ∧ Reads s.heap u d as
  | _, _, _, .nil, h, i, u, e => by cases h; simp at e
  | _, _, _, .cons h1 h2, h, i, u, e => by
    cases h with
    | cons r1 r2 =>
      cases i with
      | zero =>
        simp only [List.getElem?_cons_zero, Option.some.injEq] at e
        subst e
        obtain ⟨as, r⟩ := Dp.reads I _ _ _ h1 r1
        exact ⟨_, _, as, rfl, rfl, r1, r⟩
      | succ i =>
        obtain ⟨v, d, as, e1, e2, e3⟩ := dp_item I h2 r2 i u (by simpa using e)
        exact ⟨v, d, as, by simpa using e1, by simpa using e2, e3⟩
theorem dpAll_reads (I : Inv X pins σ H s) : ∀ {vs : List V} {ds : List D} {us : List Value}, DpAll X.K H vs ds → Vals vs us → ∃ as, ReadsAll s.heap us ds as
  | _, _, _, .nil, h => by cases h; exact ⟨_, .nil⟩
  | _, _, _, .cons h1 h2, h => by
    cases h with
    | cons r1 r2 =>
      obtain ⟨as, r⟩ := Dp.reads I _ _ _ h1 r1
      obtain ⟨bs, q⟩ := dpAll_reads I h2 r2
      exact ⟨_, .cons r q⟩
theorem mm_fin (I : Inv X pins σ H s) {b : Bool} {vs : List V} {x : D} {r : List D} {us : List Value} {Q : VK} (hd : DpAll X.K H vs (x :: r)) (hv : Vals vs us) (hc : PyData.canLayAll0 (x :: r) = true)
    (q : ∀ (i : Nat) (v : V), vs[i]? = some v → (x :: r)[i]? = some (minX b x r) → Q v H) {i : Nat} {v : Value} {h' : Heap} {tk : Nat} {bs : List Addr} (hi : us.toArray[i]? = some v) (hr : Reads h' v (minX b x r) bs) (hk : ∀ b o, s.heap.get? b = some o → h'.get? b = some o) :
    EP X pins σ Q v { s with heap := h', toks := tk } := by
  obtain ⟨v', d, as, e1, e2, e3, e4⟩ := dp_item I hd hv i v (by simpa using hi)
  have e5 : d = minX b x r := (Reads.unique (PyProof.Rows.Reads.keeps hk e4) _ _ hr).1
  subst e5
  exact ⟨v', H, I.kept (t' := tk) hk, e3, q i v' e1 e2⟩
theorem call_max1 (hr : Rm k X.A) (hc : X.calm = true) : CallR X (.builtin "max") (rMM true X.K) := by
  intro pins s σ H xs us Q I r h
  obtain ⟨a, vs, x, t, rfl, hs, hd, hk, q⟩ := h
  obtain ⟨u, rfl, rx⟩ := vals1 r
  cases rx
  obtain ⟨k1, k2, k3⟩ := mmOk_of hk
  have hun := hr.r.un
  rcases hs with hs | hs
  · obtain ⟨its, rv, hl, hz⟩ := I.list hs
    obtain ⟨as, ra⟩ := dpAll_reads I hd rv
    exact PySem.W.max_list_data (I.ok.hd hc) hl.isList (by simpa using ra) k1 (by omega) fun i v h' tk bs hi hr' hk' => mm_fin (b := true) I hd rv k3 q hi hr' hk'
  · obtain ⟨its, rv, hl, hz⟩ := I.tuple hs
    obtain ⟨as, ra⟩ := dpAll_reads I hd rv
    exact PySem.W.max_tuple_data (I.ok.hd hc) hl (by simpa using ra) k1 (by omega) fun i v h' tk bs hi hr' hk' => mm_fin (b := true) I hd rv k3 q hi hr' hk'
theorem call_min1 (hr : Rm k X.A) (hc : X.calm = true) : CallR X (.builtin "min") (rMM false X.K) := by
  intro pins s σ H xs us Q I r h
  obtain ⟨a, vs, x, t, rfl, hs, hd, hk, q⟩ := h
  obtain ⟨u, rfl, rx⟩ := vals1 r
  cases rx
  obtain ⟨k1, k2, k3⟩ := mmOk_of hk
  have hun := hr.r.un
  rcases hs with hs | hs
  · obtain ⟨its, rv, hl, hz⟩ := I.list hs
    obtain ⟨as, ra⟩ := dpAll_reads I hd rv
    exact PySem.W.min_list_data (I.ok.hd hc) hl.isList (by simpa using ra) k1 (by omega) fun i v h' tk bs hi hr' hk' => mm_fin (b := false) I hd rv k3 q hi hr' hk'
  · obtain ⟨its, rv, hl, hz⟩ := I.tuple hs
    obtain ⟨as, ra⟩ := dpAll_reads I hd rv
    exact PySem.W.min_tuple_data (I.ok.hd hc) hl (by simpa using ra) k1 (by omega) fun i v h' tk bs hi hr' hk' => mm_fin (b := false) I hd rv k3 q hi hr' hk'
theorem call_maxd (hr : Rm k X.A) (hc : X.calm = true) : CallRK X (.builtin "max") [Str.ofString "default"] (rMMd true X.K) := by
  intro pins s σ H xs zs us ws Q I r rz h
  obtain ⟨a, vs, ds, z, rfl, rfl, hs, hd, hk, q0, q⟩ := h
  obtain ⟨u, rfl, rx⟩ := vals1 r
  cases rx
  obtain ⟨u2, rfl, rz2⟩ := vals1 rz
  obtain ⟨k1, k2, k3⟩ := mmOk_of hk
  have hun := hr.r.un
  rcases hs with hs | hs
  · obtain ⟨its, rv, hl, hz⟩ := I.list hs
    obtain ⟨as, ra⟩ := dpAll_reads I hd rv
    refine PySem.W.max_list_default (I.ok.hd hc) hl.isList (by simpa using ra) k1 (by omega) (fun e h' tk hk' => ⟨z, H, I.kept (t' := tk) hk', rz2, q0 e⟩) fun x t i v h' tk bs e hi hr' hk' => ?_
    subst e
    exact mm_fin (b := true) I hd rv k3 (fun i v => q x t i v rfl) hi hr' hk'
  · obtain ⟨its, rv, hl, hz⟩ := I.tuple hs
    obtain ⟨as, ra⟩ := dpAll_reads I hd rv
    refine PySem.W.max_tuple_default (I.ok.hd hc) hl (by simpa using ra) k1 (by omega) (fun e h' tk hk' => ⟨z, H, I.kept (t' := tk) hk', rz2, q0 e⟩) fun x t i v h' tk bs e hi hr' hk' => ?_
    subst e
    exact mm_fin (b := true) I hd rv k3 (fun i v => q x t i v rfl) hi hr' hk'
theorem call_mind (hr : Rm k X.A) (hc : X.calm = true) : CallRK X (.builtin "min") [Str.ofString "default"] (rMMd false X.K) := by
  intro pins s σ H xs zs us ws Q I r rz h
  obtain ⟨a, vs, ds, z, rfl, rfl, hs, hd, hk, q0, q⟩ := h
  obtain ⟨u, rfl, rx⟩ := vals1 r
  cases rx
  obtain ⟨u2, rfl, rz2⟩ := vals1 rz
  obtain ⟨k1, k2, k3⟩ := mmOk_of hk
  have hun := hr.r.un
  rcases hs with hs | hs
  · obtain ⟨its, rv, hl, hz⟩ := I.list hs
    obtain ⟨as, ra⟩ := dpAll_reads I hd rv
    refine PySem.W.min_list_default (I.ok.hd hc) hl.isList (by simpa using ra) k1 (by omega) (fun e h' tk hk' => ⟨z, H, I.kept (t' := tk) hk', rz2, q0 e⟩) fun x t i v h' tk bs e hi hr' hk' => ?_
    subst e
    exact mm_fin (b := false) I hd rv k3 (fun i v => q x t i v rfl) hi hr' hk'
  · obtain ⟨its, rv, hl, hz⟩ := I.tuple hs
    obtain ⟨as, ra⟩ := dpAll_reads I hd rv
    refine PySem.W.min_tuple_default (I.ok.hd hc) hl (by simpa using ra) k1 (by omega) (fun e h' tk hk' => ⟨z, H, I.kept (t' := tk) hk', rz2, q0 e⟩) fun x t i v h' tk bs e hi hr' hk' => ?_
    subst e
    exact mm_fin (b := false) I hd rv k3 (fun i v => q x t i v rfl) hi hr' hk'
end
/-- quick for whole numbers -/
def mmV (b : Bool) (x : D) (r : List D) : D := match x, intsOf r with
  | .int n, some ns => .int (if b then ns.foldl max n else ns.foldl min n)
  | _, _ => minX b x r
theorem mmV_eq (b : Bool) (x : D) (r : List D) : mmV b x r = minX b x r := by
  unfold mmV
  split
  · rename_i n ns e
    have er : r = ns.map PyData.int := by
      clear n
      induction r generalizing ns with
      | nil => cases e; rfl
      | cons d r ih =>
        cases d with
        | int i =>
          unfold intsOf at e
          cases q : intsOf r with
          | none => rw [q] at e; cases e
          | some t =>
            rw [q] at e
            cases e
            rw [List.map_cons, ← ih t q]
        | _ => cases e
    subst er
    cases b with
    | true => simp only [if_true]; exact (PySem.W.maxD_ints n ns).symm
    | false => simp only [Bool.false_eq_true, if_false]; exact (PySem.W.minD_ints n ns).symm
  · rfl
def mmD (b : Bool) : List D → M D
  | [.list (x :: r)] => if mmOk (x :: r) then .ret (mmV b x r) else .bad
  | [.tuple (x :: r)] => if mmOk (x :: r) then .ret (mmV b x r) else .bad
  | _ => .bad
theorem minX_mem (b : Bool) (x : D) (r : List D) : minX b x r ∈ x :: r := by
  have go : ∀ (f : D → D → Bool) (r : List D) (x : D), r.foldl (fun a y => if f a y then y else a) x ∈ x :: r := by
    intro f r
    induction r with
    | nil => intro x; exact List.mem_cons_self
    | cons y r ih =>
      intro x
      rw [List.foldl_cons]
      rcases List.mem_cons.mp (ih (if f x y then y else x)) with h | h
      · rw [h]
        cases f x y with
        | true => exact List.mem_cons_of_mem _ List.mem_cons_self
        | false => exact List.mem_cons_self
      · exact List.mem_cons_of_mem _ (List.mem_cons_of_mem _ h)
  cases b with
  | true => exact go (fun a y => PySem.W.dataLt a y) r x
  | false => exact go (fun a y => PySem.W.dataLt y a) r x
theorem e_mm {K : PySem.W.Frag} {b : Bool} : CallE K (rMM b K) (mmD b) := by
  intro vs H F ds Q f hs w
  unfold mmD at w
  split at w
  · split at w
    · rename_i hk
      cases hs with
      | cons h1 h2 =>
        cases h2
        obtain ⟨a, us, rfl, t1, r1⟩ := h1.list f
        refine ⟨a, us, _, _, rfl, .inl (SqL.of t1), (rpAll_mono f r1).dp, hk, fun i v hv hd => ?_⟩
        obtain ⟨v', e1, e2⟩ := rpAll_get r1 hd
        rw [hv] at e1; cases e1
        exact w v F H (.refl f) (by rw [mmV_eq]; exact e2)
    · exact w.elim
  · split at w
    · rename_i hk
      cases hs with
      | cons h1 h2 =>
        cases h2
        obtain ⟨a, us, rfl, t1, t1', r1⟩ := h1.tup f
        refine ⟨a, us, _, _, rfl, .inr t1, (rpAll_mono f r1).dp, hk, fun i v hv hd => ?_⟩
        obtain ⟨v', e1, e2⟩ := rpAll_get r1 hd
        rw [hv] at e1; cases e1
        exact w v F H (.refl f) (by rw [mmV_eq]; exact e2)
    · exact w.elim
  · exact w.elim
/-- max(x, default=y) -/
def mmDd (b : Bool) (d z : D) : M D := match d with
  | .list [] => .ret z
  | .tuple [] => .ret z
  | .list (x :: r) => if mmOk (x :: r) then .ret (mmV b x r) else .bad
  | .tuple (x :: r) => if mmOk (x :: r) then .ret (mmV b x r) else .bad
  | _ => .bad
def eMMd (b : Bool) (f g : En → M D) : En → M D := fun ρ => (f ρ).bind fun d => (g ρ).bind fun z => mmDd b d z
section
variable {X : Cx} {o : Own} {e e2 : Expr} {es : List Expr} {f g : En → M D} {fs : En → M (List D)} {te tz : TE} {t : TA} {x : Str} {p pos kpos : Pos} {k : Nat} {b : Bool} {K : PySem.W.Frag}
theorem mmd_rp {F H : Hp} {d z : D} {v vz : V} {Q : VK} (f : Same F H) (h1 : Rp K F v d) (h2 : Rp K F vz z) (w : (mmDd b d z).wp (fun u => ∀ v, Rp K F v u → Q v H) noE) : rMMd b K [v] [vz] H Q := by
  unfold mmDd at w
  split at w
  · cases h1 with
    | lst hs ha =>
      cases ha
      exact ⟨_, _, _, vz, rfl, rfl, .inl (SqL.of (f _ _ hs)), .nil, rfl, fun _ => w _ h2, fun _ _ _ _ e => nomatch e⟩
  · cases h1 with
    | tup hs ha =>
      cases ha
      exact ⟨_, _, _, vz, rfl, rfl, .inr (sqT_mono f hs), .nil, rfl, fun _ => w _ h2, fun _ _ _ _ e => nomatch e⟩
  · split at w
    · rename_i hk
      cases h1 with
      | lst hs ha =>
        refine ⟨_, _, _, vz, rfl, rfl, .inl (SqL.of (f _ _ hs)), (rpAll_mono f ha).dp, hk, (fun e => nomatch e), fun x r i v e hv hd => ?_⟩
        cases e
        obtain ⟨v', e1, e2⟩ := rpAll_get ha hd
        rw [hv] at e1; cases e1
        exact w v (by rw [mmV_eq]; exact e2)
    · exact w.elim
  · split at w
    · rename_i hk
      cases h1 with
      | tup hs ha =>
        refine ⟨_, _, _, vz, rfl, rfl, .inr (sqT_mono f hs), (rpAll_mono f ha).dp, hk, (fun e => nomatch e), fun x r i v e hv hd => ?_⟩
        cases e
        obtain ⟨v', e1, e2⟩ := rpAll_get ha hd
        rw [hv] at e1; cases e1
        exact w v (by rw [mmV_eq]; exact e2)
    · exact w.elim
  · exact w.elim
theorem mmd_w (h1 : DE X o e f te) (h2 : DE X o e2 g tz) (y : Y) (σ : Sl) (H : Hp) (ρ : En) (F : Hp) (Q : VK) (s : SR X.K y o σ H ρ F) (w : (eMMd b f g ρ).wp (fun d => ∀ v H' F', SR X.K y o σ H' ρ F' → Same F F' → Rp X.K F' v d → Q v H') noE) :
    tCKw (rMMd b X.K) (tCons te tNil) (tCons tz tNil) σ H Q := by
  refine h1.q y σ H ρ F _ s (M.wp_mono (fun d q v H1 F1 s1 e1 hd => ?_) (fun _ z => z) (M.wp_bind.mp w))
  refine h2.q y σ H1 ρ F1 _ s1 (M.wp_mono (fun z q2 vz H2 F2 s2 e2 hz => ?_) (fun _ z => z) (M.wp_bind.mp q))
  exact mmd_rp s2.fz (rp_mono e2 hd) hz (M.wp_mono (fun u q3 v hv => q3 v H2 F2 s2 (e1.trans e2) hv) (fun _ z => z) q2)
theorem de_maxd (hK : X.K = K) (hr : Rm k X.A) (hc : X.calm = true) (hgl : Gl X "max") (hm : X.mg "max" = none) (h1 : DE X o e f te) (h2 : DE X o e2 g tz)
    (ha : starEach [e] X.env = (false, eval e X.env) :: starEach [] X.env := by rfl)
    (he : backTo pos (starEach [e] X.env) = (false, eval e X.env) :: backTo pos (starEach [] X.env) := by rfl) (hpl : (backTo pos (starEach [e] X.env)).any (·.1) = false := by rfl)
    (hall : (backToKw pos (keywordEach [⟨some "default", e2, kpos⟩] X.env)).all (·.1.isSome) = true := by rfl) (hnone : (backToKw pos (keywordEach [⟨some "default", e2, kpos⟩] X.env)).any (·.1.isNone) = false := by rfl) (hks : (backToKw pos (keywordEach [⟨some "default", e2, kpos⟩] X.env)).filterMap (·.1) = [Str.ofString "default"] := by rfl) :
    DE X o (.Call (.Name "max" p) [e] [⟨some "default", e2, kpos⟩] pos) (eMMd true f g) (tCKw (rMMd true K) (tCons te tNil) (tCons tz tNil)) := by
  subst hK
  exact ⟨pe_callBK (call_maxd hr hc) hgl hm boot_max (pa_cons h1.p pa_nil ha) (pk_cons h2.p pk_nil) (by decide) (by decide) he hpl hall hnone hks, fun y σ H ρ F Q s w => mmd_w h1 h2 y σ H ρ F Q s w⟩
theorem de_mind (hK : X.K = K) (hr : Rm k X.A) (hc : X.calm = true) (hgl : Gl X "min") (hm : X.mg "min" = none) (h1 : DE X o e f te) (h2 : DE X o e2 g tz)
    (ha : starEach [e] X.env = (false, eval e X.env) :: starEach [] X.env := by rfl)
    (he : backTo pos (starEach [e] X.env) = (false, eval e X.env) :: backTo pos (starEach [] X.env) := by rfl) (hpl : (backTo pos (starEach [e] X.env)).any (·.1) = false := by rfl)
    (hall : (backToKw pos (keywordEach [⟨some "default", e2, kpos⟩] X.env)).all (·.1.isSome) = true := by rfl) (hnone : (backToKw pos (keywordEach [⟨some "default", e2, kpos⟩] X.env)).any (·.1.isNone) = false := by rfl) (hks : (backToKw pos (keywordEach [⟨some "default", e2, kpos⟩] X.env)).filterMap (·.1) = [Str.ofString "default"] := by rfl) :
    DE X o (.Call (.Name "min" p) [e] [⟨some "default", e2, kpos⟩] pos) (eMMd false f g) (tCKw (rMMd false K) (tCons te tNil) (tCons tz tNil)) := by
  subst hK
  exact ⟨pe_callBK (call_mind hr hc) hgl hm boot_min (pa_cons h1.p pa_nil ha) (pk_cons h2.p pk_nil) (by decide) (by decide) he hpl hall hnone hks, fun y σ H ρ F Q s w => mmd_w h1 h2 y σ H ρ F Q s w⟩
theorem de_max1 (hK : X.K = K) (hr : Rm k X.A) (hc : X.calm = true) (hgl : Gl X "max") (hm : X.mg "max" = none) (ha : DBs X o [e] fs t) (he : starEach [e] X.env = (false, eval e X.env) :: starEach [] X.env := by rfl) (hpl : (backTo pos (starEach [] X.env)).any (·.1) = false := by rfl) :
    DE X o (.Call (.Name "max" p) [e] [] pos) (eCall (mmD true) fs) (tCB (rMM true K) t) := by subst hK; exact de_callB (call_max1 hr hc) e_mm hgl hm boot_max ha (by decide) (by decide) he hpl
theorem de_min1 (hK : X.K = K) (hr : Rm k X.A) (hc : X.calm = true) (hgl : Gl X "min") (hm : X.mg "min" = none) (ha : DBs X o [e] fs t) (he : starEach [e] X.env = (false, eval e X.env) :: starEach [] X.env := by rfl) (hpl : (backTo pos (starEach [] X.env)).any (·.1) = false := by rfl) :
    DE X o (.Call (.Name "min" p) [e] [] pos) (eCall (mmD false) fs) (tCB (rMM false K) t) := by subst hK; exact de_callB (call_min1 hr hc) e_mm hgl hm boot_min ha (by decide) (by decide) he hpl
end
end DL

set_option Elab.async false
set_option linter.all false
set_option maxRecDepth 100000
set_option maxHeartbeats 4000000
/-! DT4: several names at once, as the printed walks use it; pop() and remove. -/
namespace DL
open PySem PySem.Spec PyProof.Rows L2
section
variable {X : Cx} {C : Sc} {ol o o' : Own} {a b c e : Expr} {es tgs : List Expr} {fs : En → M (List D)} {ta : TA} {x x2 x3 : Str} {px py pz pt pos pt2 : Pos} {kt k3 n : Nat} {k1 k2 k4 : Option Kd} {ks : List (Option Kd)} {is : List Nat} {gt : TGs} {K : PySem.W.Frag}
theorem pds_2 (i j : Nat) (hc : X.calm = true) (hN : X.N.Nodup) (he : DW2s X o [k1, k2] [a, b] fs ta) (hi : X.N[i]? = some x := by rfl) (hj : X.N[j]? = some x2 := by rfl) (nd : [i, j].Nodup := by decide)
    (hx : X.env.scope.names.lookup x = some .local := by rfl) (hy : X.env.scope.names.lookup x2 = some .local := by rfl)
    (hw : swappedStores [.Tuple [.Name x px, .Name x2 py] kt pt] (.Tuple [a, b] k3 pt2) X.env = pure (some [x, x2]) := by rfl)
    (hs : swapsWithSole [.Tuple [.Name x px, .Name x2 py] kt pt] (.Tuple [a, b] k3 pt2) pos.line X.env = pure false := by rfl) (hk : kpNo [i, j] C.kp = true := by rfl) :
    DS X C ol o (.Assign [.Tuple [.Name x px, .Name x2 py] kt pt] (.Tuple [a, b] k3 pt2) pos) (setWs [k1, k2] [i, j] o) (gPars [i, j] fs) (tPar i j ta) :=
  ds_pars2 (fun he => ps_par hc hN hi hj (by simpa using nd) hx hy he.p hw hs) he nd hk
theorem pds_3 (i j l : Nat) (hc : X.calm = true) (hN : X.N.Nodup) (he : DW2s X o [k1, k2, k4] [a, b, c] fs ta) (hi : X.N[i]? = some x := by rfl) (hj : X.N[j]? = some x2 := by rfl) (hl : X.N[l]? = some x3 := by rfl) (nd : [i, j, l].Nodup := by decide)
    (hij : i ≠ j := by decide) (hil : i ≠ l := by decide) (hjl : j ≠ l := by decide)
    (hx : X.env.scope.names.lookup x = some .local := by rfl) (hy : X.env.scope.names.lookup x2 = some .local := by rfl) (hz : X.env.scope.names.lookup x3 = some .local := by rfl)
    (hw : swappedStores [.Tuple [.Name x px, .Name x2 py, .Name x3 pz] kt pt] (.Tuple [a, b, c] k3 pt2) X.env = pure (some [x, x2, x3]) := by rfl)
    (hs : swapsWithSole [.Tuple [.Name x px, .Name x2 py, .Name x3 pz] kt pt] (.Tuple [a, b, c] k3 pt2) pos.line X.env = pure false := by rfl) (hk : kpNo [i, j, l] C.kp = true := by rfl) :
    DS X C ol o (.Assign [.Tuple [.Name x px, .Name x2 py, .Name x3 pz] kt pt] (.Tuple [a, b, c] k3 pt2) pos) (setWs [k1, k2, k4] [i, j, l] o) (gPars [i, j, l] fs) (tPar3 i j l ta) :=
  ds_pars3 (fun he => ps_par3 hc hN hi hj hl hij hil hjl hx hy hz he.p hw hs) he nd hk
theorem pds_T (is : List Nat) (hK : X.K = K) (hc : X.calm = true) (he : DW2s X o ks es fs ta) (hg : PGs X tgs (gNames is)) (hn : is.length = n := by rfl) (hl : is.length = ks.length := by rfl)
    (ht : PE X (.Tuple es k3 pt2) (tTup ta) := by exact pe_tup he.p) (h1 : (assignEach tgs X.env).length = n := by rfl) (h2 : (assignEach tgs X.env).findIdx? (·.1) = none := by rfl)
    (hs : swapsWithSole [.Tuple tgs kt pt] (.Tuple es k3 pt2) pos.line X.env = pure false := by rfl) (hw : swappedStores [.Tuple tgs kt pt] (.Tuple es k3 pt2) X.env = pure none := by rfl)
    (h3 : (assignEach [.Tuple tgs kt pt] X.env).map (·.2) = [assign (.Tuple tgs kt pt) X.env] := by rfl) (hsz : n ≤ sizeLine := by decide) (nd : is.Nodup := by decide) (hk : kpNo is C.kp = true := by rfl) :
    DS X C ol o (.Assign [.Tuple tgs kt pt] (.Tuple es k3 pt2) pos) (setWs ks is o) (gPars is fs) (tAsg (tTup ta) (gTup K n (gNames is))) := by
  subst hK
  exact ds_parsT (fun he => ps_asg ht (pg_tup hc hg h1 h2) hs hw h3) rfl rfl he hl hn hsz nd hk
end
end DL

set_option Elab.async false
set_option linter.all false
set_option maxRecDepth 100000
set_option maxHeartbeats 4000000
/-! DT3: enumerate(zip(s, t)) of two tuples. -/
namespace DL
open PySem PySem.Spec PyProof.Rows L2 Builtin.SmallTypes
open Sem (wp)

/-- a zip, whatever became of the tuple that it gave out -/
def ZGen (h : Heap) (z TI TO : Addr) (f0 : Value) (b : Bool) : Prop :=
  h.get? z = some { cls := .type "zip", dict := none, data := .fields #[f0, .bool b, .bool false, .ref TI, .ref TO], slots := #[] }
def ZOut (f0 : Value) : Prop := f0 = .none ∨ ∃ T : Nat, f0 = rawInt T
section
variable {prog : Program} {w : World} {A : Around} {E : Value → Shared → Prop} {s : Shared} {z TI TO i1 i2 : Addr} {fp1 fp2 : List Addr} {n1 n2 i : Nat} {P1 P2 : Nat → Value → Prop} {St1 St2 : Nat → Heap → Prop}
theorem z_free {f0 : Value} {b : Bool} {Q : Bool → Shared → Prop} (hz : ZGen s.heap z TI TO f0 b) (ho : ZOut f0) (h1 : Q true s)
    (h2 : ∀ h', ZGen h' z TI TO f0 true → Heap.SameBut z s.heap h' → Q false { s with heap := h' }) : wpAny (model prog w) A (ownedTupleIsFree (.ref z)) Q E s := by
  unfold ownedTupleIsFree
  refine wpAny_bind (wpAny_field hz rfl (x := f0) rfl ?_)
  rcases ho with rfl | ⟨T, rfl⟩
  · exact wpAny_pure h1
  · show wpAny _ _ (loadIfAlive ((T : Int).toNat) >>= _) _ _ _
    rw [Int.toNat_natCast]
    have ld : ∀ (Q' : Option Obj → Shared → Prop), Q' (s.heap.get? T) s → wpAny (model prog w) A (loadIfAlive T) Q' E s := fun Q' q => fun _ _ _ => q
    refine wpAny_bind (ld _ ?_)
    cases hT : s.heap.get? T with
    | none =>
      simp only [Option.isNone_none, if_true]
      exact wpAny_pure h1
    | some oT =>
      simp only [Option.isNone_some, Bool.false_eq_true, if_false]
      refine wpAny_bind (wpAny_field hz rfl (x := .bool b) rfl ?_)
      cases b with
      | true =>
        rw [if_neg (show ¬ ((Value.bool true != Value.bool true) = true) from Bool.false_ne_true)]
        exact wpAny_pure (h2 s.heap hz (Heap.SameBut.refl _ _))
      | false =>
        rw [if_pos (show (Value.bool false != Value.bool true) = true from rfl)]
        exact wpAny_bind (wpAny_setField_rec hz (by simp) fun h₁ hz₁ hs₁ => wpAny_pure (h2 h₁ hz₁ hs₁))
/-- a turn of the zip: a new pair -/
theorem z_item {f0 : Value} {b : Bool} {a1 a2 : Value} {Q : Value → Shared → Prop} (S : ZipSep2 z TI TO i1 i2 fp1 fp2) (D1 : Draws prog w A i1 fp1 n1 P1 St1) (D2 : Draws prog w A i2 fp2 n2 P2 St2)
    (hz : ZGen s.heap z TI TO f0 b) (ho : ZOut f0) (hTI : IsTupOf2 s.heap TI (.ref i1) (.ref i2)) (hTO : IsTupOf2 s.heap TO a1 a2) (st1 : St1 i s.heap) (st2 : St2 i s.heap) (hlt1 : i < n1) (hlt2 : i < n2)
    (hQ : ∀ x1 x2 h' tk f0' b' a1' a2', P1 i x1 → P2 i x2 → ZGen h' z TI TO f0' b' → ZOut f0' → IsTupOf2 h' TO a1' a2' → St1 (i + 1) h' → St2 (i + 1) h' → IsTupOf2 h' s.heap.objs.size x1 x2 → h'.objs.size = s.heap.objs.size + 1 →
      (∀ c o, c ≠ z → c ≠ TO → c ≠ i1 → c ≠ i2 → s.heap.get? c = some o → h'.get? c = some o) → Q (.ref s.heap.objs.size) { s with heap := h', toks := tk }) :
    wpAny (model prog w) A (Builtin.«zip.__next__» ⟨[.ref z], []⟩) (fun fin s' => ∃ v, fin = .done (.ret v) ∧ Q v s') E s := by
  obtain ⟨hp, g, d, tk0, os⟩ := s
  show wpAny _ _ (field (.ref z) 2 >>= _) _ _ _
  refine wpAny_bind (wpAny_field hz rfl (x := .bool false) rfl ?_)
  show wpAny _ _ (field (.ref z) 3 >>= _) _ _ _
  refine wpAny_bind (wpAny_field hz rfl (x := .ref TI) rfl ?_)
  refine wpAny_bind (wpAny_seqItems hTI rfl ?_)
  show wpAny _ _ (ownedTupleIsFree (.ref z) >>= _) _ _ _
  refine wpAny_bind (z_free hz ho ?_ fun e0 hz1 hs1 => ?_)
  · simp only [if_true]
    refine wpAny_bind (wpAny_rule (wpAny_bind (wpAny_field hz rfl (x := .ref TO) rfl ?_)))
    refine wpAny_bind (wpAny_setField_rec hz (by simp) fun e0 y0 q0 => ?_)
    replace y0 : ZGen e0 z TI TO .ellipsis b := y0
    replace q0 : Heap.SameBut z hp e0 := q0
    refine wpAny_bind ?_
    simp only [List.zipIdx_cons, List.zipIdx_nil, List.forIn_cons, List.forIn_nil]
    refine wpAny_bind (wpAny_bind (wpAny_onRaise ?_))
    show wpAny _ _ (nextOf (.ref i1) >>= _) _ _ ⟨e0, g, d, tk0, os⟩
    refine wpAny_bind (D1.item i _ _ _ hlt1 (D1.over st1 q0 S.zf1) fun x1 e1 tk1 hx1 sn1 q1 => wpAny_pure ?_)
    replace q1 : Heap.SameBut i1 e0 e1 := q1
    have u1 : IsTupOf2 e1 TO a1 a2 := q1.extBut _ _ S.Ti1 (q0.extBut _ _ S.TOz hTO)
    refine wpAny_bind (wpAny_seqItems (s := ⟨e1, g, d, tk1, os⟩) u1 rfl ?_)
    refine wpAny_bind (updateSeq_IsTupOf2 (s := ⟨e1, g, d, tk1, os⟩) u1 fun e2 u2 q2 => ?_)
    replace u2 : IsTupOf2 e2 TO x1 a2 := u2
    replace q2 : Heap.SameBut TO e1 e2 := q2
    refine wpAny_bind (wpAny_letGo (wpAny_pure ?_))
    refine wpAny_bind (wpAny_bind (wpAny_onRaise ?_))
    show wpAny _ _ (nextOf (.ref i2) >>= _) _ _ ⟨e2, g, d, tk1, os⟩
    refine wpAny_bind (D2.item i _ _ _ hlt2 (D2.over (D2.over (D2.over st2 q0 S.zf2) q1 S.sep1_2) q2 S.Tf2) fun x2 e3 tk2 hx2 sn2 q3 => wpAny_pure ?_)
    replace q3 : Heap.SameBut i2 e2 e3 := q3
    have u3 : IsTupOf2 e3 TO x1 a2 := q3.extBut _ _ S.Ti2 u2
    refine wpAny_bind (wpAny_seqItems (s := ⟨e3, g, d, tk2, os⟩) u3 rfl ?_)
    refine wpAny_bind (updateSeq_IsTupOf2 (s := ⟨e3, g, d, tk2, os⟩) u3 fun e4 u4 q4 => ?_)
    replace u4 : IsTupOf2 e4 TO x1 x2 := u4
    replace q4 : Heap.SameBut TO e3 e4 := q4
    refine wpAny_bind (wpAny_letGo (wpAny_pure (wpAny_pure ?_)))
    refine wpAny_bind (wpAny_seqItems (s := ⟨e4, g, d, tk2, os⟩) u4 rfl ?_)
    refine wpAny_bind (wpAny_newTuple ?_)
    have sz : e4.objs.size = hp.objs.size := by rw [q4.1, q3.1, q2.1, q1.1, q0.1]
    have zz : ZGen e4 z TI TO .ellipsis b := q4.extBut _ _ S.TOz.symm (q3.extBut _ _ S.zi2 (q2.extBut _ _ S.TOz.symm (q1.extBut _ _ S.zi1 y0)))
    have kk : ∀ c o, c ≠ z → c ≠ TO → c ≠ i1 → c ≠ i2 → hp.get? c = some o → e4.get? c = some o := fun c o cz cT c1 c2 e =>
      q4.extBut _ _ cT (q3.extBut _ _ c2 (q2.extBut _ _ cT (q1.extBut _ _ c1 (q0.extBut _ _ cz e))))
    have j1 : St1 (i + 1) e4 := D1.over (D1.over (D1.over sn1 q2 S.Tf1) q3 S.sep2_1) q4 S.Tf1
    have j2 : St2 (i + 1) e4 := D2.over sn2 q4 S.Tf2
    have zl : z < e4.objs.size := Heap.lt_size zz
    show wpAny _ _ (ownedTupleHandOut (.ref z) (.ref e4.objs.size) >>= _) _ _ ⟨e4.push { cls := .type "tuple", data := .seq #[x1, x2] }, g, d, tk2, os⟩
    refine wpAny_bind ?_
    unfold ownedTupleHandOut
    have z5 : ZGen (e4.push { cls := .type "tuple", data := .seq #[x1, x2] }) z TI TO .ellipsis b := Heap.get?_push_of_some _ zz
    refine wpAny_bind (wpAny_setField_rec z5 (by simp) fun e6 z6 q6 => ?_)
    replace z6 : ZGen e6 z TI TO (rawInt e4.objs.size) b := z6
    refine wpAny_setField_rec z6 (by simp) fun e7 z7 q7 => ?_
    replace z7 : ZGen e7 z TI TO (rawInt e4.objs.size) false := z7
    replace q6 : Heap.SameBut z (e4.push { cls := .type "tuple", data := .seq #[x1, x2] }) e6 := q6
    replace q7 : Heap.SameBut z e6 e7 := q7
    have up : ∀ c o, c ≠ z → e4.get? c = some o → e7.get? c = some o := fun c o c1 e => q7.extBut _ _ c1 (q6.extBut _ _ c1 (Heap.get?_push_of_some _ e))
    have t7 : IsTupOf2 e7 e4.objs.size x1 x2 := q7.extBut _ _ (Nat.ne_of_gt zl) (q6.extBut _ _ (Nat.ne_of_gt zl) (Heap.get?_push_size _ rfl))
    have s7 : e7.objs.size = e4.objs.size + 1 := by rw [q7.1, q6.1, Heap.size_push]
    rw [sz] at z7 t7 s7
    refine wpAny_pure ⟨_, rfl, ?_⟩
    show Q (.ref e4.objs.size) ⟨e7, g, d, tk2, os⟩
    rw [sz]
    exact hQ x1 x2 e7 tk2 _ _ x1 x2 hx1 hx2 z7 (.inr ⟨_, rfl⟩) (up _ _ S.TOz u4) (D1.frame _ _ _ j1 fun b hb o e => up b o (fun q => S.zf1 (q ▸ hb)) e) (D2.frame _ _ _ j2 fun b hb o e => up b o (fun q => S.zf2 (q ▸ hb)) e) t7 s7 fun c o cz cT c1 c2 e => up c o cz (kk c o cz cT c1 c2 e)
  · replace hz1 : ZGen e0 z TI TO f0 true := hz1
    replace hs1 : Heap.SameBut z hp e0 := hs1
    simp only [Bool.false_eq_true, if_false]
    refine wpAny_bind ?_
    rw [← Array.forIn_toList]
    simp only [List.forIn_cons, List.forIn_nil]
    refine wpAny_bind (wpAny_bind (wpAny_holding ?_))
    show wpAny _ _ (nextOf (.ref i1) >>= _) _ _ ⟨e0, g, d, tk0, os⟩
    refine wpAny_bind (D1.item i _ _ _ hlt1 (D1.over st1 hs1 S.zf1) fun x1 e1 tk1 hx1 sn1 q1 => wpAny_pure ?_)
    replace q1 : Heap.SameBut i1 e0 e1 := q1
    refine wpAny_pure ?_
    refine wpAny_bind (wpAny_bind (wpAny_holding ?_))
    show wpAny _ _ (nextOf (.ref i2) >>= _) _ _ ⟨e1, g, d, tk1, os⟩
    refine wpAny_bind (D2.item i _ _ _ hlt2 (D2.over (D2.over st2 hs1 S.zf2) q1 S.sep1_2) fun x2 e2 tk2 hx2 sn2 q2 => wpAny_pure ?_)
    replace q2 : Heap.SameBut i2 e1 e2 := q2
    refine wpAny_pure (wpAny_pure ?_)
    show wpAny _ _ (newTuple [x1, x2] >>= _) _ _ ⟨e2, g, d, tk2, os⟩
    refine wpAny_bind (wpAny_newTuple ?_)
    have sz : e2.objs.size = hp.objs.size := by rw [q2.1, q1.1, hs1.1]
    have zz : ZGen e2 z TI TO f0 true := q2.extBut _ _ S.zi2 (q1.extBut _ _ S.zi1 hz1)
    have kk : ∀ c o, c ≠ z → c ≠ i1 → c ≠ i2 → hp.get? c = some o → e2.get? c = some o := fun c o cz c1 c2 e => q2.extBut _ _ c2 (q1.extBut _ _ c1 (hs1.extBut _ _ cz e))
    have j1 : St1 (i + 1) e2 := D1.over sn1 q2 S.sep2_1
    have pk : ∀ c o, e2.get? c = some o → (e2.push { cls := .type "tuple", data := .seq #[x1, x2] }).get? c = some o := fun c o e => Heap.get?_push_of_some _ e
    refine wpAny_pure ⟨_, rfl, ?_⟩
    show Q (.ref e2.objs.size) _
    have t3 : IsTupOf2 (e2.push { cls := .type "tuple", data := .seq #[x1, x2] }) e2.objs.size x1 x2 := Heap.get?_push_size _ rfl
    have s3 : (e2.push { cls := .type "tuple", data := .seq #[x1, x2] }).objs.size = e2.objs.size + 1 := Heap.size_push ..
    rw [sz] at t3 s3 ⊢
    exact hQ x1 x2 _ tk2 f0 true a1 a2 hx1 hx2 (pk _ _ zz) ho (pk _ _ (kk _ _ S.TOz S.Ti1 S.Ti2 hTO)) (D1.frame _ _ _ j1 fun b _ o e => pk b o e) (D2.frame _ _ _ sn2 fun b _ o e => pk b o e) t3 s3 fun c o cz cT c1 c2 e => pk c o (kk c o cz c1 c2 e)
/-- an iterator has no more -/
def Ended (prog : Program) (w : World) (A : Around) (it : Addr) (St : Heap → Prop) : Prop := ∀ (s : Shared) (Q : Value → Shared → Prop) (E : Value → Shared → Prop), St s.heap →
    (∀ h' e, Heap.ExtBut it s.heap h' → (∃ o, h'.get? e = some o ∧ o.cls = .type "StopIteration") → E (.ref e) { s with heap := h' }) → wpAny (model prog w) A (nextOf (.ref it)) Q E s
/-- the zip ends -/
theorem z_end {f0 : Value} {b : Bool} {a1 a2 : Value} {Q : Fin → Shared → Prop} (S : ZipSep2 z TI TO i1 i2 fp1 fp2) (D1 : Draws prog w A i1 fp1 n1 P1 St1) (D2 : Draws prog w A i2 fp2 n2 P2 St2)
    (hz : ZGen s.heap z TI TO f0 b) (ho : ZOut f0) (hTI : IsTupOf2 s.heap TI (.ref i1) (.ref i2)) (hTO : IsTupOf2 s.heap TO a1 a2) (st1 : St1 i s.heap) (st2 : St2 i s.heap) (hend : Ended prog w A i1 (St1 i) ∨ (i < n1 ∧ Ended prog w A i2 (St2 i)))
    (hE : ∀ h' tk e, (∀ c o, c ≠ z → c ≠ TO → c ≠ i1 → c ≠ i2 → s.heap.get? c = some o → h'.get? c = some o) → (∃ o, h'.get? e = some o ∧ o.cls = .type "StopIteration") → E (.ref e) { s with heap := h', toks := tk }) :
    wpAny (model prog w) A (Builtin.«zip.__next__» ⟨[.ref z], []⟩) Q E s := by
  obtain ⟨hp, g, d, tk0, os⟩ := s
  show wpAny _ _ (field (.ref z) 2 >>= _) _ _ _
  refine wpAny_bind (wpAny_field hz rfl (x := .bool false) rfl ?_)
  show wpAny _ _ (field (.ref z) 3 >>= _) _ _ _
  refine wpAny_bind (wpAny_field hz rfl (x := .ref TI) rfl ?_)
  refine wpAny_bind (wpAny_seqItems hTI rfl ?_)
  show wpAny _ _ (ownedTupleIsFree (.ref z) >>= _) _ _ _
  refine wpAny_bind (z_free hz ho ?_ fun e0 hz1 hs1 => ?_)
  · simp only [if_true]
    refine wpAny_bind (wpAny_rule (wpAny_bind (wpAny_field hz rfl (x := .ref TO) rfl ?_)))
    refine wpAny_bind (wpAny_setField_rec hz (by simp) fun e0 y0 q0 => ?_)
    replace y0 : ZGen e0 z TI TO .ellipsis b := y0
    replace q0 : Heap.SameBut z hp e0 := q0
    refine wpAny_bind ?_
    simp only [List.zipIdx_cons, List.zipIdx_nil, List.forIn_cons, List.forIn_nil]
    refine wpAny_bind (wpAny_bind (wpAny_onRaise ?_))
    show wpAny _ _ (nextOf (.ref i1) >>= _) _ _ ⟨e0, g, d, tk0, os⟩
    rcases hend with hi1 | ⟨hlt1, hi2⟩
    rotate_left
    · refine wpAny_bind (D1.item i _ _ _ hlt1 (D1.over st1 q0 S.zf1) fun x1 e1 tk1 hx1 sn1 q1 => wpAny_pure ?_)
      replace q1 : Heap.SameBut i1 e0 e1 := q1
      have u1 : IsTupOf2 e1 TO a1 a2 := q1.extBut _ _ S.Ti1 (q0.extBut _ _ S.TOz hTO)
      refine wpAny_bind (wpAny_seqItems (s := ⟨e1, g, d, tk1, os⟩) u1 rfl ?_)
      refine wpAny_bind (updateSeq_IsTupOf2 (s := ⟨e1, g, d, tk1, os⟩) u1 fun e2 u2 q2 => ?_)
      replace q2 : Heap.SameBut TO e1 e2 := q2
      refine wpAny_bind (wpAny_letGo (wpAny_pure ?_))
      refine wpAny_bind (wpAny_bind (wpAny_onRaise ?_))
      show wpAny _ _ (nextOf (.ref i2) >>= _) _ _ ⟨e2, g, d, tk1, os⟩
      refine wpAny_bind (hi2 ⟨e2, g, d, tk1, os⟩ _ _ (D2.over (D2.over (D2.over st2 q0 S.zf2) q1 S.sep1_2) q2 S.Tf2) fun q e hq he => ?_)
      replace hq : Heap.ExtBut i2 e2 q := hq
      obtain ⟨oe, hoe, hce⟩ := he
      replace hoe : q.get? e = some oe := hoe
      have zq : ZGen q z TI TO .ellipsis b := hq _ _ S.zi2 (q2.extBut _ _ S.TOz.symm (q1.extBut _ _ S.zi1 y0))
      have ez : e ≠ z := fun x => by subst x; unfold ZGen at zq; rw [zq] at hoe; cases hoe; simp at hce
      refine wpAny_setField_rec (s := ⟨q, g, d, tk1, os⟩) zq (by simp) fun q' _ hq' => ?_
      replace hq' : Heap.SameBut z q q' := hq'
      exact hE q' tk1 e (fun c o cz cT c1 c2 x => hq'.extBut _ _ cz (hq _ _ c2 (q2.extBut _ _ cT (q1.extBut _ _ c1 (q0.extBut _ _ cz x))))) ⟨oe, hq'.extBut _ _ ez hoe, hce⟩
    · refine wpAny_bind (hi1 ⟨e0, g, d, tk0, os⟩ _ _ (D1.over st1 q0 S.zf1) fun q e hq he => ?_)
      replace hq : Heap.ExtBut i1 e0 q := hq
      obtain ⟨oe, hoe, hce⟩ := he
      replace hoe : q.get? e = some oe := hoe
      have zq : ZGen q z TI TO .ellipsis b := hq _ _ S.zi1 y0
      have ez : e ≠ z := fun x => by subst x; unfold ZGen at zq; rw [zq] at hoe; cases hoe; simp at hce
      refine wpAny_setField_rec (s := ⟨q, g, d, tk0, os⟩) zq (by simp) fun q' _ hq' => ?_
      replace hq' : Heap.SameBut z q q' := hq'
      exact hE q' tk0 e (fun c o cz cT c1 c2 x => hq'.extBut _ _ cz (hq _ _ c1 (q0.extBut _ _ cz x))) ⟨oe, hq'.extBut _ _ ez hoe, hce⟩
  · replace hz1 : ZGen e0 z TI TO f0 true := hz1
    replace hs1 : Heap.SameBut z hp e0 := hs1
    simp only [Bool.false_eq_true, if_false]
    refine wpAny_bind ?_
    rw [← Array.forIn_toList]
    simp only [List.forIn_cons, List.forIn_nil]
    refine wpAny_bind (wpAny_bind (wpAny_holding ?_))
    show wpAny _ _ (nextOf (.ref i1) >>= _) _ _ ⟨e0, g, d, tk0, os⟩
    rcases hend with hi1 | ⟨hlt1, hi2⟩
    rotate_left
    · refine wpAny_bind (D1.item i _ _ _ hlt1 (D1.over st1 hs1 S.zf1) fun x1 e1 tk1 hx1 sn1 q1 => wpAny_pure ?_)
      replace q1 : Heap.SameBut i1 e0 e1 := q1
      refine wpAny_pure ?_
      refine wpAny_bind (wpAny_bind (wpAny_holding ?_))
      show wpAny _ _ (nextOf (.ref i2) >>= _) _ _ ⟨e1, g, d, tk1, os⟩
      refine wpAny_bind (hi2 ⟨e1, g, d, tk1, os⟩ _ _ (D2.over (D2.over st2 hs1 S.zf2) q1 S.sep1_2) fun q e hq he => ?_)
      exact hE q tk1 e (fun c o cz cT c1 c2 x => hq _ _ c2 (q1.extBut _ _ c1 (hs1.extBut _ _ cz x))) he
    · refine wpAny_bind (hi1 ⟨e0, g, d, tk0, os⟩ _ _ (D1.over st1 hs1 S.zf1) fun q e hq he => ?_)
      exact hE q tk0 e (fun c o cz cT c1 c2 x => hq _ _ c1 (hs1.extBut _ _ cz x)) he
end
end DL
namespace DL
open PySem PySem.Spec PyProof.Rows L2 Builtin.SmallTypes
open Sem (wp)
section
variable {prog : Program} {w : World} {A : Around} {E : Value → Shared → Prop} {s : Shared} {e z TI TO i1 i2 : Addr} {fp1 fp2 : List Addr} {n1 n2 i : Nat} {P1 P2 : Nat → Value → Prop} {St1 St2 : Nat → Heap → Prop}
/-- a turn of the enumerate over the zip -/
theorem ez_item {old f0 : Value} {b : Bool} {a1 a2 : Value} {c : Int} {Q : Option Value → Shared → Prop} (S : ZipSep2 z TI TO i1 i2 fp1 fp2) (D1 : Draws prog w A.in1.in1 i1 fp1 n1 P1 St1) (D2 : Draws prog w A.in1.in1 i2 fp2 n2 P2 St2)
    (he : IsEnum s.heap e z c old) (ez : e ≠ z) (eT : e ≠ TO) (e1 : e ∉ fp1) (e2 : e ∉ fp2) (hz : ZGen s.heap z TI TO f0 b) (ho : ZOut f0) (hTI : IsTupOf2 s.heap TI (.ref i1) (.ref i2)) (hTO : IsTupOf2 s.heap TO a1 a2) (st1 : St1 i s.heap) (st2 : St2 i s.heap) (hlt1 : i < n1) (hlt2 : i < n2)
    (hQ : ∀ x1 x2 h1 h' tk tk' f0' b' a1' a2' it, P1 i x1 → P2 i x2 → IsTupOf2 h1 s.heap.objs.size x1 x2 → h1.objs.size = s.heap.objs.size + 1 → (∀ c o, c ≠ z → c ≠ TO → c ≠ i1 → c ≠ i2 → s.heap.get? c = some o → h1.get? c = some o) →
      IsEnumOut h' e z (c + 1) it (s.heap.objs.size + 1) → IsTupOf2 h' (s.heap.objs.size + 1) (.int c tk) (.ref s.heap.objs.size) → (∀ d o, d ≠ e → h1.get? d = some o → h'.get? d = some o) →
      ZGen h' z TI TO f0' b' → ZOut f0' → IsTupOf2 h' TO a1' a2' → St1 (i + 1) h' → St2 (i + 1) h' → Q (some (.ref (s.heap.objs.size + 1))) { s with heap := h', toks := tk' }) :
    wpAny (model prog w) A (pyNext (.ref e)) Q E s := by
  have hT : s.TypeIs (.ref e) "enumerate" := ⟨_, he, rfl⟩
  have ei1 : e ≠ i1 := fun q => e1 (q ▸ S.mem1)
  have ei2 : e ≠ i2 := fun q => e2 (q ▸ S.mem2)
  unfold pyNext
  refine wpAny_bind (wpAny_attempt (wpAny_callSpecial?_slot (name := Str.ofString "__next__") hT F.slot_enumerate_next
    (wpAny_call_entry F.slot_enumerate_next hT F.entry_enumerate_next ?_ (F.args_enumerate_next_1 _))))
  obtain ⟨hp, g, d, tk0, os⟩ := s
  show wpAny _ _ (field (.ref e) 2 >>= _) _ _ _
  refine wpAny_bind (wpAny_field he rfl (x := .ref z) rfl ?_)
  have hTz : Shared.TypeIs ⟨hp, g, d, tk0, os⟩ (.ref z) "zip" := ⟨_, hz, rfl⟩
  refine wpAny_bind ?_
  unfold nextOf
  refine wpAny_bind (wpAny_callSpecial?_slot (name := Str.ofString "__next__") hTz F.slot_zip_next (wpAny_call_entry F.slot_zip_next hTz F.entry_zip_next
    (z_item S D1 D2 hz ho hTI hTO st1 st2 hlt1 hlt2 fun x1 x2 h1 tk f0' b' a1' a2' p1 p2 z1 zo t1 s1 s2 pr sz k1 => wpAny_pure ?_) (F.args_zip_next_1 _)))
  replace pr : IsTupOf2 h1 hp.objs.size x1 x2 := pr
  replace sz : h1.objs.size = hp.objs.size + 1 := sz
  replace k1 : ∀ c o, c ≠ z → c ≠ TO → c ≠ i1 → c ≠ i2 → hp.get? c = some o → h1.get? c = some o := k1
  have he1 : IsEnum h1 e z c old := k1 _ _ ez eT ei1 ei2 he
  show wpAny _ _ (field (.ref e) 3 >>= _) _ _ ⟨h1, g, d, tk, os⟩
  refine wpAny_bind (wpAny_field he1 rfl (x := rawInt c) rfl ?_)
  show wpAny _ _ (field (.ref e) 4 >>= _) _ _ ⟨h1, g, d, tk, os⟩
  refine wpAny_bind (wpAny_field he1 rfl (x := .none) rfl ?_)
  show wpAny _ _ (mkInt c >>= _) _ _ ⟨h1, g, d, tk, os⟩
  refine wpAny_bind (wpAny_mkInt ?_)
  show wpAny _ _ (setField (.ref e) 3 (rawInt (c + 1)) >>= _) _ _ ⟨h1, g, d, tk + 1, os⟩
  refine wpAny_bind (wpAny_setField_rec he1 (by simp) fun h2 he2 hs2 => ?_)
  replace hs2 : Heap.SameBut e h1 h2 := hs2
  replace he2 : IsEnum h2 e z (c + 1) old := he2
  show wpAny _ _ (setField (.ref e) 4 .none >>= _) _ _ ⟨h2, g, d, tk + 1, os⟩
  refine wpAny_bind (wpAny_setField_rec he2 (by simp) fun h3 he3 hs3 => ?_)
  replace hs3 : Heap.SameBut e h2 h3 := hs3
  replace he3 : IsEnum h3 e z (c + 1) old := he3
  show wpAny _ _ (newTuple [.int c tk, .ref hp.objs.size] >>= _) _ _ ⟨h3, g, d, tk + 1, os⟩
  refine wpAny_bind (wpAny_newTuple ?_)
  have he4 : IsEnum (h3.push { cls := .type "tuple", data := .seq #[.int c tk, .ref hp.objs.size] }) e z (c + 1) old := Heap.get?_push_of_some _ he3
  generalize hh4 : h3.push { cls := .type "tuple", data := .seq #[.int c tk, .ref hp.objs.size] } = h4 at he4
  have sz3 : h3.objs.size = hp.objs.size + 1 := by rw [hs3.1, hs2.1, sz]
  have hel : e < hp.objs.size + 1 := Nat.lt_succ_of_lt (Heap.lt_size he)
  have ht4 : h4.get? (hp.objs.size + 1) = some { cls := .type "tuple", data := .seq #[.int c tk, .ref hp.objs.size] } := by rw [← hh4, ← sz3]; exact Heap.get?_push_size _ rfl
  have hk4 : ∀ b o, b ≠ e → h1.get? b = some o → h4.get? b = some o := fun b o hbe hb => by
    rw [← hh4]; exact Heap.get?_push_of_some _ (hs3.extBut b o hbe (hs2.extBut b o hbe hb))
  show wpAny _ _ (ownedTupleIsFree (.ref e) >>= _) _ _ ⟨h4, g, d, tk + 1, os⟩
  rw [sz3]
  clear hh4 he3 hs3 he2 hs2 sz3
  refine wpAny_bind ?_
  · unfold ownedTupleIsFree
    refine wpAny_bind (wpAny_field he4 rfl (x := .none) rfl (wpAny_pure ?_))
    simp only [if_true]
    refine wpAny_bind (wpAny_rule ?_)
    refine wpAny_bind (wpAny_field he4 rfl (x := old) rfl ?_)
    refine wpAny_bind (wpAny_setField_rec he4 (by simp) fun h5 he5 hs5 => ?_)
    replace hs5 : Heap.SameBut e h4 h5 := hs5
    replace he5 : IsEnum h5 e z (c + 1) (.ref hp.objs.size) := he5
    show wpAny _ _ (ownedTupleHandOut (.ref e) (.ref (hp.objs.size + 1)) >>= _) _ _ ⟨h5, g, d, tk + 1, os⟩
    refine wpAny_bind ?_
    · unfold ownedTupleHandOut
      refine wpAny_bind (wpAny_setField_rec he5 (by simp) fun h6 he6 hs6 => ?_)
      replace hs6 : Heap.SameBut e h5 h6 := hs6
      replace he6 : IsEnumOut h6 e z (c + 1) (.ref hp.objs.size) (hp.objs.size + 1) := he6
      refine wpAny_setField_rec he6 (by simp) fun h7 he7 hs7 => ?_
      replace hs7 : Heap.SameBut e h6 h7 := hs7
      replace he7 : IsEnumOut h7 e z (c + 1) (.ref hp.objs.size) (hp.objs.size + 1) := he7
      have up : ∀ b o, b ≠ e → h4.get? b = some o → h7.get? b = some o := fun b o hb q => hs7.extBut _ _ hb (hs6.extBut _ _ hb (hs5.extBut _ _ hb q))
      have up1 : ∀ b o, b ≠ e → h1.get? b = some o → h7.get? b = some o := fun b o hb q => up b o hb (hk4 b o hb q)
      refine wpAny_bind (wpAny_letGo (wpAny_pure ⟨_, rfl, wpAny_pure ?_⟩))
      exact hQ x1 x2 h1 h7 tk (tk + 1) f0' b' a1' a2' _ p1 p2 pr sz k1 he7 (up _ _ (Nat.ne_of_gt hel) ht4) up1 (up1 _ _ (Ne.symm ez) z1) zo (up1 _ _ (Ne.symm eT) t1)
        (D1.frame _ _ _ s1 fun b hb o q => up1 b o (fun y => e1 (y ▸ hb)) q) (D2.frame _ _ _ s2 fun b hb o q => up1 b o (fun y => e2 (y ▸ hb)) q)
/-- the enumerate over the zip ends -/
theorem ez_end {old f0 : Value} {b : Bool} {a1 a2 : Value} {c : Int} {Q : Option Value → Shared → Prop} (S : ZipSep2 z TI TO i1 i2 fp1 fp2) (D1 : Draws prog w A.in1.in1 i1 fp1 n1 P1 St1) (D2 : Draws prog w A.in1.in1 i2 fp2 n2 P2 St2)
    (he : IsEnum s.heap e z c old) (hz : ZGen s.heap z TI TO f0 b) (ho : ZOut f0) (hTI : IsTupOf2 s.heap TI (.ref i1) (.ref i2)) (hTO : IsTupOf2 s.heap TO a1 a2) (st1 : St1 i s.heap) (st2 : St2 i s.heap) (hend : Ended prog w A.in1.in1 i1 (St1 i) ∨ (i < n1 ∧ Ended prog w A.in1.in1 i2 (St2 i)))
    (hQ : ∀ h' tk, (∀ c o, c ≠ z → c ≠ TO → c ≠ i1 → c ≠ i2 → s.heap.get? c = some o → h'.get? c = some o) → Q none { s with heap := h', toks := tk }) :
    wpAny (model prog w) A (pyNext (.ref e)) Q E s := by
  have hT : s.TypeIs (.ref e) "enumerate" := ⟨_, he, rfl⟩
  unfold pyNext
  refine wpAny_bind (wpAny_attempt (wpAny_callSpecial?_slot (name := Str.ofString "__next__") hT F.slot_enumerate_next
    (wpAny_call_entry F.slot_enumerate_next hT F.entry_enumerate_next ?_ (F.args_enumerate_next_1 _))))
  show wpAny _ _ (field (.ref e) 2 >>= _) _ _ _
  refine wpAny_bind (wpAny_field he rfl (x := .ref z) rfl ?_)
  have hTz : s.TypeIs (.ref z) "zip" := ⟨_, hz, rfl⟩
  refine wpAny_bind ?_
  unfold nextOf
  refine wpAny_bind (wpAny_callSpecial?_slot (name := Str.ofString "__next__") hTz F.slot_zip_next (wpAny_call_entry F.slot_zip_next hTz F.entry_zip_next
    (z_end S D1 D2 hz ho hTI hTO st1 st2 hend fun h' tk ex hk hx => ?_) (F.args_zip_next_1 _)))
  obtain ⟨o, ho', hc⟩ := hx
  refine wpAny_bind (wpAny_isInstance (T := "StopIteration") (b := true) ⟨o, ho', hc⟩ isSubtype_stop ?_)
  exact wpAny_pure (hQ _ _ hk)
end
/-- the tuples at a and b, each pair of items in a new pair with its number -/
def Itez (K : PySem.W.Frag) (a b : Addr) : It :=
  ⟨fun i H => ∃ (xs ys : List V) (x y : V), SqT K H a xs ∧ SqT K H b ys ∧ xs[i]? = some x ∧ ys[i]? = some y,
    fun i H v H' => ∃ T T2 x y, v = .ref T2 ∧ H T = none ∧ H T2 = none ∧ T2 ≠ T ∧ H' = upd (upd H T (.tup [x, y])) T2 (.tup [.int (i : Nat), .ref T]) ∧ (∀ xs, SqT K H a xs → xs[i]? = some x) ∧ ∀ ys, SqT K H b ys → ys[i]? = some y,
    fun i H => ∃ xs ys : List V, SqT K H a xs ∧ SqT K H b ys ∧ (xs.length ≤ i ∨ ys.length ≤ i)⟩
structure EzApart (e z TI TO i1 i2 a b : Addr) : Prop where
  S : ZipSep2 z TI TO i1 i2 [i1, a] [i2, b]
  ez : e ≠ z
  eI : e ≠ TI
  eT : e ≠ TO
  e1 : e ∉ [i1, a]
  e2 : e ∉ [i2, b]
  a1 : a ≠ i1
  b2 : b ≠ i2
theorem turn_ez {P : Program} {w : World} {K : PySem.W.Frag} {elts : List Expr} {kk : Nat} {tpos : Pos} {e a b z TI TO i1 i2 : Addr} (D : EzApart e z TI TO i1 i2 a b) :
    Turn P w K (.Tuple elts kk tpos) (Itez K a b) [e, z, TI, TO, i1, i2] e (fun i h => (∃ old, IsEnum h e z ((i : Nat) : Int) old) ∧ (∃ f0 c, ZGen h z TI TO f0 c ∧ ZOut f0) ∧ IsTupOf2 h TI (.ref i1) (.ref i2) ∧ (∃ x y, IsTupOf2 h TO x y) ∧ h.IsTupleIter i1 a i ∧ h.IsTupleIter i2 b i) where
  mem := by simp
  obj := fun i h st c hc => by
    obtain ⟨⟨old, he⟩, ⟨f0, f1, hz, _⟩, hTI, ⟨x, y, hTO⟩, ⟨o1, q1, _, d1⟩, ⟨o2, q2, _, d2⟩⟩ := st
    have e' : c = e ∨ c = z ∨ c = TI ∨ c = TO ∨ c = i1 ∨ c = i2 := by simpa using hc
    rcases e' with q | q | q | q | q | q
    · rw [q]; exact ⟨_, he, fun v q => nomatch q⟩
    · rw [q]; exact ⟨_, hz, fun v q => nomatch q⟩
    · rw [q]; exact ⟨_, hTI, fun v q => nomatch q⟩
    · rw [q]; exact ⟨_, hTO, fun v q => nomatch q⟩
    · rw [q]; exact ⟨o1, q1, fun v q => by rw [d1] at q; cases q⟩
    · rw [q]; exact ⟨o2, q2, fun v q => by rw [d2] at q; cases q⟩
  keep := fun i h h' st k => by
    obtain ⟨⟨old, he⟩, ⟨f0, f1, hz, zo⟩, hTI, ⟨x, y, hTO⟩, h1, h2⟩ := st
    exact ⟨⟨old, k e (by simp) _ he⟩, ⟨f0, f1, k z (by simp) _ hz, zo⟩, k TI (by simp) _ hTI, ⟨x, y, k TO (by simp) _ hTO⟩, h1.at fun o q => k i1 (by simp) o q, h2.at fun o q => k i2 (by simp) o q⟩
  item := by
    intro X hP hw hK hc i pins s σ H E I hf st hg
    subst hP hw hK
    obtain ⟨⟨old, he⟩, ⟨f0, f1, hz, zo⟩, hTI, ⟨x0, y0, hTO⟩, h1, h2⟩ := st
    obtain ⟨xs, ys, x, y, hqx, hqy, hx, hy⟩ := hg
    obtain ⟨its, rv, p, _⟩ := I.tuple hqx
    obtain ⟨its2, rv2, p2, _⟩ := I.tuple hqy
    obtain ⟨u, hu, ru⟩ := rv.get hx
    obtain ⟨u2, hu2, ru2⟩ := rv2.get hy
    have lt1 : i < its.toArray.size := by simpa using (List.getElem?_eq_some_iff.mp hu).1
    have lt2 : i < its2.toArray.size := by simpa using (List.getElem?_eq_some_iff.mp hu2).1
    have hel : e < s.heap.objs.size := Heap.lt_size he
    refine ez_item (old := old) D.S (Draws.tuple (A := X.A.in1.in1) (I.ok.hd hc) i1 a D.a1 its.toArray) (Draws.tuple (A := X.A.in1.in1) (I.ok.hd hc) i2 b D.b2 its2.toArray) he D.ez D.eT D.e1 D.e2 hz zo hTI hTO ⟨h1, p⟩ ⟨h2, p2⟩ lt1 lt2
      fun v1 v2 g1 h' tk tk' f0' b' a1' a2' it q1 q2 pr sz k1 ho ht kh z' zo' to' t1 t2 => ?_
    have ev1 : v1 = u := by
      have q1 : its.toArray[i]? = some v1 := q1
      rw [List.getElem?_toArray, hu] at q1
      exact (Option.some.inj q1).symm
    have ev2 : v2 = u2 := by
      have q2 : its2.toArray[i]? = some v2 := q2
      rw [List.getElem?_toArray, hu2] at q2
      exact (Option.some.inj q2).symm
    subst ev1 ev2
    refine ⟨_, rfl, wpAny_letOwnedTupleGo_enum (s := { s with heap := h', toks := tk' }) ho fun h'' he' sb => ?_⟩
    replace sb : Heap.SameBut e h' h'' := sb
    have hT0 : H s.heap.objs.size = none := I.hok.fresh (Nat.le_refl _)
    have hT2 : H (s.heap.objs.size + 1) = none := I.hok.fresh (Nat.le_succ _)
    have I1 : Inv X pins σ (upd H s.heap.objs.size (.tup [x, y])) { s with heap := g1, toks := s.toks } :=
      I.turnedNew (ch := [z, TO, i1, i2]) (fun c o hb q => k1 c o (fun z => hb (by simp [z])) (fun z => hb (by simp [z])) (fun z => hb (by simp [z])) (fun z => hb (by simp [z])) q) (fun c hc => hf c (by
        have e' : c = z ∨ c = TO ∨ c = i1 ∨ c = i2 := by simpa using hc
        rcases e' with q | q | q | q <;> simp [q])) (Nat.le_refl _) ⟨by show 2 ≤ sizeLine; decide, [v1, v2], .cons ru (.cons ru2 .nil), ⟨_, pr, rfl, _, rfl⟩⟩
    have fpe : FpOk X pins (upd H s.heap.objs.size (.tup [x, y])) e := ⟨by rw [upd_ne (Nat.ne_of_lt hel)]; exact (hf e (by simp)).1, (hf e (by simp)).2⟩
    have up : ∀ c o, c ≠ e → g1.get? c = some o → h''.get? c = some o := fun c o hce q => (sb.2 c hce).trans (kh c o hce q)
    have ne1 : s.heap.objs.size + 1 ≠ e := Nat.ne_of_gt (Nat.lt_succ_of_lt hel)
    have ht'' : h''.get? (s.heap.objs.size + 1) = some { cls := .type "tuple", data := .seq #[.int i tk, .ref s.heap.objs.size] } := (sb.2 _ ne1).trans ht
    have I2 : Inv X pins σ (upd (upd H s.heap.objs.size (.tup [x, y])) (s.heap.objs.size + 1) (.tup [.int (i : Nat), .ref s.heap.objs.size])) { s with heap := h'', toks := tk' } :=
      I1.turnedNew (t' := tk') (ch := [e]) (fun c o hb q => up c o (fun z => hb (by simp [z])) q) (fun c hc => by
        have e' : c = e := by simpa using hc
        rw [e']; exact fpe) (by show g1.objs.size ≤ _; rw [sz]; exact Nat.le_refl _) ⟨by show 2 ≤ sizeLine; decide, [.int i tk, .ref s.heap.objs.size], .cons ⟨_, rfl⟩ (.cons rfl .nil), ⟨_, ht'', rfl, _, rfl⟩⟩
    refine ⟨.ref (s.heap.objs.size + 1), _, I2, rfl, ⟨s.heap.objs.size, s.heap.objs.size + 1, x, y, rfl, hT0, hT2, Nat.succ_ne_self _, rfl, fun l hl => by rw [I.tuple_inj hl hqx]; exact hx, fun l hl => by rw [I.tuple_inj hl hqy]; exact hy⟩,
      ⟨⟨it, ?_⟩, ⟨f0', b', (sb.2 _ (Ne.symm D.ez)).trans z', zo'⟩, ?_, ⟨a1', a2', (sb.2 _ (Ne.symm D.eT)).trans to'⟩, t1.1.at fun o q => (sb.2 _ fun z => D.e1 (by simp [z])).trans q, t2.1.at fun o q => (sb.2 _ fun z => D.e2 (by simp [z])).trans q⟩, fun c hcm => ?_⟩
    · have e1 : ((i + 1 : Nat) : Int) = (i : Int) + 1 := by omega
      rw [e1]; exact he'
    · exact up _ _ (Ne.symm D.eI) (k1 _ _ D.S.TIz D.S.TITO D.S.TIi1 D.S.TIi2 hTI)
    · have hl : c < s.heap.objs.size := by
        have e' : c = e ∨ c = z ∨ c = TI ∨ c = TO ∨ c = i1 ∨ c = i2 := by simpa using hcm
        rcases e' with q | q | q | q | q | q
        · rw [q]; exact hel
        · rw [q]; exact Heap.lt_size hz
        · rw [q]; exact Heap.lt_size hTI
        · rw [q]; exact Heap.lt_size hTO
        · rw [q]; obtain ⟨_, y1, _⟩ := h1; exact Heap.lt_size y1
        · rw [q]; obtain ⟨_, y2, _⟩ := h2; exact Heap.lt_size y2
      rw [upd_ne (Nat.ne_of_lt (Nat.lt_succ_of_lt hl)), upd_ne (Nat.ne_of_lt hl)]
      exact (hf c hcm).1
  done := by
    intro X hP hw hK hc i pins s σ H E I hf st hg
    subst hP hw hK
    obtain ⟨⟨old, he⟩, ⟨f0, f1, hz, zo⟩, hTI, ⟨x0, y0, hTO⟩, h1, h2⟩ := st
    obtain ⟨xs, ys, hqx, hqy, hend⟩ := hg
    obtain ⟨its, rv, p, _⟩ := I.tuple hqx
    obtain ⟨its2, rv2, p2, _⟩ := I.tuple hqy
    have l1 := rv.length
    have l2 := rv2.length
    refine ez_end (old := old) D.S (Draws.tuple (A := X.A.in1.in1) (I.ok.hd hc) i1 a D.a1 its.toArray) (Draws.tuple (A := X.A.in1.in1) (I.ok.hd hc) i2 b D.b2 its2.toArray) he hz zo hTI hTO ⟨h1, p⟩ ⟨h2, p2⟩ ?_ fun h' tk hk => ⟨rfl, I.turnedL (t' := tk) (ch := [z, TO, i1, i2]) (fun c o hb q => hk c o (fun z => hb (by simp [z])) (fun z => hb (by simp [z])) (fun z => hb (by simp [z])) (fun z => hb (by simp [z])) q) fun c hc => hf c (by
      have e' : c = z ∨ c = TO ∨ c = i1 ∨ c = i2 := by simpa using hc
      rcases e' with q | q | q | q <;> simp [q])⟩
    have hA : X.A.in1.in1.handled = none := I.ok.hd hc
    by_cases h1' : i < its.toArray.size
    · refine .inr ⟨h1', fun s Q E st hE => wpAny_nextOf_tuple_end hA st.1 st.2 (Array.getElem?_eq_none (by simp at h1' ⊢; omega)) hE⟩
    · exact .inl fun s Q E st hE => wpAny_nextOf_tuple_end hA st.1 st.2 (Array.getElem?_eq_none (by omega)) hE
  self := fun A i s Q E st h => let ⟨⟨_, he⟩, _⟩ := st; wpAny_pyIter_enum he h
end DL
namespace DL
open PySem PySem.Spec PyProof.Rows L2
theorem meets_enumZ {z TI TO : Addr} : Meets (Builtin.«enumerate.__new__» ⟨[.type "enumerate", .ref z], []⟩) (fun _ R s => IsZip s.heap z TI TO .none ∧
      R (.ok (.ret (.ref s.heap.objs.size))) { s with heap := s.heap.push { cls := .type "enumerate", data := .fields #[.none, .bool false, .ref z, rawInt 0, .none, .none] } }) :=
  .of_wp fun prog w A R s h => by
    obtain ⟨hp, g, d, tk, os⟩ := s; obtain ⟨h1, h⟩ := h
    have hsub := sub_enumerate
    have q1 : ∀ {A' : Around} {E : Value → Shared → Prop} {Q : Value → Shared → Prop}, Q (.ref z) ⟨hp, g, d, tk, os⟩ → wpAny (model prog w) A' (pyIter (.ref z)) Q E ⟨hp, g, d, tk, os⟩ :=
      fun q => wpAny_pyIter_zip h1 q
    wp_walk using q1
    refine wpAny_stack_any fun st => wpAny_pure ?_
    split
    · rename_i c _ _ _ _ _
      cases (c == Value.type "enumerate")
      · wp_walk using q1
        exact ⟨_, rfl, h⟩
      · wp_walk using q1
        exact ⟨_, rfl, h⟩
    · wp_walk using q1
      exact ⟨_, rfl, h⟩
section
variable {prog : Program} {w : World} {A : Around} {E : Value → Shared → Prop} {s : Shared}
theorem enum_zip {z TI TO : Addr} {Q : Value → Shared → Prop} (h1 : IsZip s.heap z TI TO .none)
    (h : ∀ h', IsEnum h' s.heap.objs.size z 0 .none → (∀ b o, s.heap.get? b = some o → h'.get? b = some o) → Q (.ref s.heap.objs.size) { s with heap := h' }) :
    wpAny (model prog w) A (call (.type "enumerate") [.ref z]) Q E s := by
  refine callType_new F.called_enumerate (by decide) (F.typeCall_enumerate_1 _) (F.newCall_enumerate_1 _) (fun obj => F.args_object_init_2 obj _) F.entry_enumerate_new
    (meets_enumZ (TI := TI) (TO := TO)) ⟨h1, ?_⟩
  have he : IsEnum (s.heap.push { cls := .type "enumerate", data := .fields #[.none, .bool false, .ref z, rawInt 0, .none, .none] }) s.heap.objs.size z 0 .none := Heap.get?_push_size s.heap (o := { cls := .type "enumerate", data := .fields #[.none, .bool false, .ref z, rawInt 0, .none, .none] }) rfl
  exact ⟨⟨_, he, rfl⟩, h _ he fun b o x => Heap.get?_push_of_some _ x⟩
end
def iEz (K : PySem.W.Frag) (ta : TA) : TI := fun σ H R => ta σ H fun vs H1 => ∃ a b xs ys, vs = [.ref a, .ref b] ∧ SqT K H1 a xs ∧ SqT K H1 b ys ∧ R (Itez K a b) H1
theorem nn_add {N k j : Nat} (h : k ≠ j) : N + k ≠ N + j := by omega
theorem nn_lt {N a k : Nat} (h : a < N) : N + k ≠ a := by omega
theorem nn_lt0 {N a : Nat} (h : a < N) : a ≠ N := by omega
theorem nn_lt1 {N a k : Nat} (h : a < N) : a ≠ N + k := by omega
theorem nn_pos {N k : Nat} (h : 0 < k) : N + k ≠ N := by omega
theorem ez_apart {N a b : Nat} (ha : a < N) (hb : b < N) : EzApart (N + 5) (N + 4) (N + 2) (N + 3) N (N + 1) a b where
  S := zip_sep2 (fp1 := [a]) (fp2 := [b]) (by intro c hc; rw [List.mem_singleton.mp hc]; exact ha) (by intro c hc; rw [List.mem_singleton.mp hc]; exact hb)
  ez := nn_add (by decide)
  eI := nn_add (by decide)
  eT := nn_add (by decide)
  e1 := fun h => by
    rcases List.mem_cons.mp h with h | h
    · exact nn_pos (by decide) h
    · exact nn_lt ha (List.mem_singleton.mp h)
  e2 := fun h => by
    rcases List.mem_cons.mp h with h | h
    · exact nn_add (by decide) h
    · exact nn_lt hb (List.mem_singleton.mp h)
  a1 := nn_lt0 ha
  b2 := nn_lt1 hb
theorem pi_ez {X : Cx} {e e2 : Expr} {ta : TA} {p p2 pos pos2 tpos : Pos} {elts : List Expr} {kk : Nat} (hg : Gl X "enumerate") (hm : X.mg "enumerate" = none) (hgz : Gl X "zip") (hmz : X.mg "zip" = none) (ha : PA X [e, e2] ta)
    (hs0 : starEach [.Call (.Name "zip" p2) [e, e2] [] pos2] X.env = (false, eval (.Call (.Name "zip" p2) [e, e2] [] pos2) X.env) :: starEach [] X.env := by rfl) (hpl0 : (backTo pos (starEach [] X.env)).any (·.1) = false := by rfl)
    (hs : starEach [e, e2] X.env = (false, eval e X.env) :: starEach [e2] X.env := by rfl) (hpl : (backTo pos2 (starEach [e2] X.env)).any (·.1) = false := by rfl) :
    PI X (.Tuple elts kk tpos) (.Call (.Name "enumerate" p) [.Call (.Name "zip" p2) [e, e2] [] pos2] [] pos) (iEz X.K ta) := by
  refine ⟨fun pins s σ H R I h => ?_⟩
  refine Call_ (ld_blt I hg hm boot_enumerate (PyProof.Rows.callWith_type1 ?_ hs0 hpl0))
  rw [hs0]
  show wpAny _ _ (spliced ((false, eval (.Call (.Name "zip" p2) [e, e2] [] pos2) X.env) :: backTo pos (starEach [] X.env))) _ _ s
  refine Calls.spliced_cons (Call_ (ld_blt I hgz hmz PyProof.Rows.boot_zip (PyProof.Rows.callWith_type1 (thn (ha.run pos2 pins s σ H _ I h) fun us s1 ⟨vs, H1, I1, r1, q1⟩ => ?_) hs hpl)))
  obtain ⟨a, b, xs, ys, ex, hqx, hqy, q⟩ := q1
  subst ex
  cases r1 with
  | cons r rr =>
    cases rr with
    | cons r' rr =>
      cases rr
      cases r
      cases r'
      obtain ⟨its, rv, p1, _⟩ := I1.tuple hqx
      obtain ⟨its2, rv2, p2, _⟩ := I1.tuple hqy
      obtain ⟨o1, ho1, _⟩ := id p1
      obtain ⟨o2, ho2, _⟩ := id p2
      refine RZ.call_zipT (show s1.heap.IsTuple a its.toArray from p1) (show s1.heap.IsTuple b its2.toArray from p2) fun h' hz hTI hTO h1 h2 hsz hk => ?_
      refine Calls.spliced_nil ?_
      refine enum_zip (s := { s1 with heap := h' }) hz fun h'' he hk2 => wpAny_pyIter_enum he ?_
      replace he : IsEnum h'' h'.objs.size (s1.heap.objs.size + 4) 0 .none := he
      replace hk2 : ∀ b o, h'.get? b = some o → h''.get? b = some o := hk2
      rw [hsz] at he
      have I2 : Inv X pins σ H1 { s1 with heap := h'' } := I1.kept (t' := s1.toks) fun c o x => hk2 c o (hk c o x)
      refine ⟨s1.heap.objs.size + 5, [s1.heap.objs.size + 5, s1.heap.objs.size + 4, s1.heap.objs.size + 2, s1.heap.objs.size + 3, s1.heap.objs.size, s1.heap.objs.size + 1], _, _, H1, ?_, I2, turn_ez (ez_apart (Heap.lt_size ho1) (Heap.lt_size ho2)), ⟨⟨.none, he⟩, ⟨.none, false, hk2 _ _ hz, .inl rfl⟩, hk2 _ _ hTI, ⟨_, _, hk2 _ _ hTO⟩, h1.at fun o x => hk2 _ o x, h2.at fun o x => hk2 _ o x⟩, fun c hcm => ?_, q⟩
      · show Value.ref h'.objs.size = _
        rw [hsz]
      · have hle : s1.heap.objs.size ≤ c := by
          have e' : c = s1.heap.objs.size + 5 ∨ c = s1.heap.objs.size + 4 ∨ c = s1.heap.objs.size + 2 ∨ c = s1.heap.objs.size + 3 ∨ c = s1.heap.objs.size ∨ c = s1.heap.objs.size + 1 := by simpa using hcm
          rcases e' with z | z | z | z | z | z
          all_goals rw [z]
          all_goals first | exact Nat.le_add_right _ _ | exact Nat.le_refl _
        exact I1.fpOk hle (I1.hok.fresh hle)
section
variable {X : Cx} {o : Own} {e e2 : Expr} {fs : En → M (List D)} {ta : TA} {p p2 pos pos2 tpos : Pos} {elts : List Expr} {kk : Nat} {K : PySem.W.Frag} {F : Hp}
theorem its_ez {a b : Addr} {vs us : List V} {ds es : List D} {st : List Nat} {σ0 : Sl} {ρ0 : En} (hF : SqT K F a vs) (hG : SqT K F b us) (r : RpAll K F vs ds) (r2 : RpAll K F us es) : ItS K o st σ0 ρ0 (Itez K a b) F (enumFr 0 (zipD ds es)) where
  go := fun y σ H ρ Fc i s e _ hi => by
    rw [enumFr_len, zipD_len, ← rpAll_len r, ← rpAll_len r2] at hi
    exact ⟨vs, us, vs[i]'(by omega), us[i]'(by omega), sqT_mono s.fz (sqT_mono e hF), sqT_mono s.fz (sqT_mono e hG), List.getElem?_eq_getElem _, List.getElem?_eq_getElem _⟩
  stop := fun y σ H ρ Fc i s e _ hi => by
    rw [enumFr_len, zipD_len, ← rpAll_len r, ← rpAll_len r2] at hi
    exact ⟨vs, us, sqT_mono s.fz (sqT_mono e hF), sqT_mono s.fz (sqT_mono e hG), by omega⟩
  yld := fun y σ H ρ Fc i x H' d s e _ hy hd => by
    obtain ⟨T, T2, x', y', rfl, hT, hT2, hne, rfl, h, h'⟩ := hy
    obtain ⟨d0, e0, rfl⟩ := enumFr_get hd
    obtain ⟨d1, d2, e1, e2, rfl⟩ := zipD_get e0
    obtain ⟨v, e3, q⟩ := rpAll_get r e1
    obtain ⟨u, e4, q2⟩ := rpAll_get r2 e2
    have t1 := h vs (sqT_mono s.fz (sqT_mono e hF))
    have t2 := h' us (sqT_mono s.fz (sqT_mono e hG))
    rw [e3] at t1; cases t1
    rw [e4] at t2; cases t2
    obtain ⟨F1, x1, r1⟩ := pair_ext s hT (rp_mono e q) (rp_mono e q2)
    have s1 := s.ext x1
    rw [Nat.zero_add]
    obtain ⟨F2, x2, r2⟩ := pair_ext s1 (show upd H T (.tup [x', y']) T2 = none by rw [upd_ne hne]; exact hT2) (.int (i : Nat)) r1
    exact ⟨F2, x1.trans x2, r2⟩
def iEzD (f : En → M (List D)) : En → M (List D) := fun ρ => (f ρ).bind fun ds => match ds with
  | [.tuple xs, .tuple ys] => .ret (enumFr 0 (zipD xs ys))
  | _ => .bad
theorem kdj_ez (hK : X.K = K) (hg : Gl X "enumerate") (hm : X.mg "enumerate" = none) (hgz : Gl X "zip") (hmz : X.mg "zip" = none) (ha : DFs X o [e, e2] fs ta)
    (hs0 : starEach [.Call (.Name "zip" p2) [e, e2] [] pos2] X.env = (false, eval (.Call (.Name "zip" p2) [e, e2] [] pos2) X.env) :: starEach [] X.env := by rfl) (hpl0 : (backTo pos (starEach [] X.env)).any (·.1) = false := by rfl)
    (hs : starEach [e, e2] X.env = (false, eval e X.env) :: starEach [e2] X.env := by rfl) (hpl : (backTo pos2 (starEach [e2] X.env)).any (·.1) = false := by rfl) :
    DJ X o [] (.Tuple elts kk tpos) (.Call (.Name "enumerate" p) [.Call (.Name "zip" p2) [e, e2] [] pos2] [] pos) (iEzD fs) (iEz K ta) := by
  subst hK
  refine ⟨pi_ez hg hm hgz hmz ha.p hs0 hpl0 hs hpl, fun y σ H ρ F R s w => ha.q y σ H ρ F _ s (M.wp_mono (fun d k v H' F' s' e' hd => ?_) (fun _ z => z) (M.wp_bind.mp w))⟩
  split at k
  · cases hd with
    | cons h1 h2 =>
      cases h2 with
      | cons h2 h3 =>
        cases h3
        cases h1 with
        | tup hF r =>
          cases h2 with
          | tup hG r2 => exact ⟨_, _, _, _, rfl, sqT_mono s'.fz hF, sqT_mono s'.fz hG, k _ H' F' s' e' (its_ez hF hG r r2)⟩
  · exact k.elim
end
end DL

set_option Elab.async false
set_option linter.all false
set_option maxRecDepth 100000
set_option maxHeartbeats 4000000
namespace Lk78
open PySem PySem.Spec PyProof.Rows L2 DL
/-! ### the text -/
def top (i : Nat) : Stmt := PySem.Challenge.pw_rowswithin_k78_whole_zigzags.main.body.getD i (.Pass ⟨0, 0, 0, 0⟩)
abbrev s_nexts : Stmt := top 5
theorem sc_nexts : FnScope ["row", "pattern", "places", "wanted", "low", "high", "number", "place", "first", "last"] ["row", "pattern", "places"] (defScope s_nexts) := ⟨rfl, rfl, rfl, by decide +kernel, rfl, by decide +kernel, by decide +kernel⟩
abbrev s_collect : Stmt := top 6
theorem sc_collect : FnScope ["row", "pattern", "places", "found", "most", "place"] ["row", "pattern", "places", "found", "most"] (defScope s_collect) := ⟨rfl, rfl, rfl, by decide +kernel, rfl, by decide +kernel, by decide +kernel⟩
abbrev s_first_placing : Stmt := top 7
theorem sc_first_placing : FnScope ["row", "pattern", "found"] ["row", "pattern"] (defScope s_first_placing) := ⟨rfl, rfl, rfl, by decide +kernel, rfl, by decide +kernel, by decide +kernel⟩
abbrev s_is_within : Stmt := top 8
theorem sc_is_within : FnScope ["pattern", "row"] ["pattern", "row"] (defScope s_is_within) := ⟨rfl, rfl, rfl, by decide +kernel, rfl, by decide +kernel, by decide +kernel⟩
abbrev s_choose : Stmt := top 10
theorem sc_choose : FnScope ["number", "part", "found", "place"] ["number", "part"] (defScope s_choose) := ⟨rfl, rfl, rfl, by decide +kernel, rfl, by decide +kernel, by decide +kernel⟩
abbrev s_is_zigzag : Stmt := top 12
theorem sc_is_zigzag : FnScope ["row", "place"] ["row"] (defScope s_is_zigzag) := ⟨rfl, rfl, rfl, by decide +kernel, rfl, by decide +kernel, by decide +kernel⟩
abbrev s_zigzag_count : Stmt := top 13
theorem sc_zigzag_count : FnScope ["many", "found", "number", "total", "part"] ["many"] (defScope s_zigzag_count) := ⟨rfl, rfl, rfl, by decide +kernel, rfl, by decide +kernel, by decide +kernel⟩
abbrev s_bracket_count : Stmt := top 14
theorem sc_bracket_count : FnScope ["number"] ["number"] (defScope s_bracket_count) := ⟨rfl, rfl, rfl, by decide +kernel, rfl, by decide +kernel, by decide +kernel⟩
abbrev s_zigzag_three_count : Stmt := top 15
theorem sc_zigzag_three_count : FnScope ["p", "many"] ["p", "many"] (defScope s_zigzag_three_count) := ⟨rfl, rfl, rfl, by decide +kernel, rfl, by decide +kernel, by decide +kernel⟩
abbrev s_with_last : Stmt := top 16
theorem sc_with_last : FnScope ["row", "item", "own"] ["row", "item"] (defScope s_with_last) := ⟨rfl, rfl, rfl, by decide +kernel, rfl, by decide +kernel, by decide +kernel⟩
abbrev s_zigzag_three_rows : Stmt := top 17
theorem sc_zigzag_three_rows : FnScope ["p", "many", "some", "size", "longer", "row", "further", "item", "own"] ["p", "many"] (defScope s_zigzag_three_rows) := ⟨rfl, rfl, rfl, by decide +kernel, rfl, by decide +kernel, by decide +kernel⟩
abbrev s__law_bag : Stmt := top 19
theorem sc__law_bag : FnScope ["script", "cells", "mixed", "cell"] ["script"] (defScope s__law_bag) := ⟨rfl, rfl, rfl, by decide +kernel, rfl, by decide +kernel, by decide +kernel⟩
abbrev s__law_draw : Stmt := top 20
theorem sc__law_draw : FnScope ["bag", "below", "cell", "found"] ["bag", "below"] (defScope s__law_draw) := ⟨rfl, rfl, rfl, by decide +kernel, rfl, by decide +kernel, by decide +kernel⟩
abbrev s__law_pick : Stmt := top 21
theorem sc__law_pick : FnScope ["bag", "some"] ["bag", "some"] (defScope s__law_pick) := ⟨rfl, rfl, rfl, by decide +kernel, rfl, by decide +kernel, by decide +kernel⟩
abbrev s__law_row : Stmt := top 22
theorem sc__law_row : FnScope ["bag", "many", "left", "found"] ["bag", "many"] (defScope s__law_row) := ⟨rfl, rfl, rfl, by decide +kernel, rfl, by decide +kernel, by decide +kernel⟩
abbrev s__law_like : Stmt := top 23
theorem sc__law_like : FnScope ["items", "order", "item"] ["items"] (defScope s__law_like) := ⟨rfl, rfl, rfl, by decide +kernel, rfl, by decide +kernel, by decide +kernel⟩
abbrev s__law_lots : Stmt := top 24
theorem sc__law_lots : FnScope ["many", "few", "found", "turn", "longer", "lot", "item"] ["many", "few"] (defScope s__law_lots) := ⟨rfl, rfl, rfl, by decide +kernel, rfl, by decide +kernel, by decide +kernel⟩
abbrev s__law_choose : Stmt := top 26
theorem sc__law_choose : FnScope ["many", "few", "found", "k"] ["many", "few"] (defScope s__law_choose) := ⟨rfl, rfl, rfl, by decide +kernel, rfl, by decide +kernel, by decide +kernel⟩
abbrev s__law_bars : Stmt := top 27
theorem sc__law_bars : FnScope ["row", "p", "lot", "k"] ["row", "p"] (defScope s__law_bars) := ⟨rfl, rfl, rfl, by decide +kernel, rfl, by decide +kernel, by decide +kernel⟩
abbrev s__law_ends_well : Stmt := top 29
theorem sc__law_ends_well : FnScope ["row", "item", "p", "j", "other", "own"] ["row", "item", "p"] (defScope s__law_ends_well) := ⟨rfl, rfl, rfl, by decide +kernel, rfl, by decide +kernel, by decide +kernel⟩
abbrev s__law_zigzags : Stmt := top 28
theorem sc__law_zigzags : FnScope ["many", "p", "found", "place", "longer", "row", "some", "item"] ["many", "p"] (defScope s__law_zigzags) := ⟨rfl, rfl, rfl, by decide +kernel, rfl, by decide +kernel, by decide +kernel⟩
abbrev s__law_counts : Stmt := top 30
theorem sc__law_counts : FnScope ["most", "found", "line", "n", "sums", "total", "item"] ["most"] (defScope s__law_counts) := ⟨rfl, rfl, rfl, by decide +kernel, rfl, by decide +kernel, by decide +kernel⟩
abbrev s__law_number : Stmt := top 31
theorem sc__law_number : FnScope ["p", "n", "half"] ["p", "n"] (defScope s__law_number) := ⟨rfl, rfl, rfl, by decide +kernel, rfl, by decide +kernel, by decide +kernel⟩
abbrev s_law : Stmt := top 32
theorem sc_law : FnScope ["script", "bag", "turn", "row", "order", "place", "some", "due", "counts", "n", "many", "p", "own", "told", "rows", "item", "k", "one", "other"] ["script"] (defScope s_law) := ⟨rfl, rfl, rfl, by decide +kernel, rfl, by decide +kernel, by decide +kernel⟩
theorem kb_is_zigzag_row {K : PySem.W.Frag} {f : Addr} {fd : FuncData} (F : Fun K "is_zigzag" "is_zigzag" s_is_zigzag f fd) : KBinds K fd ["row"] ["row"] (gK [0]) (gK [0]) := by
  obtain ⟨oc, od, kV, doc, pm, an, cdv, ct, osl, rfl, lk, hcd⟩ := F.ex
  refine ⟨fun s us ws _ hl => ?_, fun {vs us zs ws} r1 r2 => ?_⟩
  · cases us with
    | nil =>
      match ws, hl with
      | _ :: _, _ => exact .of_eq rfl
      | [], hl => exact absurd hl (by simp [gK, permL])
    | cons _ _ => cases hl
  · cases r1 with
    | nil => exact vals_perm r2 [0]
    | cons _ _ => exact .nil
theorem kb_zigzag_count_many {K : PySem.W.Frag} {f : Addr} {fd : FuncData} (F : Fun K "zigzag_count" "zigzag_count" s_zigzag_count f fd) : KBinds K fd ["many"] ["many"] (gK [0]) (gK [0]) := by
  obtain ⟨oc, od, kV, doc, pm, an, cdv, ct, osl, rfl, lk, hcd⟩ := F.ex
  refine ⟨fun s us ws _ hl => ?_, fun {vs us zs ws} r1 r2 => ?_⟩
  · cases us with
    | nil =>
      match ws, hl with
      | _ :: _, _ => exact .of_eq rfl
      | [], hl => exact absurd hl (by simp [gK, permL])
    | cons _ _ => cases hl
  · cases r1 with
    | nil => exact vals_perm r2 [0]
    | cons _ _ => exact .nil
theorem kb_zigzag_three_count_many_p {K : PySem.W.Frag} {f : Addr} {fd : FuncData} (F : Fun K "zigzag_three_count" "zigzag_three_count" s_zigzag_three_count f fd) : KBinds K fd ["p", "many"] ["many", "p"] (gK [1, 0]) (gK [1, 0]) := by
  obtain ⟨oc, od, kV, doc, pm, an, cdv, ct, osl, rfl, lk, hcd⟩ := F.ex
  refine ⟨fun s us ws _ hl => ?_, fun {vs us zs ws} r1 r2 => ?_⟩
  · cases us with
    | nil =>
      match ws, hl with
      | _ :: _ :: _, _ => exact .of_eq rfl
      | [], hl => exact absurd hl (by simp [gK, permL])
      | [_], hl => exact absurd hl (by simp [gK, permL])
    | cons _ _ => cases hl
  · cases r1 with
    | nil => exact vals_perm r2 [1, 0]
    | cons _ _ => exact .nil
theorem kb_zigzag_three_rows_many_p {K : PySem.W.Frag} {f : Addr} {fd : FuncData} (F : Fun K "zigzag_three_rows" "zigzag_three_rows" s_zigzag_three_rows f fd) : KBinds K fd ["p", "many"] ["many", "p"] (gK [1, 0]) (gK [1, 0]) := by
  obtain ⟨oc, od, kV, doc, pm, an, cdv, ct, osl, rfl, lk, hcd⟩ := F.ex
  refine ⟨fun s us ws _ hl => ?_, fun {vs us zs ws} r1 r2 => ?_⟩
  · cases us with
    | nil =>
      match ws, hl with
      | _ :: _ :: _, _ => exact .of_eq rfl
      | [], hl => exact absurd hl (by simp [gK, permL])
      | [_], hl => exact absurd hl (by simp [gK, permL])
    | cons _ _ => cases hl
  · cases r1 with
    | nil => exact vals_perm r2 [1, 0]
    | cons _ _ => exact .nil
/-! ### the top -/
structure GE (K : PySem.W.Frag) (mg : Str → Option Value) where
  f_nexts : Addr
  fd_nexts : FuncData
  F_nexts : Fun K "nexts" "nexts" s_nexts f_nexts fd_nexts
  b_nexts : Binds K fd_nexts ["row", "pattern", "places"] []
  m_nexts : mg "nexts" = some (.ref f_nexts)
  f_collect : Addr
  fd_collect : FuncData
  F_collect : Fun K "collect" "collect" s_collect f_collect fd_collect
  b_collect : Binds K fd_collect ["row", "pattern", "places", "found", "most"] []
  m_collect : mg "collect" = some (.ref f_collect)
  f_first_placing : Addr
  fd_first_placing : FuncData
  F_first_placing : Fun K "first_placing" "first_placing" s_first_placing f_first_placing fd_first_placing
  b_first_placing : Binds K fd_first_placing ["row", "pattern"] []
  m_first_placing : mg "first_placing" = some (.ref f_first_placing)
  f_is_within : Addr
  fd_is_within : FuncData
  F_is_within : Fun K "is_within" "is_within" s_is_within f_is_within fd_is_within
  b_is_within : Binds K fd_is_within ["pattern", "row"] []
  m_is_within : mg "is_within" = some (.ref f_is_within)
  f_choose : Addr
  fd_choose : FuncData
  F_choose : Fun K "choose" "choose" s_choose f_choose fd_choose
  b_choose : Binds K fd_choose ["number", "part"] []
  m_choose : mg "choose" = some (.ref f_choose)
  f_is_zigzag : Addr
  fd_is_zigzag : FuncData
  F_is_zigzag : Fun K "is_zigzag" "is_zigzag" s_is_zigzag f_is_zigzag fd_is_zigzag
  b_is_zigzag : Binds K fd_is_zigzag ["row"] []
  m_is_zigzag : mg "is_zigzag" = some (.ref f_is_zigzag)
  f_zigzag_count : Addr
  fd_zigzag_count : FuncData
  F_zigzag_count : Fun K "zigzag_count" "zigzag_count" s_zigzag_count f_zigzag_count fd_zigzag_count
  b_zigzag_count : Binds K fd_zigzag_count ["many"] []
  m_zigzag_count : mg "zigzag_count" = some (.ref f_zigzag_count)
  f_bracket_count : Addr
  fd_bracket_count : FuncData
  F_bracket_count : Fun K "bracket_count" "bracket_count" s_bracket_count f_bracket_count fd_bracket_count
  b_bracket_count : Binds K fd_bracket_count ["number"] []
  m_bracket_count : mg "bracket_count" = some (.ref f_bracket_count)
  f_zigzag_three_count : Addr
  fd_zigzag_three_count : FuncData
  F_zigzag_three_count : Fun K "zigzag_three_count" "zigzag_three_count" s_zigzag_three_count f_zigzag_three_count fd_zigzag_three_count
  b_zigzag_three_count : Binds K fd_zigzag_three_count ["p", "many"] []
  m_zigzag_three_count : mg "zigzag_three_count" = some (.ref f_zigzag_three_count)
  f_with_last : Addr
  fd_with_last : FuncData
  F_with_last : Fun K "with_last" "with_last" s_with_last f_with_last fd_with_last
  b_with_last : Binds K fd_with_last ["row", "item"] []
  m_with_last : mg "with_last" = some (.ref f_with_last)
  f_zigzag_three_rows : Addr
  fd_zigzag_three_rows : FuncData
  F_zigzag_three_rows : Fun K "zigzag_three_rows" "zigzag_three_rows" s_zigzag_three_rows f_zigzag_three_rows fd_zigzag_three_rows
  b_zigzag_three_rows : Binds K fd_zigzag_three_rows ["p", "many"] []
  m_zigzag_three_rows : mg "zigzag_three_rows" = some (.ref f_zigzag_three_rows)
  f__law_bag : Addr
  fd__law_bag : FuncData
  F__law_bag : Fun K "_law_bag" "_law_bag" s__law_bag f__law_bag fd__law_bag
  b__law_bag : Binds K fd__law_bag ["script"] []
  m__law_bag : mg "_law_bag" = some (.ref f__law_bag)
  f__law_draw : Addr
  fd__law_draw : FuncData
  F__law_draw : Fun K "_law_draw" "_law_draw" s__law_draw f__law_draw fd__law_draw
  b__law_draw : Binds K fd__law_draw ["bag", "below"] []
  m__law_draw : mg "_law_draw" = some (.ref f__law_draw)
  f__law_pick : Addr
  fd__law_pick : FuncData
  F__law_pick : Fun K "_law_pick" "_law_pick" s__law_pick f__law_pick fd__law_pick
  b__law_pick : Binds K fd__law_pick ["bag", "some"] []
  m__law_pick : mg "_law_pick" = some (.ref f__law_pick)
  f__law_row : Addr
  fd__law_row : FuncData
  F__law_row : Fun K "_law_row" "_law_row" s__law_row f__law_row fd__law_row
  b__law_row : Binds K fd__law_row ["bag", "many"] []
  m__law_row : mg "_law_row" = some (.ref f__law_row)
  f__law_like : Addr
  fd__law_like : FuncData
  F__law_like : Fun K "_law_like" "_law_like" s__law_like f__law_like fd__law_like
  b__law_like : Binds K fd__law_like ["items"] []
  m__law_like : mg "_law_like" = some (.ref f__law_like)
  f__law_lots : Addr
  fd__law_lots : FuncData
  F__law_lots : Fun K "_law_lots" "_law_lots" s__law_lots f__law_lots fd__law_lots
  b__law_lots : Binds K fd__law_lots ["many", "few"] []
  m__law_lots : mg "_law_lots" = some (.ref f__law_lots)
  f__law_choose : Addr
  fd__law_choose : FuncData
  F__law_choose : Fun K "_law_choose" "_law_choose" s__law_choose f__law_choose fd__law_choose
  b__law_choose : Binds K fd__law_choose ["many", "few"] []
  m__law_choose : mg "_law_choose" = some (.ref f__law_choose)
  f__law_bars : Addr
  fd__law_bars : FuncData
  F__law_bars : Fun K "_law_bars" "_law_bars" s__law_bars f__law_bars fd__law_bars
  b__law_bars : Binds K fd__law_bars ["row", "p"] []
  m__law_bars : mg "_law_bars" = some (.ref f__law_bars)
  f__law_ends_well : Addr
  fd__law_ends_well : FuncData
  F__law_ends_well : Fun K "_law_ends_well" "_law_ends_well" s__law_ends_well f__law_ends_well fd__law_ends_well
  b__law_ends_well : Binds K fd__law_ends_well ["row", "item", "p"] []
  m__law_ends_well : mg "_law_ends_well" = some (.ref f__law_ends_well)
  f__law_zigzags : Addr
  fd__law_zigzags : FuncData
  F__law_zigzags : Fun K "_law_zigzags" "_law_zigzags" s__law_zigzags f__law_zigzags fd__law_zigzags
  b__law_zigzags : Binds K fd__law_zigzags ["many", "p"] []
  m__law_zigzags : mg "_law_zigzags" = some (.ref f__law_zigzags)
  f__law_counts : Addr
  fd__law_counts : FuncData
  F__law_counts : Fun K "_law_counts" "_law_counts" s__law_counts f__law_counts fd__law_counts
  b__law_counts : Binds K fd__law_counts ["most"] []
  m__law_counts : mg "_law_counts" = some (.ref f__law_counts)
  f__law_number : Addr
  fd__law_number : FuncData
  F__law_number : Fun K "_law_number" "_law_number" s__law_number f__law_number fd__law_number
  b__law_number : Binds K fd__law_number ["p", "n"] []
  m__law_number : mg "_law_number" = some (.ref f__law_number)
  f_law : Addr
  fd_law : FuncData
  F_law : Fun K "law" "law" s_law f_law fd_law
  b_law : Binds K fd_law ["script"] []
  m_law : mg "law" = some (.ref f_law)
  z_abs : mg "abs" = none
  z_all : mg "all" = none
  z_any : mg "any" = none
  z_enumerate : mg "enumerate" = none
  z_int : mg "int" = none
  z_len : mg "len" = none
  z_list : mg "list" = none
  z_max : mg "max" = none
  z_min : mg "min" = none
  z_range : mg "range" = none
  z_repr : mg "repr" = none
  z_sorted : mg "sorted" = none
  z_sum : mg "sum" = none
  z_tuple : mg "tuple" = none
  z_zip : mg "zip" = none
  g_MAX_LISTED : ∃ t, mg "MAX_LISTED" = some (.int 500 t)
section
variable {P : Program} {w : World} {K : PySem.W.Frag} {mg : Str → Option Value} {base : Heap}
def d_nexts : List D → M D := runR (gSeq (gSetT (kTup (ksCons (kName 3) (ksCons (kName 4) (ksCons (kName 5) ksNil)))) (eTup (aCons (eBin ixD (eVar 1) (eCall lenD (aCons (eVar 2) aNil))) (aCons (eUn negD (eC (.int 1))) (aCons (eCall lenD (aCons (eVar 0) aNil)) aNil))))) (gSeq (gFor (iEnumD (aCons (eVar 2) aNil)) (kTup (ksCons (kName 6) (ksCons (kName 7) ksNil))) (gSeq (gIf (eTest (eBin ltD (eBin ixD (eVar 1) (eVar 6)) (eVar 3))) (gSeq (gSetN 4 (eCall max2D (aCons (eVar 4) (aCons (eBin ixD (eVar 0) (eVar 7)) aNil)))) gNil) (gSeq (gSetN 5 (eCall min2D (aCons (eVar 5) (aCons (eBin ixD (eVar 0) (eVar 7)) aNil)))) gNil)) gNil)) (gSeq (gSetN 8 (eIf (eTest (eBin neD (eVar 2) (eTup aNil))) (eBin addD (eBin ixD (eVar 2) (eUn negD (eC (.int 1)))) (eC (.int 1))) (eC (.int 0)))) (gSeq (gSetN 9 (eBin subD (eCall lenD (aCons (eVar 0) aNil)) (eBin subD (eCall lenD (aCons (eVar 1) aNil)) (eCall lenD (aCons (eVar 2) aNil))))) (gSeq (gRet (eComp (iRange2 (aCons (eVar 8) (aCons (eBin addD (eVar 9) (eC (.int 1))) aNil))) [7] (kName 7) (eChain ltD ltD (eVar 4) (eBin ixD (eVar 0) (eVar 7)) (eVar 5)) (eVar 7))) gNil))))) 7
theorem ok_nexts (E : GE K mg) : FnG P w K mg base CX0 1 E.f_nexts E.fd_nexts ["row", "pattern", "places"] (spR K 3 [] (d_nexts)) :=
  fn_R (kp := []) (o' := []) E.F_nexts sc_nexts rfl rfl rfl (fun _ _ h => h) rfl fun cdv A outer s H E2 hr => ⟨_, dss_cons (ds_asgT2 (de_tup (dfs_cons (de_ix (K := K) rfl (DE.b (de_var 1 (pv 1))) (DE.b (de_len (K := K) rfl rfl E.z_len (dbs_cons (DE.b (de_var 2 (pv 2))) (dbs_nil)))) (fun _ _ => rfl)) (dfs_cons (de_neg (de_c (.int 1) pe_int)) (dfs_cons (de_len (K := K) rfl rfl E.z_len (dbs_cons (DE.b (de_var 0 (pv 0))) (dbs_nil))) (dfs_nil))))) (kdg_tup (K := K) rfl rfl (dgs_cons (dg_name (pg_name (i := 3) sc_nexts.nd rfl (by first | exact Or.inl rfl | exact Or.inr rfl))) (dgs_cons (dg_name (pg_name (i := 4) sc_nexts.nd rfl (by first | exact Or.inl rfl | exact Or.inr rfl))) (dgs_cons (dg_name (pg_name (i := 5) sc_nexts.nd rfl (by first | exact Or.inl rfl | exact Or.inr rfl))) dgs_nil))) rfl rfl (ksCons_len (ksCons_len (ksCons_len ksNil_len))))) (dss_cons (ds_for PassesOwn.never rfl (kdj_enum (K := K) rfl rfl E.z_enumerate (dfs_cons (de_var 2 (pv 2)) (dfs_nil))) (kdg_tup (K := K) rfl rfl (dgs_cons (dg_name (pg_name (i := 6) sc_nexts.nd rfl (by first | exact Or.inl rfl | exact Or.inr rfl))) (dgs_cons (dg_name (pg_name (i := 7) sc_nexts.nd rfl (by first | exact Or.inl rfl | exact Or.inr rfl))) dgs_nil)) rfl rfl (ksCons_len (ksCons_len ksNil_len))) (dss_cons (ds_if (dt_lt (K := K) rfl hr (DE.b (de_ix (K := K) rfl (DE.b (de_var 1 (pv 1))) (DE.b (de_var 6 (pv 6))) (fun _ _ => rfl))) (DE.b (de_var 3 (pv 3))) (nomark _)) (dss_cons (ds_def (i := 4) sc_nexts.nd (de_max rfl rfl E.z_max (dbs_cons (DE.b (de_var 4 (pv 4))) (dbs_cons (DE.b (de_ix (K := K) rfl (DE.b (de_var 0 (pv 0))) (DE.b (de_var 7 (pv 7))) (fun _ _ => rfl))) (dbs_nil))))) (dss_nil)) (dss_cons (ds_def (i := 5) sc_nexts.nd (de_min rfl rfl E.z_min (dbs_cons (DE.b (de_var 5 (pv 5))) (dbs_cons (DE.b (de_ix (K := K) rfl (DE.b (de_var 0 (pv 0))) (DE.b (de_var 7 (pv 7))) (fun _ _ => rfl))) (dbs_nil))))) (dss_nil))) (dss_nil))) (dss_cons (ds_def (i := 8) sc_nexts.nd (de_if (dt_ne (K := K) rfl hr (DE.b (de_var 2 (pv 2))) (DE.b (de_tup (dfs_nil))) (nomark _)) (de_add (K := K) rfl (DE.b (de_ix (K := K) rfl (DE.b (de_var 2 (pv 2))) (DE.b (de_neg (de_c (.int 1) pe_int))) (fun _ _ => rfl))) (DE.b (de_c (.int 1) pe_int))) (de_c (.int 0) pe_int))) (dss_cons (ds_def (i := 9) sc_nexts.nd (de_sub (DE.b (de_len (K := K) rfl rfl E.z_len (dbs_cons (DE.b (de_var 0 (pv 0))) (dbs_nil)))) (DE.b (de_sub (DE.b (de_len (K := K) rfl rfl E.z_len (dbs_cons (DE.b (de_var 1 (pv 1))) (dbs_nil)))) (DE.b (de_len (K := K) rfl rfl E.z_len (dbs_cons (DE.b (de_var 2 (pv 2))) (dbs_nil)))))))) (dss_cons (ds_ret (DN.fr (dn_lc (own := [("place", 7)]) [7] rfl sc_nexts.nd (dj_range2 rfl E.z_range (dbs_cons (DE.b (de_var 8 (pv 8))) (dbs_cons (DE.b (de_add (K := K) rfl (DE.b (de_var 9 (pv 9))) (DE.b (de_c (.int 1) pe_int)))) (dbs_nil)))) (blkOk_by (by rfl)) (fun _ _ _ _ _ => dg_name (pg_name (i := 7) sc_nexts.nd rfl (by first | exact Or.inl rfl | exact Or.inr rfl))) (fun _ _ _ _ _ => dts_one (dt_lt_lt (K := K) rfl hr (de_var 4 (pv 4)) (de_ix (K := K) rfl (DE.b (de_var 0 (pv 0))) (DE.b (de_var 7 (pv 7))) (fun _ _ => rfl)) (de_var 5 (pv 5)))) (fun _ _ _ _ _ => de_var 7 (pv 7)) tw_name)) (hr := (subO_lk trivial))) dss_nil))))⟩
def d_collect : Nat → List D → M (D × En)
  | 0 => fun _ => .bad
  | n + 1 => runG (gSeq (gIf (eTest (eBin eqD (eCall lenD (aCons (eVar 2) aNil)) (eCall lenD (aCons (eVar 1) aNil)))) (gSeq (gExprE (eMeth 3 appG (aLift (aCons (eVar 2) aNil)))) (gSeq gRetN gNil)) gNil) (gSeq (gFor (iSeq (eCall d_nexts (aCons (eVar 0) (aCons (eVar 1) (aCons (eVar 2) aNil))))) (kName 5) (gSeq (gIf (eTest (eBin leD (eCall lenD (aCons (eVar 3) aNil)) (eVar 4))) (gSeq (gExprE (eCallG [none, none, none, some 3, none] (d_collect n) (aCons (eVar 0) (aCons (eVar 1) (aCons (eBin addD (eVar 2) (eTup (aCons (eVar 5) aNil))) (aCons (eVar 3) (aCons (eVar 4) aNil))))))) gNil) gNil) gNil)) gNil)) 1 [(3, .lst)]
theorem ok_collect (E : GE K mg) : ∀ n : Nat, FnG P w K mg base CX0 (1 + n) E.f_collect E.fd_collect ["row", "pattern", "places", "found", "most"] (spG K 5 [(3, .lst)] (d_collect n))
  | 0 => fnG_bad
  | n + 1 => by
    have ih := ok_collect E n
    exact fn_G (kp := [3]) (o' := [(3, .lst)]) E.F_collect sc_collect rfl rfl rfl (fun _ _ h => h) fun cdv A outer s H E2 hr => ⟨_, dss_cons (ds_if (dt_eq (K := K) rfl hr (DE.b (de_len (K := K) rfl rfl E.z_len (dbs_cons (DE.b (de_var 2 (pv 2))) (dbs_nil)))) (DE.b (de_len (K := K) rfl rfl E.z_len (dbs_cons (DE.b (de_var 1 (pv 1))) (dbs_nil)))) (nomark _)) (dss_cons (ds_exprE (kdee_app (K := K) rfl (pv 3) (DFs.lift (dfs_cons (de_var 2 (pv 2)) dfs_nil)))) (dss_cons (ds_retN (hr := (subO_lk ⟨rfl, trivial⟩))) dss_nil)) (dss_nil)) (dss_cons (ds_for PassesOwn.never rfl (kdj_seq (K := K) rfl (kde_call (K := K) rfl (ok_nexts E) (hr.mono (Nat.le_trans (show 1 ≤ 1 by decide) (Nat.le_add_right _ _))) rfl E.m_nexts E.F_nexts.kp E.b_nexts (dcs_cons (de_var 0 (pv 0)) (dcs_cons (de_var 1 (pv 1)) (dcs_cons (de_var 2 (pv 2)) (dcs_nil)))) (fits_pure rfl))) (dg_name (pg_name (i := 5) sc_collect.nd rfl (by first | exact Or.inl rfl | exact Or.inr rfl))) (dss_cons (ds_if (dt_le (K := K) rfl hr (DE.b (de_len (K := K) rfl rfl E.z_len (dbs_cons ((db_own 3 (pv 3))) (dbs_nil)))) (DE.b (de_var 4 (pv 4))) (nomark _)) (dss_cons (ds_exprE (dee_call ih hr rfl E.m_collect E.F_collect.kp E.b_collect (dcs_cons (de_var 0 (pv 0)) (dcs_cons (de_var 1 (pv 1)) (dcs_cons (de_add (K := K) rfl (DE.b (de_var 2 (pv 2))) (DE.b (de_tup (dfs_cons (de_var 5 (pv 5)) (dfs_nil))))) (dcs_own 3 (pv 3) (dcs_cons (de_var 4 (pv 4)) (dcs_nil)))))) (fits_one (i0 := 3) (j := 3) (kd := .lst) rfl rfl rfl))) (dss_nil)) (dss_nil)) (dss_nil))) (dss_nil))⟩
def d_first_placing : List D → M D := runR (gSeq (gSetN 2 (eLst aNil)) (gSeq (gExprE (eCallG [none, none, none, some 2, none] (d_collect 14) (aCons (eVar 0) (aCons (eVar 1) (aCons (eTup aNil) (aCons (eVar 2) (aCons (eC (.int 0)) aNil))))))) (gSeq (gRet (eIf (eTest (eBin neD (eVar 2) (eLst aNil))) (eBin ixD (eVar 2) (eC (.int 0))) (eC .none))) gNil))) 1
theorem ok_first_placing (E : GE K mg) : FnG P w K mg base CX0 16 E.f_first_placing E.fd_first_placing ["row", "pattern"] (spR K 2 [] (d_first_placing)) :=
  fn_R (kp := []) (o' := []) E.F_first_placing sc_first_placing rfl rfl rfl (fun _ _ h => h) rfl fun cdv A outer s H E2 hr => ⟨_, dss_cons (ds_new (i := 2) sc_first_placing.nd (dn_lst (dfs_nil))) (dss_cons (ds_exprE (dee_call (ok_collect E 14) (hr.mono (by decide)) rfl E.m_collect E.F_collect.kp E.b_collect (dcs_cons (de_var 0 (pv 0)) (dcs_cons (de_var 1 (pv 1)) (dcs_cons (de_tup (dfs_nil)) (dcs_own 2 (pv 2) (dcs_cons (de_c (.int 0) pe_int) (dcs_nil)))))) (fits_one (i0 := 3) (j := 2) (kd := .lst) rfl rfl rfl))) (dss_cons (ds_ret (de_if (dt_ne (K := K) rfl hr ((db_own 2 (pv 2))) (DN.b (dn_lst (dfs_nil))) (nomark _)) (de_ix (K := K) rfl ((db_own 2 (pv 2))) (DE.b (de_c (.int 0) pe_int)) (fun _ _ => rfl)) (de_c .none pe_non)) (hr := (subO_lk trivial))) dss_nil))⟩
def d_is_within : List D → M D := runR (gSeq (gRet (eBin notND (eCall d_first_placing (aCons (eVar 1) (aCons (eVar 0) aNil))) (eC .none))) gNil) 0
theorem ok_is_within (E : GE K mg) : FnG P w K mg base CX0 17 E.f_is_within E.fd_is_within ["pattern", "row"] (spR K 2 [] (d_is_within)) :=
  fn_R (kp := []) (o' := []) E.F_is_within sc_is_within rfl rfl rfl (fun _ _ h => h) rfl fun cdv A outer s H E2 hr => ⟨_, dss_cons (ds_ret (de_notN (DE.b (kde_call (K := K) rfl (ok_first_placing E) (hr.mono (by decide)) rfl E.m_first_placing E.F_first_placing.kp E.b_first_placing (dcs_cons (de_var 1 (pv 1)) (dcs_cons (de_var 0 (pv 0)) (dcs_nil))) (fits_pure rfl))) (DE.b (de_c .none pe_non)) (nomark _)) (hr := (subO_lk trivial))) dss_nil⟩
def d_choose : List D → M D := runR (gSeq (gSetN 2 (eC (.int 1))) (gSeq (gFor (iRange1 (aCons (eVar 1) aNil)) (kName 3) (gSeq (gSetN 2 (eBin fdivD (eBin mulD (eVar 2) (eBin subD (eVar 0) (eVar 3))) (eBin addD (eVar 3) (eC (.int 1))))) gNil)) (gSeq (gRet (eVar 2)) gNil))) 2
theorem ok_choose (E : GE K mg) : FnG P w K mg base CX0 1 E.f_choose E.fd_choose ["number", "part"] (spR K 2 [] (d_choose)) :=
  fn_R (kp := []) (o' := []) E.F_choose sc_choose rfl rfl rfl (fun _ _ h => h) rfl fun cdv A outer s H E2 hr => ⟨_, dss_cons (ds_def (i := 2) sc_choose.nd (de_c (.int 1) pe_int)) (dss_cons (ds_for PassesOwn.never rfl (dj_range1 rfl E.z_range (dbs_cons (DE.b (de_var 1 (pv 1))) (dbs_nil))) (dg_name (pg_name (i := 3) sc_choose.nd rfl (by first | exact Or.inl rfl | exact Or.inr rfl))) (dss_cons (ds_def (i := 2) sc_choose.nd (de_div (DE.b (de_mul (DE.b (de_var 2 (pv 2))) (DE.b (de_sub (DE.b (de_var 0 (pv 0))) (DE.b (de_var 3 (pv 3))))))) (DE.b (de_add (K := K) rfl (DE.b (de_var 3 (pv 3))) (DE.b (de_c (.int 1) pe_int)))))) (dss_nil))) (dss_cons (ds_ret (de_var 2 (pv 2)) (hr := (subO_lk trivial))) dss_nil))⟩
def d_is_zigzag : List D → M D := runR (gSeq (gRet (eCall allD (aCons (eComp (iRange1 (aCons (eBin subD (eCall lenD (aCons (eVar 0) aNil)) (eC (.int 1))) aNil)) [1] (kName 1) tYesD (eBin eqD (eBin ltD (eBin ixD (eVar 0) (eVar 1)) (eBin ixD (eVar 0) (eBin addD (eVar 1) (eC (.int 1))))) (eBin eqD (eBin modD (eVar 1) (eC (.int 2))) (eC (.int 0))))) aNil))) gNil) 1
theorem ok_is_zigzag (E : GE K mg) : FnG P w K mg base CX0 1 E.f_is_zigzag E.fd_is_zigzag ["row"] (spR K 1 [] (d_is_zigzag)) :=
  fn_R (kp := []) (o' := []) E.F_is_zigzag sc_is_zigzag rfl rfl rfl (fun _ _ h => h) rfl fun cdv A outer s H E2 hr => ⟨_, dss_cons (ds_ret (de_all (K := K) rfl rfl rfl E.z_all (dbs_cons (DN.b (dn_lc (own := [("place", 1)]) [1] rfl sc_is_zigzag.nd (dj_range1 rfl E.z_range (dbs_cons (DE.b (de_sub (DE.b (de_len (K := K) rfl rfl E.z_len (dbs_cons (DE.b (de_var 0 (pv 0))) (dbs_nil)))) (DE.b (de_c (.int 1) pe_int)))) (dbs_nil))) (blkOk_by (by rfl)) (fun _ _ _ _ _ => dg_name (pg_name (i := 1) sc_is_zigzag.nd rfl (by first | exact Or.inl rfl | exact Or.inr rfl))) (fun _ _ _ _ _ => dts_nil) (fun _ _ _ _ _ => de_eq (K := K) rfl hr (DE.b (de_lt (K := K) rfl hr (DE.b (de_ix (K := K) rfl (DE.b (de_var 0 (pv 0))) (DE.b (de_var 1 (pv 1))) (fun _ _ => rfl))) (DE.b (de_ix (K := K) rfl (DE.b (de_var 0 (pv 0))) (DE.b (de_add (K := K) rfl (DE.b (de_var 1 (pv 1))) (DE.b (de_c (.int 1) pe_int)))) (fun _ _ => rfl))) (nomark _))) (DE.b (de_eq (K := K) rfl hr (DE.b (de_mod (DE.b (de_var 1 (pv 1))) (DE.b (de_c (.int 2) pe_int)))) (DE.b (de_c (.int 0) pe_int)) (nomark _))) (nomark _)) tw_name)) (dbs_nil))) (hr := (subO_lk trivial))) dss_nil⟩
def d_zigzag_count : List D → M D := runR (gSeq (gSetN 1 (eLst (aCons (eC (.int 1)) (aCons (eC (.int 1)) aNil)))) (gSeq (gFor (iRange2 (aCons (eC (.int 1)) (aCons (eVar 0) aNil))) (kName 2) (gSeq (gSetN 3 (eC (.int 0))) (gSeq (gFor (iRange1 (aCons (eBin addD (eVar 2) (eC (.int 1))) aNil)) (kName 4) (gSeq (gSetN 3 (eBin addD (eVar 3) (eBin mulD (eBin mulD (eCall d_choose (aCons (eVar 2) (aCons (eVar 4) aNil))) (eBin ixD (eVar 1) (eVar 4))) (eBin ixD (eVar 1) (eBin subD (eVar 2) (eVar 4)))))) gNil)) (gSeq (gExprE (eMeth 1 appG (aLift (aCons (eBin fdivD (eVar 3) (eC (.int 2))) aNil)))) gNil)))) (gSeq (gRet (eBin ixD (eVar 1) (eVar 0))) gNil))) 4
theorem ok_zigzag_count (E : GE K mg) : FnG P w K mg base CX0 2 E.f_zigzag_count E.fd_zigzag_count ["many"] (spR K 1 [] (d_zigzag_count)) :=
  fn_R (kp := []) (o' := []) E.F_zigzag_count sc_zigzag_count rfl rfl rfl (fun _ _ h => h) rfl fun cdv A outer s H E2 hr => ⟨_, dss_cons (ds_new (i := 1) sc_zigzag_count.nd (dn_lst (dfs_cons (de_c (.int 1) pe_int) (dfs_cons (de_c (.int 1) pe_int) (dfs_nil))))) (dss_cons (ds_for PassesOwn.never rfl (dj_range2 rfl E.z_range (dbs_cons (DE.b (de_c (.int 1) pe_int)) (dbs_cons (DE.b (de_var 0 (pv 0))) (dbs_nil)))) (dg_name (pg_name (i := 2) sc_zigzag_count.nd rfl (by first | exact Or.inl rfl | exact Or.inr rfl))) (dss_cons (ds_def (i := 3) sc_zigzag_count.nd (de_c (.int 0) pe_int)) (dss_cons (ds_for PassesOwn.never rfl (dj_range1 rfl E.z_range (dbs_cons (DE.b (de_add (K := K) rfl (DE.b (de_var 2 (pv 2))) (DE.b (de_c (.int 1) pe_int)))) (dbs_nil))) (dg_name (pg_name (i := 4) sc_zigzag_count.nd rfl (by first | exact Or.inl rfl | exact Or.inr rfl))) (dss_cons (ds_def (i := 3) sc_zigzag_count.nd (de_add (K := K) rfl (DE.b (de_var 3 (pv 3))) (DE.b (de_mul (DE.b (de_mul (DE.b (kde_call (K := K) rfl (ok_choose E) (hr.mono (by decide)) rfl E.m_choose E.F_choose.kp E.b_choose (dcs_cons (de_var 2 (pv 2)) (dcs_cons (de_var 4 (pv 4)) (dcs_nil))) (fits_pure rfl))) (DE.b (de_ix (K := K) rfl ((db_own 1 (pv 1))) (DE.b (de_var 4 (pv 4))) (fun _ _ => rfl))))) (DE.b (de_ix (K := K) rfl ((db_own 1 (pv 1))) (DE.b (de_sub (DE.b (de_var 2 (pv 2))) (DE.b (de_var 4 (pv 4))))) (fun _ _ => rfl))))))) (dss_nil))) (dss_cons (ds_exprE (kdee_app (K := K) rfl (pv 1) (DFs.lift (dfs_cons (de_div (DE.b (de_var 3 (pv 3))) (DE.b (de_c (.int 2) pe_int))) dfs_nil)))) (dss_nil))))) (dss_cons (ds_ret (de_ix (K := K) rfl ((db_own 1 (pv 1))) (DE.b (de_var 0 (pv 0))) (fun _ _ => rfl)) (hr := (subO_lk trivial))) dss_nil))⟩
def d_bracket_count : List D → M D := runR (gSeq (gRet (eBin fdivD (eCall d_choose (aCons (eBin mulD (eC (.int 2)) (eVar 0)) (aCons (eVar 0) aNil))) (eBin addD (eVar 0) (eC (.int 1))))) gNil) 0
theorem ok_bracket_count (E : GE K mg) : FnG P w K mg base CX0 2 E.f_bracket_count E.fd_bracket_count ["number"] (spR K 1 [] (d_bracket_count)) :=
  fn_R (kp := []) (o' := []) E.F_bracket_count sc_bracket_count rfl rfl rfl (fun _ _ h => h) rfl fun cdv A outer s H E2 hr => ⟨_, dss_cons (ds_ret (de_div (DE.b (kde_call (K := K) rfl (ok_choose E) (hr.mono (by decide)) rfl E.m_choose E.F_choose.kp E.b_choose (dcs_cons (de_mul (DE.b (de_c (.int 2) pe_int)) (DE.b (de_var 0 (pv 0)))) (dcs_cons (de_var 0 (pv 0)) (dcs_nil))) (fits_pure rfl))) (DE.b (de_add (K := K) rfl (DE.b (de_var 0 (pv 0))) (DE.b (de_c (.int 1) pe_int))))) (hr := (subO_lk trivial))) dss_nil⟩
def d_zigzag_three_count : List D → M D := runR (gSeq (gIf (eTest (eBin inD (eVar 0) (eTup (aCons (eTup (aCons (eC (.int 0)) (aCons (eC (.int 1)) (aCons (eC (.int 2)) aNil)))) (aCons (eTup (aCons (eC (.int 1)) (aCons (eC (.int 0)) (aCons (eC (.int 2)) aNil)))) (aCons (eTup (aCons (eC (.int 2)) (aCons (eC (.int 0)) (aCons (eC (.int 1)) aNil)))) aNil)))))) (gSeq (gRet (eCall d_bracket_count (aCons (eBin fdivD (eBin addD (eVar 1) (eC (.int 1))) (eC (.int 2))) aNil))) gNil) gNil) (gSeq (gIf (eTest (eBin inD (eVar 0) (eTup (aCons (eTup (aCons (eC (.int 0)) (aCons (eC (.int 2)) (aCons (eC (.int 1)) aNil)))) (aCons (eTup (aCons (eC (.int 1)) (aCons (eC (.int 2)) (aCons (eC (.int 0)) aNil)))) aNil))))) (gSeq (gRet (eCall d_bracket_count (aCons (eBin fdivD (eVar 1) (eC (.int 2))) aNil))) gNil) gNil) (gSeq (gRet (eIf (eTest (eBin gtD (eVar 1) (eC (.int 2)))) (eCall d_bracket_count (aCons (eBin addD (eBin fdivD (eVar 1) (eC (.int 2))) (eC (.int 1))) aNil)) (eC (.int 1)))) gNil))) 0
theorem ok_zigzag_three_count (E : GE K mg) : FnG P w K mg base CX0 3 E.f_zigzag_three_count E.fd_zigzag_three_count ["p", "many"] (spR K 2 [] (d_zigzag_three_count)) :=
  fn_R (kp := []) (o' := []) E.F_zigzag_three_count sc_zigzag_three_count rfl rfl rfl (fun _ _ h => h) rfl fun cdv A outer s H E2 hr => ⟨_, dss_cons (ds_if (dt_in (K := K) rfl hr (DE.b (de_var 0 (pv 0))) (DE.b (de_tup (dfs_cons (de_tup (dfs_cons (de_c (.int 0) pe_int) (dfs_cons (de_c (.int 1) pe_int) (dfs_cons (de_c (.int 2) pe_int) (dfs_nil))))) (dfs_cons (de_tup (dfs_cons (de_c (.int 1) pe_int) (dfs_cons (de_c (.int 0) pe_int) (dfs_cons (de_c (.int 2) pe_int) (dfs_nil))))) (dfs_cons (de_tup (dfs_cons (de_c (.int 2) pe_int) (dfs_cons (de_c (.int 0) pe_int) (dfs_cons (de_c (.int 1) pe_int) (dfs_nil))))) (dfs_nil)))))) (by rfl)) (dss_cons (ds_ret (kde_call (K := K) rfl (ok_bracket_count E) (hr.mono (by decide)) rfl E.m_bracket_count E.F_bracket_count.kp E.b_bracket_count (dcs_cons (de_div (DE.b (de_add (K := K) rfl (DE.b (de_var 1 (pv 1))) (DE.b (de_c (.int 1) pe_int)))) (DE.b (de_c (.int 2) pe_int))) (dcs_nil)) (fits_pure rfl)) (hr := (subO_lk trivial))) dss_nil) (dss_nil)) (dss_cons (ds_if (dt_in (K := K) rfl hr (DE.b (de_var 0 (pv 0))) (DE.b (de_tup (dfs_cons (de_tup (dfs_cons (de_c (.int 0) pe_int) (dfs_cons (de_c (.int 2) pe_int) (dfs_cons (de_c (.int 1) pe_int) (dfs_nil))))) (dfs_cons (de_tup (dfs_cons (de_c (.int 1) pe_int) (dfs_cons (de_c (.int 2) pe_int) (dfs_cons (de_c (.int 0) pe_int) (dfs_nil))))) (dfs_nil))))) (by rfl)) (dss_cons (ds_ret (kde_call (K := K) rfl (ok_bracket_count E) (hr.mono (by decide)) rfl E.m_bracket_count E.F_bracket_count.kp E.b_bracket_count (dcs_cons (de_div (DE.b (de_var 1 (pv 1))) (DE.b (de_c (.int 2) pe_int))) (dcs_nil)) (fits_pure rfl)) (hr := (subO_lk trivial))) dss_nil) (dss_nil)) (dss_cons (ds_ret (de_if (dt_gt (K := K) rfl hr (DE.b (de_var 1 (pv 1))) (DE.b (de_c (.int 2) pe_int)) (nomark _)) (kde_call (K := K) rfl (ok_bracket_count E) (hr.mono (by decide)) rfl E.m_bracket_count E.F_bracket_count.kp E.b_bracket_count (dcs_cons (de_add (K := K) rfl (DE.b (de_div (DE.b (de_var 1 (pv 1))) (DE.b (de_c (.int 2) pe_int)))) (DE.b (de_c (.int 1) pe_int))) (dcs_nil)) (fits_pure rfl)) (de_c (.int 1) pe_int)) (hr := (subO_lk trivial))) dss_nil))⟩
def d_with_last : List D → M D := runR (gSeq (gRet (eBin addD (eCall tupleD (aCons (eComp (iSeq (eVar 0)) [2] (kName 2) tYesD (eBin addD (eVar 2) (eCall intD (aCons (eBin geD (eVar 2) (eVar 1)) aNil)))) aNil)) (eTup (aCons (eVar 1) aNil)))) gNil) 1
theorem ok_with_last (E : GE K mg) : FnG P w K mg base CX0 1 E.f_with_last E.fd_with_last ["row", "item"] (spR K 2 [] (d_with_last)) :=
  fn_R (kp := []) (o' := []) E.F_with_last sc_with_last rfl rfl rfl (fun _ _ h => h) rfl fun cdv A outer s H E2 hr => ⟨_, dss_cons (ds_ret (de_add (K := K) rfl (DE.b (de_tuple (K := K) rfl rfl E.z_tuple (dbs_cons (DN.b (dn_lc (own := [("own", 2)]) [2] rfl sc_with_last.nd (kdj_seq (K := K) rfl (de_var 0 (pv 0))) (blkOk_by (by rfl)) (fun _ _ _ _ _ => dg_name (pg_name (i := 2) sc_with_last.nd rfl (by first | exact Or.inl rfl | exact Or.inr rfl))) (fun _ _ _ _ _ => dts_nil) (fun _ _ _ _ _ => de_add (K := K) rfl (DE.b (de_var 2 (pv 2))) (DE.b (de_int rfl E.z_int (dbs_cons (DE.b (de_ge (K := K) rfl hr (DE.b (de_var 2 (pv 2))) (DE.b (de_var 1 (pv 1))) (nomark _))) (dbs_nil))))) tw_name)) (dbs_nil)))) (DE.b (de_tup (dfs_cons (de_var 1 (pv 1)) (dfs_nil))))) (hr := (subO_lk trivial))) dss_nil⟩
def d_zigzag_three_rows : List D → M D := runR (gSeq (gIf (eTest (eBin gtD (eCall d_zigzag_three_count (aCons (eVar 0) (aCons (eVar 1) aNil))) (eC (.int 500)))) (gSeq gNever gNil) gNil) (gSeq (gSetN 2 (eLst (aCons (eTup aNil) aNil))) (gSeq (gFor (iRange1 (aCons (eVar 1) aNil)) (kName 3) (gSeq (gSetN 4 (eLst aNil)) (gSeq (gFor (iSeq (eVar 2)) (kName 5) (gSeq (gSetN 6 (eComp (iRange1 (aCons (eBin addD (eVar 3) (eC (.int 1))) aNil)) [7] (kName 7) tYesD (eCall d_with_last (aCons (eVar 5) (aCons (eVar 7) aNil))))) (gSeq (gExprE (eMethB 4 extG (aCons (eComp (iSeq (eVar 6)) [8] (kName 8) (tAndD (eTest (eCall d_is_zigzag (aCons (eVar 8) aNil))) (tNotD (eTest (eCall d_is_within (aCons (eVar 0) (aCons (eVar 8) aNil)))))) (eVar 8)) aNil))) gNil))) (gSeq (gSetN 2 (eVar 4)) gNil)))) (gSeq (gRet (eCall tupleD (aCons (eCall sortedD (aCons (eVar 2) aNil)) aNil))) gNil)))) 7
theorem ok_zigzag_three_rows (E : GE K mg) : FnG P w K mg base CX0 18 E.f_zigzag_three_rows E.fd_zigzag_three_rows ["p", "many"] (spR K 2 [] (d_zigzag_three_rows)) :=
  fn_R (kp := []) (o' := []) E.F_zigzag_three_rows sc_zigzag_three_rows rfl rfl rfl (fun _ _ h => h) rfl fun cdv A outer s H E2 hr => ⟨_, dss_cons (ds_if (dt_gt (K := K) rfl hr (DE.b (kde_call (K := K) rfl (ok_zigzag_three_count E) (hr.mono (by decide)) rfl E.m_zigzag_three_count E.F_zigzag_three_count.kp E.b_zigzag_three_count (dcs_cons (de_var 0 (pv 0)) (dcs_cons (de_var 1 (pv 1)) (dcs_nil))) (fits_pure rfl))) (DE.b (de_globI rfl E.g_MAX_LISTED)) (nomark _)) (dss_cons (ds_never) dss_nil) (dss_nil)) (dss_cons (ds_def (i := 2) sc_zigzag_three_rows.nd (DN.fr (dn_lst (dfs_cons (de_tup (dfs_nil)) (dfs_nil))))) (dss_cons (ds_for PassesOwn.never rfl (dj_range1 rfl E.z_range (dbs_cons (DE.b (de_var 1 (pv 1))) (dbs_nil))) (dg_name (pg_name (i := 3) sc_zigzag_three_rows.nd rfl (by first | exact Or.inl rfl | exact Or.inr rfl))) (dss_cons (ds_new (i := 4) sc_zigzag_three_rows.nd (dn_lst (dfs_nil))) (dss_cons (ds_for PassesOwn.never rfl (kdj_seq (K := K) rfl (de_var 2 (pv 2))) (dg_name (pg_name (i := 5) sc_zigzag_three_rows.nd rfl (by first | exact Or.inl rfl | exact Or.inr rfl))) (dss_cons (ds_lcF (i := 6) (own := [("item", 7)]) [7] rfl sc_zigzag_three_rows.nd (dj_range1 rfl E.z_range (dbs_cons (DE.b (de_add (K := K) rfl (DE.b (de_var 3 (pv 3))) (DE.b (de_c (.int 1) pe_int)))) (dbs_nil))) (blkOk_by (by rfl)) (fun _ _ _ _ _ => dg_name (pg_name (i := 7) sc_zigzag_three_rows.nd rfl (by first | exact Or.inl rfl | exact Or.inr rfl))) (fun _ _ _ _ _ => dts_nil) (fun _ _ _ _ _ => kde_call (K := K) rfl (ok_with_last E) (hr.mono (by decide)) rfl E.m_with_last E.F_with_last.kp E.b_with_last (dcs_cons (de_var 5 (pv 5)) (dcs_cons (de_var 7 (pv 7)) (dcs_nil))) (fits_pure rfl)) tw_name) (dss_cons (ds_exprE (kdee_ext (K := K) rfl (pv 4) (dbs_cons (DN.b (dn_lc (own := [("own", 8)]) [8] rfl sc_zigzag_three_rows.nd (kdj_seq (K := K) rfl (de_var 6 (pv 6))) (blkOk_by (by rfl)) (fun _ _ _ _ _ => dg_name (pg_name (i := 8) sc_zigzag_three_rows.nd rfl (by first | exact Or.inl rfl | exact Or.inr rfl))) (fun _ _ _ _ _ => dts_one (DW.t ((dw_and (dt_val (kde_call (K := K) rfl (ok_is_zigzag E) (hr.mono (by decide)) rfl E.m_is_zigzag E.F_is_zigzag.kp E.b_is_zigzag (dcs_cons (de_var 8 (pv 8)) (dcs_nil)) (fits_pure rfl))) (dw_and1 (dt_not (dt_val (kde_call (K := K) rfl (ok_is_within E) (hr.mono (by decide)) rfl E.m_is_within E.F_is_within.kp E.b_is_within (dcs_cons (de_var 0 (pv 0)) (dcs_cons (de_var 8 (pv 8)) (dcs_nil))) (fits_pure rfl))))))))) (fun _ _ _ _ _ => de_var 8 (pv 8)) tw_name)) (dbs_nil)))) (dss_nil)))) (dss_frz 4 (dss_cons (ds_def (i := 2) sc_zigzag_three_rows.nd (de_var 4 (pv 4))) (dss_nil)))))) (dss_cons (ds_ret (de_tuple (K := K) rfl rfl E.z_tuple (dbs_cons (DN.b (dn_sorted (K := K) rfl hr rfl E.z_sorted (dbs_cons (DE.b (de_var 2 (pv 2))) (dbs_nil)))) (dbs_nil))) (hr := (subO_lk trivial))) dss_nil)))⟩
theorem ok__law_bag (E : GE K mg) {ns : List Int} {ob : Obj} (hns : ns.length ≤ 63) : FnG P w K mg base CX0 1 E.f__law_bag E.fd__law_bag ["script"] (spBag K bagR ns ob) := by
  refine funG_ok E.F__law_bag sc__law_bag (fun vs H Q E2 h => ?_) (fun cdv A outer s H vs Q E2 hr h => ?_)
  · obtain ⟨v, S, rfl, _⟩ := h
    rfl
  · obtain ⟨v, S, rfl, hS, hne, q⟩ := h
    have e1 : ∃ t, DS (cxOf CX0 P w K mg base ["script", "cells", "mixed", "cell"] "_law_bag" (defScope s__law_bag) E.f__law_bag cdv A outer s H E2).nox ⟨[0], [(0, .raw (scR ns ob))]⟩ [] [(0, .raw (scR ns ob))] ((defBody s__law_bag).getD 0 (.Pass ⟨0, 0, 0, 0⟩)) [(0, .raw (scR ns ob))] (gBag1 ns) t := ⟨_, ds_lcF (i := 1) (own := [("cell", 3)]) [3] rfl sc__law_bag.nd (kdj_seq (K := K) rfl (de_scr (ns := ns) (ob := ob) (pv 0) pe_int rfl hns)) (blkOk_by (by rfl)) (fun _ _ _ _ _ => dg_name (pg_name (i := 3) sc__law_bag.nd rfl (by first | exact Or.inl rfl | exact Or.inr rfl))) (fun _ _ _ _ _ => dts_nil) (fun _ _ _ _ _ => de_abs rfl E.z_abs (dbs_cons (DE.b (de_var 3 (pv 3))) dbs_nil)) tw_name⟩
    have e2 : ∃ t, DS (cxOf CX0 P w K mg base ["script", "cells", "mixed", "cell"] "_law_bag" (defScope s__law_bag) E.f__law_bag cdv A outer s H E2).nox ⟨[0], [(0, .raw (scR ns ob))]⟩ [] [(0, .raw (scR ns ob))] ((defBody s__law_bag).getD 1 (.Pass ⟨0, 0, 0, 0⟩)) [(0, .raw (scR ns ob))] gBag2 t := ⟨_, ds_def (i := 2) sc__law_bag.nd (de_add (K := K) rfl (DE.b (de_c (.int 16253) pe_int)) (DE.b (de_len (K := K) rfl rfl E.z_len (dbs_cons (DE.b (de_var 1 (pv 1))) dbs_nil))))⟩
    have e3 : ∃ t, DS (cxOf CX0 P w K mg base ["script", "cells", "mixed", "cell"] "_law_bag" (defScope s__law_bag) E.f__law_bag cdv A outer s H E2).nox ⟨[0], [(0, .raw (scR ns ob))]⟩ [] [(0, .raw (scR ns ob))] ((defBody s__law_bag).getD 2 (.Pass ⟨0, 0, 0, 0⟩)) [(0, .raw (scR ns ob))] gBag3 t := ⟨_, ds_for PassesOwn.never rfl (kdj_seq (K := K) rfl (de_var 1 (pv 1))) (dg_name (pg_name (i := 3) sc__law_bag.nd rfl (by first | exact Or.inl rfl | exact Or.inr rfl))) (dss_cons (ds_def (i := 2) sc__law_bag.nd (de_mod (DE.b (de_int rfl E.z_int (dbs_cons (DE.b (de_add (K := K) rfl (DE.b (de_add (K := K) rfl (DE.b (de_mul (DE.b (de_var 2 (pv 2))) (DE.b (de_c (.int 48271) pe_int)))) (DE.b (de_mod (DE.b (de_int rfl E.z_int (dbs_cons (DE.b (de_var 3 (pv 3))) dbs_nil))) (DE.b (de_c (.int 2147483629) pe_int)))))) (DE.b (de_c (.int 5) pe_int)))) dbs_nil))) (DE.b (de_c (.int 2147483647) pe_int)))) dss_nil)⟩
    obtain ⟨t1, d1⟩ := e1
    obtain ⟨t2, d2⟩ := e2
    obtain ⟨t3, d3⟩ := e3
    have l1 : PSs (cxOf CX0 P w K mg base ["script", "cells", "mixed", "cell"] "_law_bag" (defScope s__law_bag) E.f__law_bag cdv A outer s H E2).nox [((defBody s__law_bag).getD 3 (.Pass ⟨0, 0, 0, 0⟩))] (tBagEnd K) := pss_cons (ps_ret (pe_lst (pa_cons (pe_revL (pv 1)) (pa_cons pe_int (pa_cons (pv 2) pa_nil))))) pss_nil
    have w1 : PSs (cxOf CX0 P w K mg base ["script", "cells", "mixed", "cell"] "_law_bag" (defScope s__law_bag) E.f__law_bag cdv A outer s H E2).nox (defBody s__law_bag) (tSeq t1 (tSeq t2 (tSeq t3 (tBagEnd K)))) := pss_cons d1.p (pss_cons d2.p (pss_cons d3.p l1))
    exact ⟨_, w1.nox, bag_end rfl hns (dss_cons d1 (dss_cons d2 (dss_cons d3 dss_nil))) hS hne q⟩
def d__law_draw : List D → M D := drawD
theorem ok__law_draw (E : GE K mg) : FnG P w K mg base CX0 1 E.f__law_draw E.fd__law_draw ["bag", "below"] (spR K 2 [(0, .raw bagR)] d__law_draw) :=
  draw_fn E.F__law_draw sc__law_draw rfl rfl fun cdv A outer s H E2 hr => PSs.nox (
    pss_cons (ps_while PassesOwn.never (PW.pt (pw_and (pt_cmpR (op_eqX hr.r) (pe_ix ix_seq (pv 0) pe_int (fun _ _ => rfl)) pe_int (nomark _)) (pw_and1 (pt_cmpR (op_neX hr.r) (pe_ix ix_seq (pv 0) pe_int (fun _ _ => rfl)) (pe_lst pa_nil) (nomark _)))))
      (pss_cons (ps_set (i := 2) sc__law_draw.nd rfl (.inl rfl) (pe_bm0 PySem.F.plainAttrs_list PySem.F.slot_list_pop PySem.F.type_list_pop mt_pop (pe_ix ix_seq (pv 0) pe_int (fun _ _ => rfl))))
      (pss_cons (ps_asg (pe_ifExp (pt_cmpR op_gt (pv 2) (pe_op op_pow pe_int pe_int) (nomark _)) (pv 2) pe_int) (pg_sub (pv 0) pe_int set_list)) pss_nil)))
    (pss_cons (ps_if (pt_cmpR op_gt (pe_ix ix_seq (pv 0) pe_int (fun _ _ => rfl)) pe_int (nomark _))
      (pss_cons (ps_set (i := 3) sc__law_draw.nd rfl (.inl rfl) (pe_op op_modN (pe_callTy call_int1 rfl E.z_int boot_int (pa_cons (pe_ix ix_seq (pv 0) pe_int (fun _ _ => rfl)) pa_nil)) (pv 1)))
      (pss_cons (ps_asg (pe_op op_fdivN (pe_ix ix_seq (pv 0) pe_int (fun _ _ => rfl)) (pv 1)) (pg_sub (pv 0) pe_int set_list))
      (pss_cons (ps_ret (pv 3)) pss_nil))) pss_nil)
    (pss_cons (ps_asg (pe_op op_modN (pe_callTy call_int1 rfl E.z_int boot_int (pa_cons (pe_op op_add (pe_op op_mul (pe_ix ix_seq (pv 0) pe_int (fun _ _ => rfl)) pe_int) pe_int) pa_nil)) pe_int) (pg_sub (pv 0) pe_int set_list))
    (pss_cons (ps_ret (pe_op op_modN (pe_callTy call_int1 rfl E.z_int boot_int (pa_cons (pe_op op_fdivN (pe_op op_modN (pe_callTy call_int1 rfl E.z_int boot_int (pa_cons (pe_op op_mul (pe_ix ix_seq (pv 0) pe_int (fun _ _ => rfl)) (pe_ix ix_seq (pv 0) pe_int (fun _ _ => rfl))) pa_nil)) pe_int) pe_int) pa_nil)) (pv 1))) pss_nil))))
def d__law_pick : List D → M D := runR (gSeq (gRet (eBin ixD (eVar 1) (eCall d__law_draw (aCons (eVar 0) (aCons (eCall lenD (aCons (eVar 1) aNil)) aNil))))) gNil) 0
theorem ok__law_pick (E : GE K mg) : FnG P w K mg base CX0 2 E.f__law_pick E.fd__law_pick ["bag", "some"] (spR K 2 [(0, .raw bagR)] (d__law_pick)) :=
  fn_R (kp := [0]) (o' := [(0, .raw bagR)]) E.F__law_pick sc__law_pick rfl rfl rfl (fun _ _ h => h) rfl fun cdv A outer s H E2 hr => ⟨_, dss_cons (ds_ret (de_ix (K := K) rfl (DE.b (de_var 1 (pv 1))) (DE.b (kde_call (K := K) rfl (ok__law_draw E) (hr.mono (by decide)) rfl E.m__law_draw E.F__law_draw.kp E.b__law_draw (dcs_own 0 (pv 0) (dcs_cons (de_len (K := K) rfl rfl E.z_len (dbs_cons (DE.b (de_var 1 (pv 1))) (dbs_nil))) (dcs_nil))) (fits_one (i0 := 0) (j := 0) (kd := .raw bagR) rfl rfl rfl))) (fun _ _ => rfl)) (hr := (subO_lk ⟨rfl, trivial⟩))) dss_nil⟩
def d__law_row : List D → M D := runR (gSeq (gPar 2 3 (eLstRg (rg1 (eVar 1))) (eLst aNil)) (gSeq (whileN (eTest (eBin neD (eVar 2) (eLst aNil))) (gSeq (gExprE (eMeth 3 appG (aOne (eMeth 2 popAtG (aLift (aCons (eCall d__law_draw (aCons (eVar 0) (aCons (eCall lenD (aCons (eVar 2) aNil)) aNil))) aNil)))))) gNil) 12) (gSeq (gRet (eCall tupleD (aCons (eVar 3) aNil))) gNil))) 2
theorem ok__law_row (E : GE K mg) : FnG P w K mg base CX0 2 E.f__law_row E.fd__law_row ["bag", "many"] (spR K 2 [(0, .raw bagR)] (d__law_row)) :=
  fn_R (kp := [0]) (o' := [(0, .raw bagR)]) E.F__law_row sc__law_row rfl rfl rfl (fun _ _ h => h) rfl fun cdv A outer s H E2 hr => ⟨_, dss_cons (ds_par2 (i := 2) (j := 3) rfl sc__law_row.nd (DN.v (dn_listRg rfl rfl E.z_list (drg_1 rfl E.z_range (DE.b (de_var 1 (pv 1)))))) (DN.v (dn_lst (dfs_nil)))) (dss_cons (ds_while 12 PassesOwn.never (dt_ne (K := K) rfl hr ((db_own 2 (pv 2))) (DN.b (dn_lst (dfs_nil))) (nomark _)) (dss_cons (ds_exprE (kdee_app (K := K) rfl (pv 3) (dfe_one (kdee_popAt (K := K) rfl (pv 2) (DFs.lift (dfs_cons (kde_call (K := K) rfl (ok__law_draw E) (hr.mono (by decide)) rfl E.m__law_draw E.F__law_draw.kp E.b__law_draw (dcs_own 0 (pv 0) (dcs_cons (de_len (K := K) rfl rfl E.z_len (dbs_cons ((db_own 2 (pv 2))) (dbs_nil))) (dcs_nil))) (fits_one (i0 := 0) (j := 0) (kd := .raw bagR) rfl rfl rfl)) dfs_nil)))))) (dss_nil))) (dss_cons (ds_ret (de_tuple (K := K) rfl rfl E.z_tuple (dbs_cons ((db_own 3 (pv 3))) (dbs_nil))) (hr := (subO_lk ⟨rfl, trivial⟩))) dss_nil))⟩
def d__law_like : List D → M D := runR (gSeq (gSetN 1 (eCall sortedD (aCons (eVar 0) aNil))) (gSeq (gRet (eCall tupleD (aCons (eComp (iSeq (eVar 0)) [2] (kName 2) tYesD (eIndex (eVar 1) (eVar 2))) aNil))) gNil)) 2
theorem ok__law_like (E : GE K mg) : FnG P w K mg base CX0 1 E.f__law_like E.fd__law_like ["items"] (spR K 1 [] (d__law_like)) :=
  fn_R (kp := []) (o' := []) E.F__law_like sc__law_like rfl rfl rfl (fun _ _ h => h) rfl fun cdv A outer s H E2 hr => ⟨_, dss_cons (ds_def (i := 1) sc__law_like.nd (DN.fr (dn_sorted (K := K) rfl hr rfl E.z_sorted (dbs_cons (DE.b (de_var 0 (pv 0))) (dbs_nil))))) (dss_cons (ds_ret (de_tuple (K := K) rfl rfl E.z_tuple (dbs_cons (DN.b (dn_lc (own := [("item", 2)]) [2] rfl sc__law_like.nd (kdj_seq (K := K) rfl (de_var 0 (pv 0))) (blkOk_by (by rfl)) (fun _ _ _ _ _ => dg_name (pg_name (i := 2) sc__law_like.nd rfl (by first | exact Or.inl rfl | exact Or.inr rfl))) (fun _ _ _ _ _ => dts_nil) (fun _ _ _ _ _ => kde_index (K := K) rfl hr (DE.b (de_var 1 (pv 1))) (DE.b (de_var 2 (pv 2)))) tw_name)) (dbs_nil))) (hr := (subO_lk trivial))) dss_nil)⟩
def d__law_lots : List D → M D := runR (gSeq (gSetN 2 (eLst (aCons (eTup aNil) aNil))) (gSeq (gFor (iRange1 (aCons (eVar 1) aNil)) (kName 3) (gSeq (gSetN 4 (eLst aNil)) (gSeq (gFor (iSeq (eVar 2)) (kName 5) (gSeq (gExprE (eMethB 4 extG (aCons (eComp (iRange2 (aCons (eIf (eTest (eBin neD (eVar 5) (eTup aNil))) (eBin addD (eBin ixD (eVar 5) (eUn negD (eC (.int 1)))) (eC (.int 1))) (eC (.int 0))) (aCons (eVar 0) aNil))) [6] (kName 6) tYesD (eBin addD (eVar 5) (eTup (aCons (eVar 6) aNil)))) aNil))) gNil)) (gSeq (gSetN 2 (eCall listD (aCons (eVar 4) aNil))) gNil)))) (gSeq (gRet (eVar 2)) gNil))) 5
theorem ok__law_lots (E : GE K mg) : FnG P w K mg base CX0 1 E.f__law_lots E.fd__law_lots ["many", "few"] (spR K 2 [] (d__law_lots)) :=
  fn_R (kp := []) (o' := []) E.F__law_lots sc__law_lots rfl rfl rfl (fun _ _ h => h) rfl fun cdv A outer s H E2 hr => ⟨_, dss_cons (ds_def (i := 2) sc__law_lots.nd (DN.fr (dn_lst (dfs_cons (de_tup (dfs_nil)) (dfs_nil))))) (dss_cons (ds_for PassesOwn.never rfl (dj_range1 rfl E.z_range (dbs_cons (DE.b (de_var 1 (pv 1))) (dbs_nil))) (dg_name (pg_name (i := 3) sc__law_lots.nd rfl (by first | exact Or.inl rfl | exact Or.inr rfl))) (dss_cons (ds_new (i := 4) sc__law_lots.nd (dn_lst (dfs_nil))) (dss_cons (ds_for PassesOwn.never rfl (kdj_seq (K := K) rfl (de_var 2 (pv 2))) (dg_name (pg_name (i := 5) sc__law_lots.nd rfl (by first | exact Or.inl rfl | exact Or.inr rfl))) (dss_cons (ds_exprE (kdee_ext (K := K) rfl (pv 4) (dbs_cons (DN.b (dn_lc (own := [("item", 6)]) [6] rfl sc__law_lots.nd (dj_range2 rfl E.z_range (dbs_cons (DE.b (de_if (dt_ne (K := K) rfl hr (DE.b (de_var 5 (pv 5))) (DE.b (de_tup (dfs_nil))) (nomark _)) (de_add (K := K) rfl (DE.b (de_ix (K := K) rfl (DE.b (de_var 5 (pv 5))) (DE.b (de_neg (de_c (.int 1) pe_int))) (fun _ _ => rfl))) (DE.b (de_c (.int 1) pe_int))) (de_c (.int 0) pe_int))) (dbs_cons (DE.b (de_var 0 (pv 0))) (dbs_nil)))) (blkOk_by (by rfl)) (fun _ _ _ _ _ => dg_name (pg_name (i := 6) sc__law_lots.nd rfl (by first | exact Or.inl rfl | exact Or.inr rfl))) (fun _ _ _ _ _ => dts_nil) (fun _ _ _ _ _ => de_add (K := K) rfl (DE.b (de_var 5 (pv 5))) (DE.b (de_tup (dfs_cons (de_var 6 (pv 6)) (dfs_nil))))) tw_name)) (dbs_nil)))) (dss_nil))) (dss_cons (ds_def (i := 2) sc__law_lots.nd (DN.fr (dn_list (K := K) rfl rfl E.z_list (dbs_cons ((db_own 4 (pv 4))) (dbs_nil))))) (dss_frz 4 (dss_nil)))))) (dss_cons (ds_ret (de_var 2 (pv 2)) (hr := (subO_lk trivial))) dss_nil))⟩
def d__law_choose : List D → M D := runR (gSeq (gIf (tOrD (eTest (eBin ltD (eVar 1) (eC (.int 0)))) (eTest (eBin gtD (eVar 1) (eVar 0)))) (gSeq (gRet (eC (.int 0))) gNil) gNil) (gSeq (gSetN 2 (eC (.int 1))) (gSeq (gFor (iRange1 (aCons (eCall min2D (aCons (eVar 1) (aCons (eBin subD (eVar 0) (eVar 1)) aNil))) aNil)) (kName 3) (gSeq (gSetN 2 (eBin fdivD (eBin mulD (eVar 2) (eBin subD (eVar 0) (eVar 3))) (eBin addD (eVar 3) (eC (.int 1))))) gNil)) (gSeq (gRet (eVar 2)) gNil)))) 2
theorem ok__law_choose (E : GE K mg) : FnG P w K mg base CX0 1 E.f__law_choose E.fd__law_choose ["many", "few"] (spR K 2 [] (d__law_choose)) :=
  fn_R (kp := []) (o' := []) E.F__law_choose sc__law_choose rfl rfl rfl (fun _ _ h => h) rfl fun cdv A outer s H E2 hr => ⟨_, dss_cons (ds_if (DW.t ((dw_or (dt_lt (K := K) rfl hr (DE.b (de_var 1 (pv 1))) (DE.b (de_c (.int 0) pe_int)) (nomark _)) (dw_or1 (dt_gt (K := K) rfl hr (DE.b (de_var 1 (pv 1))) (DE.b (de_var 0 (pv 0))) (nomark _)))))) (dss_cons (ds_ret (de_c (.int 0) pe_int) (hr := (subO_lk trivial))) dss_nil) (dss_nil)) (dss_cons (ds_def (i := 2) sc__law_choose.nd (de_c (.int 1) pe_int)) (dss_cons (ds_for PassesOwn.never rfl (dj_range1 rfl E.z_range (dbs_cons (DE.b (de_min rfl rfl E.z_min (dbs_cons (DE.b (de_var 1 (pv 1))) (dbs_cons (DE.b (de_sub (DE.b (de_var 0 (pv 0))) (DE.b (de_var 1 (pv 1))))) (dbs_nil))))) (dbs_nil))) (dg_name (pg_name (i := 3) sc__law_choose.nd rfl (by first | exact Or.inl rfl | exact Or.inr rfl))) (dss_cons (ds_def (i := 2) sc__law_choose.nd (de_div (DE.b (de_mul (DE.b (de_var 2 (pv 2))) (DE.b (de_sub (DE.b (de_var 0 (pv 0))) (DE.b (de_var 3 (pv 3))))))) (DE.b (de_add (K := K) rfl (DE.b (de_var 3 (pv 3))) (DE.b (de_c (.int 1) pe_int)))))) (dss_nil))) (dss_cons (ds_ret (de_var 2 (pv 2)) (hr := (subO_lk trivial))) dss_nil)))⟩
def d__law_bars : List D → M D := runR (gSeq (gFor (iSeq (eCall d__law_lots (aCons (eCall lenD (aCons (eVar 0) aNil)) (aCons (eC (.int 3)) aNil)))) (kName 2) (gSeq (gIf (eTest (eBin eqD (eCall d__law_like (aCons (eComp (iSeq (eVar 2)) [3] (kName 3) tYesD (eBin ixD (eVar 0) (eVar 3))) aNil)) (eVar 1))) (gSeq (gRet (eC (.bool false))) gNil) gNil) gNil)) (gSeq (gRet (eC (.bool true))) gNil)) 2
theorem ok__law_bars (E : GE K mg) : FnG P w K mg base CX0 2 E.f__law_bars E.fd__law_bars ["row", "p"] (spR K 2 [] (d__law_bars)) :=
  fn_R (kp := []) (o' := []) E.F__law_bars sc__law_bars rfl rfl rfl (fun _ _ h => h) rfl fun cdv A outer s H E2 hr => ⟨_, dss_cons (ds_for PassesOwn.never rfl (kdj_seq (K := K) rfl (kde_call (K := K) rfl (ok__law_lots E) (hr.mono (by decide)) rfl E.m__law_lots E.F__law_lots.kp E.b__law_lots (dcs_cons (de_len (K := K) rfl rfl E.z_len (dbs_cons (DE.b (de_var 0 (pv 0))) (dbs_nil))) (dcs_cons (de_c (.int 3) pe_int) (dcs_nil))) (fits_pure rfl))) (dg_name (pg_name (i := 2) sc__law_bars.nd rfl (by first | exact Or.inl rfl | exact Or.inr rfl))) (dss_cons (ds_if (dt_eq (K := K) rfl hr (DE.b (kde_call (K := K) rfl (ok__law_like E) (hr.mono (by decide)) rfl E.m__law_like E.F__law_like.kp E.b__law_like (dcs_cons (DN.fr (dn_lc (own := [("k", 3)]) [3] rfl sc__law_bars.nd (kdj_seq (K := K) rfl (de_var 2 (pv 2))) (blkOk_by (by rfl)) (fun _ _ _ _ _ => dg_name (pg_name (i := 3) sc__law_bars.nd rfl (by first | exact Or.inl rfl | exact Or.inr rfl))) (fun _ _ _ _ _ => dts_nil) (fun _ _ _ _ _ => de_ix (K := K) rfl (DE.b (de_var 0 (pv 0))) (DE.b (de_var 3 (pv 3))) (fun _ _ => rfl)) tw_name)) (dcs_nil)) (fits_pure rfl))) (DE.b (de_var 1 (pv 1))) (nomark _)) (dss_cons (ds_ret (de_c (.bool false) pe_bl) (hr := (subO_lk trivial))) dss_nil) (dss_nil)) (dss_nil))) (dss_cons (ds_ret (de_c (.bool true) pe_bl) (hr := (subO_lk trivial))) dss_nil)⟩
def d__law_ends_well : List D → M D := runR (gSeq (gFor (iEnumD (aCons (eVar 0) aNil)) (kTup (ksCons (kName 3) (ksCons (kName 4) ksNil))) (gSeq (gFor (iSeq (eSl (eVar 0) pNone (pSome (eVar 3)))) (kName 5) (gSeq (gIf (eTest (eBin eqD (eCall d__law_like (aCons (eLst (aCons (eVar 5) (aCons (eVar 4) (aCons (eVar 1) aNil)))) aNil)) (eVar 2))) (gSeq (gRet (eC (.bool false))) gNil) gNil) gNil)) gNil)) (gSeq (gRet (eC (.bool true))) gNil)) 3
theorem ok__law_ends_well (E : GE K mg) : FnG P w K mg base CX0 2 E.f__law_ends_well E.fd__law_ends_well ["row", "item", "p"] (spR K 3 [] (d__law_ends_well)) :=
  fn_R (kp := []) (o' := []) E.F__law_ends_well sc__law_ends_well rfl rfl rfl (fun _ _ h => h) rfl fun cdv A outer s H E2 hr => ⟨_, dss_cons (ds_for PassesOwn.never rfl (kdj_enum (K := K) rfl rfl E.z_enumerate (dfs_cons (de_var 0 (pv 0)) (dfs_nil))) (kdg_tup (K := K) rfl rfl (dgs_cons (dg_name (pg_name (i := 3) sc__law_ends_well.nd rfl (by first | exact Or.inl rfl | exact Or.inr rfl))) (dgs_cons (dg_name (pg_name (i := 4) sc__law_ends_well.nd rfl (by first | exact Or.inl rfl | exact Or.inr rfl))) dgs_nil)) rfl rfl (ksCons_len (ksCons_len ksNil_len))) (dss_cons (ds_for PassesOwn.never rfl (kdj_seq (K := K) rfl (kde_sl (K := K) rfl (DE.b (de_var 0 (pv 0))) dp_none (dp_some (DE.b (de_var 3 (pv 3)))))) (dg_name (pg_name (i := 5) sc__law_ends_well.nd rfl (by first | exact Or.inl rfl | exact Or.inr rfl))) (dss_cons (ds_if (dt_eq (K := K) rfl hr (DE.b (kde_call (K := K) rfl (ok__law_like E) (hr.mono (by decide)) rfl E.m__law_like E.F__law_like.kp E.b__law_like (dcs_cons (DN.fr (dn_lst (dfs_cons (de_var 5 (pv 5)) (dfs_cons (de_var 4 (pv 4)) (dfs_cons (de_var 1 (pv 1)) (dfs_nil)))))) (dcs_nil)) (fits_pure rfl))) (DE.b (de_var 2 (pv 2))) (nomark _)) (dss_cons (ds_ret (de_c (.bool false) pe_bl) (hr := (subO_lk trivial))) dss_nil) (dss_nil)) (dss_nil))) (dss_nil))) (dss_cons (ds_ret (de_c (.bool true) pe_bl) (hr := (subO_lk trivial))) dss_nil)⟩
def d__law_zigzags : List D → M D := runR (gSeq (gSetN 2 (eLst (aCons (eTup aNil) aNil))) (gSeq (gFor (iRange1 (aCons (eVar 0) aNil)) (kName 3) (gSeq (gSetN 4 (eLst aNil)) (gSeq (gFor (iSeq (eVar 2)) (kName 5) (gSeq (gSetN 6 (eComp (iRange1 (aCons (eVar 0) aNil)) [7] (kName 7) (eTest (eBin ninD (eVar 7) (eVar 5))) (eVar 7))) (gSeq (gIf (eTest (eBin gtD (eVar 3) (eC (.int 0)))) (gSeq (gSetN 6 (eComp (iSeq (eVar 6)) [7] (kName 7) (eTest (eBin eqD (eBin gtD (eVar 7) (eBin ixD (eVar 5) (eUn negD (eC (.int 1))))) (eBin eqD (eBin modD (eCall intD (aCons (eVar 3) aNil)) (eC (.int 2))) (eC (.int 1))))) (eVar 7))) gNil) gNil) (gSeq (gExprE (eMethB 4 extG (aCons (eComp (iSeq (eVar 6)) [7] (kName 7) (tOrD (eTest (eBin isND (eVar 1) (eC .none))) (eTest (eCall d__law_ends_well (aCons (eVar 5) (aCons (eVar 7) (aCons (eVar 1) aNil)))))) (eBin addD (eVar 5) (eTup (aCons (eVar 7) aNil)))) aNil))) gNil)))) (gSeq (gSetN 2 (eCall listD (aCons (eVar 4) aNil))) gNil)))) (gSeq (gRet (eVar 2)) gNil))) 6
theorem ok__law_zigzags (E : GE K mg) : FnG P w K mg base CX0 3 E.f__law_zigzags E.fd__law_zigzags ["many", "p"] (spR K 2 [] (d__law_zigzags)) :=
  fn_R (kp := []) (o' := []) E.F__law_zigzags sc__law_zigzags rfl rfl rfl (fun _ _ h => h) rfl fun cdv A outer s H E2 hr => ⟨_, dss_cons (ds_def (i := 2) sc__law_zigzags.nd (DN.fr (dn_lst (dfs_cons (de_tup (dfs_nil)) (dfs_nil))))) (dss_cons (ds_for PassesOwn.never rfl (dj_range1 rfl E.z_range (dbs_cons (DE.b (de_var 0 (pv 0))) (dbs_nil))) (dg_name (pg_name (i := 3) sc__law_zigzags.nd rfl (by first | exact Or.inl rfl | exact Or.inr rfl))) (dss_cons (ds_new (i := 4) sc__law_zigzags.nd (dn_lst (dfs_nil))) (dss_cons (ds_for PassesOwn.never rfl (kdj_seq (K := K) rfl (de_var 2 (pv 2))) (dg_name (pg_name (i := 5) sc__law_zigzags.nd rfl (by first | exact Or.inl rfl | exact Or.inr rfl))) (dss_cons (ds_lcF (i := 6) (own := [("item", 7)]) [7] rfl sc__law_zigzags.nd (dj_range1 rfl E.z_range (dbs_cons (DE.b (de_var 0 (pv 0))) (dbs_nil))) (blkOk_by (by rfl)) (fun _ _ _ _ _ => dg_name (pg_name (i := 7) sc__law_zigzags.nd rfl (by first | exact Or.inl rfl | exact Or.inr rfl))) (fun _ _ _ _ _ => dts_one (dt_nin (K := K) rfl hr (DE.b (de_var 7 (pv 7))) (DE.b (de_var 5 (pv 5))) (by rfl))) (fun _ _ _ _ _ => de_var 7 (pv 7)) tw_name) (dss_cons (ds_if (dt_gt (K := K) rfl hr (DE.b (de_var 3 (pv 3))) (DE.b (de_c (.int 0) pe_int)) (nomark _)) (dss_cons (ds_lcF (i := 6) (own := [("item", 7)]) [7] rfl sc__law_zigzags.nd (kdj_seq (K := K) rfl (de_var 6 (pv 6))) (blkOk_by (by rfl)) (fun _ _ _ _ _ => dg_name (pg_name (i := 7) sc__law_zigzags.nd rfl (by first | exact Or.inl rfl | exact Or.inr rfl))) (fun _ _ _ _ _ => dts_one (dt_eq (K := K) rfl hr (DE.b (de_gt (K := K) rfl hr (DE.b (de_var 7 (pv 7))) (DE.b (de_ix (K := K) rfl (DE.b (de_var 5 (pv 5))) (DE.b (de_neg (de_c (.int 1) pe_int))) (fun _ _ => rfl))) (nomark _))) (DE.b (de_eq (K := K) rfl hr (DE.b (de_mod (DE.b (de_int rfl E.z_int (dbs_cons (DE.b (de_var 3 (pv 3))) (dbs_nil)))) (DE.b (de_c (.int 2) pe_int)))) (DE.b (de_c (.int 1) pe_int)) (nomark _))) (nomark _))) (fun _ _ _ _ _ => de_var 7 (pv 7)) tw_name) (dss_nil)) (dss_nil)) (dss_cons (ds_exprE (kdee_ext (K := K) rfl (pv 4) (dbs_cons (DN.b (dn_lc (own := [("item", 7)]) [7] rfl sc__law_zigzags.nd (kdj_seq (K := K) rfl (de_var 6 (pv 6))) (blkOk_by (by rfl)) (fun _ _ _ _ _ => dg_name (pg_name (i := 7) sc__law_zigzags.nd rfl (by first | exact Or.inl rfl | exact Or.inr rfl))) (fun _ _ _ _ _ => dts_one (DW.t ((dw_or (dt_isN (DE.b (de_var 1 (pv 1))) (DE.b (de_c .none pe_non)) (nomark _)) (dw_or1 (dt_val (kde_call (K := K) rfl (ok__law_ends_well E) (hr.mono (by decide)) rfl E.m__law_ends_well E.F__law_ends_well.kp E.b__law_ends_well (dcs_cons (de_var 5 (pv 5)) (dcs_cons (de_var 7 (pv 7)) (dcs_cons (de_var 1 (pv 1)) (dcs_nil)))) (fits_pure rfl)))))))) (fun _ _ _ _ _ => de_add (K := K) rfl (DE.b (de_var 5 (pv 5))) (DE.b (de_tup (dfs_cons (de_var 7 (pv 7)) (dfs_nil))))) tw_name)) (dbs_nil)))) (dss_nil))))) (dss_cons (ds_def (i := 2) sc__law_zigzags.nd (DN.fr (dn_list (K := K) rfl rfl E.z_list (dbs_cons ((db_own 4 (pv 4))) (dbs_nil))))) (dss_frz 4 (dss_nil)))))) (dss_cons (ds_ret (de_var 2 (pv 2)) (hr := (subO_lk trivial))) dss_nil))⟩
def d__law_counts : List D → M D := runR (gSeq (gPar 1 2 (eLst (aCons (eC (.int 1)) aNil)) (eLst (aCons (eC (.int 1)) aNil))) (gSeq (gFor (iRange1 (aCons (eVar 0) aNil)) (kName 3) (gSeq (gPar 4 5 (eLst (aCons (eC (.int 0)) aNil)) (eC (.int 0))) (gSeq (gFor (iSeq (eSt (eVar 2) pNone pNone (pSome (eUn negD (eC (.int 1)))))) (kName 6) (gSeq (gSetN 5 (eBin addD (eVar 5) (eVar 6))) (gSeq (gExprE (eMeth 4 appG (aLift (aCons (eVar 5) aNil)))) gNil))) (gSeq (gSetN 2 (eCall listD (aCons (eVar 4) aNil))) (gSeq (gExprE (eMeth 1 appG (aLift (aCons (eVar 5) aNil)))) gNil))))) (gSeq (gRet (eVar 1)) gNil))) 6
theorem ok__law_counts (E : GE K mg) : FnG P w K mg base CX0 1 E.f__law_counts E.fd__law_counts ["most"] (spR K 1 [] (d__law_counts)) :=
  fn_R (kp := []) (o' := []) E.F__law_counts sc__law_counts rfl rfl rfl (fun _ _ h => h) rfl fun cdv A outer s H E2 hr => ⟨_, dss_cons (ds_par2 (i := 1) (j := 2) rfl sc__law_counts.nd (DN.v (dn_lst (dfs_cons (de_c (.int 1) pe_int) (dfs_nil)))) (DE.v (DN.fr (dn_lst (dfs_cons (de_c (.int 1) pe_int) (dfs_nil)))))) (dss_cons (ds_for PassesOwn.never rfl (dj_range1 rfl E.z_range (dbs_cons (DE.b (de_var 0 (pv 0))) (dbs_nil))) (dg_name (pg_name (i := 3) sc__law_counts.nd rfl (by first | exact Or.inl rfl | exact Or.inr rfl))) (dss_cons (ds_par2 (i := 4) (j := 5) rfl sc__law_counts.nd (DN.v (dn_lst (dfs_cons (de_c (.int 0) pe_int) (dfs_nil)))) (DE.v (de_c (.int 0) pe_int))) (dss_cons (ds_for PassesOwn.never rfl (kdj_seq (K := K) rfl (kde_step (K := K) rfl (DE.b (de_var 2 (pv 2))) dp_none dp_none (dp_some (DE.b (de_neg (de_c (.int 1) pe_int)))))) (dg_name (pg_name (i := 6) sc__law_counts.nd rfl (by first | exact Or.inl rfl | exact Or.inr rfl))) (dss_cons (ds_def (i := 5) sc__law_counts.nd (de_add (K := K) rfl (DE.b (de_var 5 (pv 5))) (DE.b (de_var 6 (pv 6))))) (dss_cons (ds_exprE (kdee_app (K := K) rfl (pv 4) (DFs.lift (dfs_cons (de_var 5 (pv 5)) dfs_nil)))) (dss_nil)))) (dss_cons (ds_def (i := 2) sc__law_counts.nd (DN.fr (dn_list (K := K) rfl rfl E.z_list (dbs_cons ((db_own 4 (pv 4))) (dbs_nil))))) (dss_cons (ds_exprE (kdee_app (K := K) rfl (pv 1) (DFs.lift (dfs_cons (de_var 5 (pv 5)) dfs_nil)))) (dss_frz 4 (dss_nil))))))) (dss_frz 1 (dss_cons (ds_ret (de_var 1 (pv 1)) (hr := (subO_lk trivial))) dss_nil)))⟩
def d__law_number : List D → M D := runR (gSeq (gIf (eTest (eBin eqD (eVar 1) (eC (.int 0)))) (gSeq (gRet (eC (.int 1))) gNil) gNil) (gSeq (gSetN 2 (eBin fdivD (eBin addD (eVar 1) (eC (.int 1))) (eC (.int 2)))) (gSeq (gIf (eTest (eBin inD (eVar 0) (eTup (aCons (eTup (aCons (eC (.int 0)) (aCons (eC (.int 2)) (aCons (eC (.int 1)) aNil)))) (aCons (eTup (aCons (eC (.int 1)) (aCons (eC (.int 2)) (aCons (eC (.int 0)) aNil)))) aNil))))) (gSeq (gSetN 2 (eBin fdivD (eVar 1) (eC (.int 2)))) gNil) gNil) (gSeq (gIf (eTest (eBin eqD (eVar 0) (eTup (aCons (eC (.int 2)) (aCons (eC (.int 1)) (aCons (eC (.int 0)) aNil)))))) (gSeq (gSetN 2 (eIf (eTest (eBin gtD (eVar 1) (eC (.int 2)))) (eBin addD (eBin fdivD (eVar 1) (eC (.int 2))) (eC (.int 1))) (eC (.int 1)))) gNil) gNil) (gSeq (gRet (eBin fdivD (eCall d__law_choose (aCons (eBin mulD (eC (.int 2)) (eVar 2)) (aCons (eVar 2) aNil))) (eBin addD (eVar 2) (eC (.int 1))))) gNil))))) 1
theorem ok__law_number (E : GE K mg) : FnG P w K mg base CX0 2 E.f__law_number E.fd__law_number ["p", "n"] (spR K 2 [] (d__law_number)) :=
  fn_R (kp := []) (o' := []) E.F__law_number sc__law_number rfl rfl rfl (fun _ _ h => h) rfl fun cdv A outer s H E2 hr => ⟨_, dss_cons (ds_if (dt_eq (K := K) rfl hr (DE.b (de_var 1 (pv 1))) (DE.b (de_c (.int 0) pe_int)) (nomark _)) (dss_cons (ds_ret (de_c (.int 1) pe_int) (hr := (subO_lk trivial))) dss_nil) (dss_nil)) (dss_cons (ds_def (i := 2) sc__law_number.nd (de_div (DE.b (de_add (K := K) rfl (DE.b (de_var 1 (pv 1))) (DE.b (de_c (.int 1) pe_int)))) (DE.b (de_c (.int 2) pe_int)))) (dss_cons (ds_if (dt_in (K := K) rfl hr (DE.b (de_var 0 (pv 0))) (DE.b (de_tup (dfs_cons (de_tup (dfs_cons (de_c (.int 0) pe_int) (dfs_cons (de_c (.int 2) pe_int) (dfs_cons (de_c (.int 1) pe_int) (dfs_nil))))) (dfs_cons (de_tup (dfs_cons (de_c (.int 1) pe_int) (dfs_cons (de_c (.int 2) pe_int) (dfs_cons (de_c (.int 0) pe_int) (dfs_nil))))) (dfs_nil))))) (by rfl)) (dss_cons (ds_def (i := 2) sc__law_number.nd (de_div (DE.b (de_var 1 (pv 1))) (DE.b (de_c (.int 2) pe_int)))) (dss_nil)) (dss_nil)) (dss_cons (ds_if (dt_eq (K := K) rfl hr (DE.b (de_var 0 (pv 0))) (DE.b (de_tup (dfs_cons (de_c (.int 2) pe_int) (dfs_cons (de_c (.int 1) pe_int) (dfs_cons (de_c (.int 0) pe_int) (dfs_nil)))))) (nomark _)) (dss_cons (ds_def (i := 2) sc__law_number.nd (de_if (dt_gt (K := K) rfl hr (DE.b (de_var 1 (pv 1))) (DE.b (de_c (.int 2) pe_int)) (nomark _)) (de_add (K := K) rfl (DE.b (de_div (DE.b (de_var 1 (pv 1))) (DE.b (de_c (.int 2) pe_int)))) (DE.b (de_c (.int 1) pe_int))) (de_c (.int 1) pe_int))) (dss_nil)) (dss_nil)) (dss_cons (ds_ret (de_div (DE.b (kde_call (K := K) rfl (ok__law_choose E) (hr.mono (by decide)) rfl E.m__law_choose E.F__law_choose.kp E.b__law_choose (dcs_cons (de_mul (DE.b (de_c (.int 2) pe_int)) (DE.b (de_var 2 (pv 2)))) (dcs_cons (de_var 2 (pv 2)) (dcs_nil))) (fits_pure rfl))) (DE.b (de_add (K := K) rfl (DE.b (de_var 2 (pv 2))) (DE.b (de_c (.int 1) pe_int))))) (hr := (subO_lk trivial))) dss_nil))))⟩
def d_law (ns : List Int) : List D → M D := runR (gSeq (gBag 1) (gSeq (gFor (iRange1 (aCons (eC (.int 5)) aNil)) (kName 2) (gSeq (gSetN 3 (eCall d__law_row (aCons (eVar 1) (aCons (eCall d__law_draw (aCons (eVar 1) (aCons (eC (.int 10)) aNil))) aNil)))) (gSeq (gIf (eTest (eBin gtD (eVar 2) (eC (.int 1)))) (gSeq (gSetN 4 (eCall sortedD (aCons (eVar 3) aNil))) (gSeq (gSetN 3 (eTup aNil)) (gSeq (gFor (iRange1 (aCons (eCall lenD (aCons (eVar 4) aNil)) aNil)) (kName 5) (gSeq (gSetN 6 (eComp (iSeq (eVar 4)) [15] (kName 15) (eTest (eBin ninD (eVar 15) (eVar 3))) (eVar 15))) (gSeq (gIf (eTest (eBin neD (eVar 3) (eTup aNil))) (gSeq (gSetN 6 (eComp (iSeq (eVar 6)) [15] (kName 15) (eTest (eBin eqD (eBin gtD (eVar 15) (eBin ixD (eVar 3) (eUn negD (eC (.int 1))))) (eBin eqD (eBin modD (eCall intD (aCons (eVar 5) aNil)) (eC (.int 2))) (eC (.int 1))))) (eVar 15))) gNil) gNil) (gSeq (gSetN 3 (eIf (eTest (eBin neD (eVar 6) (eLst aNil))) (eBin addD (eVar 3) (eTup (aCons (eCall d__law_pick (aCons (eVar 1) (aCons (eVar 6) aNil))) aNil))) (eVar 3))) gNil)))) (gSeq (gSetN 3 (eCall d__law_like (aCons (eVar 3) aNil))) gNil)))) gNil) (gSeq (gSetN 7 (eCall allD (aCons (eComp (iEzD (aCons (eVar 3) (aCons (eSl (eVar 3) (pSome (eC (.int 1))) pNone) aNil))) [16, 17, 18] (kTup (ksCons (kName 16) (ksCons (kTup (ksCons (kName 17) (ksCons (kName 18) ksNil))) ksNil))) tYesD (eBin eqD (eBin ltD (eVar 17) (eVar 18)) (eBin eqD (eBin modD (eCall intD (aCons (eVar 16) aNil)) (eC (.int 2))) (eC (.int 0))))) aNil))) (gSeq (gIf (eTest (eBin neD (eCall reprD (aCons (eLst (aCons (eCall d_is_zigzag (aCons (eVar 3) aNil)) (aCons (eCallK d_is_zigzag [0] (aCons (eVar 3) aNil)) aNil))) aNil)) (eCall reprD (aCons (eLst (aCons (eVar 7) (aCons (eVar 7) aNil))) aNil)))) (gSeq (gRet (eC (.bool false))) gNil) gNil) gNil))))) (gSeq (gSetT (kTup (ksCons (kName 8) (ksCons (kName 9) ksNil))) (eTup (aCons (eCall d__law_counts (aCons (eC (.int 60)) aNil)) (aCons (eBin addD (eC (.int 1)) (eCall d__law_draw (aCons (eVar 1) (aCons (eC (.int 20)) aNil)))) aNil)))) (gSeq (gIf (eTest (eBin neD (eBin mulD (eC (.int 2)) (eBin ixD (eVar 8) (eBin addD (eVar 9) (eC (.int 1))))) (eCall sumD (aCons (eComp (iRange1 (aCons (eBin addD (eVar 9) (eC (.int 1))) aNil)) [16] (kName 16) tYesD (eBin mulD (eBin mulD (eCall d__law_choose (aCons (eVar 9) (aCons (eVar 16) aNil))) (eBin ixD (eVar 8) (eVar 16))) (eBin ixD (eVar 8) (eBin subD (eVar 9) (eVar 16))))) aNil)))) (gSeq (gRet (eC (.bool false))) gNil) gNil) (gSeq (gFor (iSeq (eTup (aCons (eCall d__law_draw (aCons (eVar 1) (aCons (eC (.int 10)) aNil))) (aCons (eCall d__law_draw (aCons (eVar 1) (aCons (eC (.int 61)) aNil))) (aCons (eC (.int 60)) aNil))))) (kName 10) (gSeq (gIf (eTest (eBin neD (eCall reprD (aCons (eLst (aCons (eCall d_zigzag_count (aCons (eVar 10) aNil)) (aCons (eCallK d_zigzag_count [0] (aCons (eVar 10) aNil)) aNil))) aNil)) (eCall reprD (aCons (eLst (aCons (eBin ixD (eVar 8) (eVar 10)) (aCons (eBin ixD (eVar 8) (eVar 10)) aNil))) aNil)))) (gSeq (gRet (eC (.bool false))) gNil) gNil) gNil)) (gSeq (gSetN 11 (eCall d__law_row (aCons (eVar 1) (aCons (eC (.int 3)) aNil)))) (gSeq (gFor (iSeq (eTup (aCons (eCall d__law_draw (aCons (eVar 1) (aCons (eC (.int 10)) aNil))) (aCons (eCall d__law_draw (aCons (eVar 1) (aCons (eC (.int 61)) aNil))) (aCons (eC (.int 60)) aNil))))) (kName 10) (gSeq (gSetN 7 (eCall d__law_number (aCons (eVar 11) (aCons (eVar 10) aNil)))) (gSeq (gIf (eTest (eBin neD (eCall reprD (aCons (eLst (aCons (eCall d_zigzag_three_count (aCons (eVar 11) (aCons (eVar 10) aNil))) (aCons (eCallK d_zigzag_three_count [1, 0] (aCons (eVar 10) (aCons (eVar 11) aNil))) aNil))) aNil)) (eCall reprD (aCons (eLst (aCons (eVar 7) (aCons (eVar 7) aNil))) aNil)))) (gSeq (gRet (eC (.bool false))) gNil) gNil) gNil))) (gSeq (gSetN 10 (eCall d__law_draw (aCons (eVar 1) (aCons (eC (.int 7)) aNil)))) (gSeq (gSetN 12 (eCall tupleD (aCons (eCall d__law_zigzags (aCons (eVar 10) (aCons (eVar 11) aNil))) aNil))) (gSeq (gSetN 13 (eLst (aCons (eCall d_zigzag_three_rows (aCons (eVar 11) (aCons (eVar 10) aNil))) (aCons (eCallK d_zigzag_three_rows [1, 0] (aCons (eVar 10) (aCons (eVar 11) aNil))) aNil)))) (gSeq (gIf (tOrD (eTest (eBin neD (eCall reprD (aCons (eVar 13) aNil)) (eCall reprD (aCons (eLst (aCons (eVar 12) (aCons (eVar 12) aNil))) aNil)))) (eTest (eBin neD (eCall lenD (aCons (eVar 12) aNil)) (eCall d__law_number (aCons (eVar 11) (aCons (eVar 10) aNil)))))) (gSeq (gRet (eC (.bool false))) gNil) gNil) (gSeq (gSetN 10 (eCall d__law_draw (aCons (eVar 1) (aCons (eC (.int 6)) aNil)))) (gSeq (gIf (eTest (eBin neD (eCall lenD (aCons (eCall d__law_zigzags (aCons (eVar 10) (aCons (eC .none) aNil))) aNil)) (eBin ixD (eVar 8) (eVar 10)))) (gSeq (gRet (eC (.bool false))) gNil) gNil) (gSeq (gSetN 10 (eBin addD (eC (.int 8)) (eCall d__law_draw (aCons (eVar 1) (aCons (eC (.int 2)) aNil))))) (gSeq (gSetN 14 (eCall d_zigzag_three_rows (aCons (eVar 11) (aCons (eVar 10) aNil)))) (gSeq (gIf (tOrD (eTest (eBin neD (eCall lenD (aCons (eVar 14) aNil)) (eCall d__law_number (aCons (eVar 11) (aCons (eVar 10) aNil))))) (eTest (eCall anyD (aCons (eComp (iZipD (aCons (eVar 14) (aCons (eSl (eVar 14) (pSome (eC (.int 1))) pNone) aNil))) [17, 18] (kTup (ksCons (kName 17) (ksCons (kName 18) ksNil))) tYesD (eBin geD (eVar 17) (eVar 18))) aNil)))) (gSeq (gRet (eC (.bool false))) gNil) gNil) (gSeq (gRet (eCall allD (aCons (eComp (iSeq (eSt (eVar 14) (pSome (eCall d__law_draw (aCons (eVar 1) (aCons (eC (.int 9)) aNil)))) pNone (pSome (eC (.int 9))))) [3] (kName 3) tYesD (eAndV (eCall d_is_zigzag (aCons (eVar 3) aNil)) (eCall d__law_bars (aCons (eVar 3) (aCons (eVar 11) aNil))))) aNil))) gNil))))))))))))))))) 18
theorem ok_law (E : GE K mg) (ns : List Int) (ob : Obj) (hns : ns.length ≤ 63) : FnG P w K mg base CX0 19 E.f_law E.fd_law ["script"] (spR K 1 [(0, .raw (scR ns ob))] (d_law ns)) :=
  fn_R (kp := [0]) (o' := [(0, .raw (scR ns ob))]) E.F_law sc_law rfl rfl rfl (fun _ _ h => h) rfl fun cdv A outer s H E2 hr => ⟨_, dss_cons (ds_bag (i := 1) (j := 0) (ok__law_bag E hns) (hr.mono (by decide)) rfl E.m__law_bag E.F__law_bag.kp E.b__law_bag sc_law.nd (pv 0) rfl) (dss_cons (ds_for PassesOwn.never rfl (dj_range1 rfl E.z_range (dbs_cons (DE.b (de_c (.int 5) pe_int)) (dbs_nil))) (dg_name (pg_name (i := 2) sc_law.nd rfl (by first | exact Or.inl rfl | exact Or.inr rfl))) (dss_cons (ds_def (i := 3) sc_law.nd (kde_call (K := K) rfl (ok__law_row E) (hr.mono (by decide)) rfl E.m__law_row E.F__law_row.kp E.b__law_row (dcs_own 1 (pv 1) (dcs_cons (kde_call (K := K) rfl (ok__law_draw E) (hr.mono (by decide)) rfl E.m__law_draw E.F__law_draw.kp E.b__law_draw (dcs_own 1 (pv 1) (dcs_cons (de_c (.int 10) pe_int) (dcs_nil))) (fits_one (i0 := 0) (j := 1) (kd := .raw bagR) rfl rfl rfl)) (dcs_nil))) (fits_one (i0 := 0) (j := 1) (kd := .raw bagR) rfl rfl rfl))) (dss_cons (ds_if (dt_gt (K := K) rfl hr (DE.b (de_var 2 (pv 2))) (DE.b (de_c (.int 1) pe_int)) (nomark _)) (dss_cons (ds_def (i := 4) sc_law.nd (DN.fr (dn_sorted (K := K) rfl hr rfl E.z_sorted (dbs_cons (DE.b (de_var 3 (pv 3))) (dbs_nil))))) (dss_cons (ds_def (i := 3) sc_law.nd (de_tup (dfs_nil))) (dss_cons (ds_for PassesOwn.never rfl (dj_range1 rfl E.z_range (dbs_cons (DE.b (de_len (K := K) rfl rfl E.z_len (dbs_cons (DE.b (de_var 4 (pv 4))) (dbs_nil)))) (dbs_nil))) (dg_name (pg_name (i := 5) sc_law.nd rfl (by first | exact Or.inl rfl | exact Or.inr rfl))) (dss_cons (ds_lcF (i := 6) (own := [("item", 15)]) [15] rfl sc_law.nd (kdj_seq (K := K) rfl (de_var 4 (pv 4))) (blkOk_by (by rfl)) (fun _ _ _ _ _ => dg_name (pg_name (i := 15) sc_law.nd rfl (by first | exact Or.inl rfl | exact Or.inr rfl))) (fun _ _ _ _ _ => dts_one (dt_nin (K := K) rfl hr (DE.b (de_var 15 (pv 15))) (DE.b (de_var 3 (pv 3))) (by rfl))) (fun _ _ _ _ _ => de_var 15 (pv 15)) tw_name) (dss_cons (ds_if (dt_ne (K := K) rfl hr (DE.b (de_var 3 (pv 3))) (DE.b (de_tup (dfs_nil))) (nomark _)) (dss_cons (ds_lcF (i := 6) (own := [("item", 15)]) [15] rfl sc_law.nd (kdj_seq (K := K) rfl (de_var 6 (pv 6))) (blkOk_by (by rfl)) (fun _ _ _ _ _ => dg_name (pg_name (i := 15) sc_law.nd rfl (by first | exact Or.inl rfl | exact Or.inr rfl))) (fun _ _ _ _ _ => dts_one (dt_eq (K := K) rfl hr (DE.b (de_gt (K := K) rfl hr (DE.b (de_var 15 (pv 15))) (DE.b (de_ix (K := K) rfl (DE.b (de_var 3 (pv 3))) (DE.b (de_neg (de_c (.int 1) pe_int))) (fun _ _ => rfl))) (nomark _))) (DE.b (de_eq (K := K) rfl hr (DE.b (de_mod (DE.b (de_int rfl E.z_int (dbs_cons (DE.b (de_var 5 (pv 5))) (dbs_nil)))) (DE.b (de_c (.int 2) pe_int)))) (DE.b (de_c (.int 1) pe_int)) (nomark _))) (nomark _))) (fun _ _ _ _ _ => de_var 15 (pv 15)) tw_name) (dss_nil)) (dss_nil)) (dss_cons (ds_def (i := 3) sc_law.nd (de_if (dt_ne (K := K) rfl hr (DE.b (de_var 6 (pv 6))) (DN.b (dn_lst (dfs_nil))) (nomark _)) (de_add (K := K) rfl (DE.b (de_var 3 (pv 3))) (DE.b (de_tup (dfs_cons (kde_call (K := K) rfl (ok__law_pick E) (hr.mono (by decide)) rfl E.m__law_pick E.F__law_pick.kp E.b__law_pick (dcs_own 1 (pv 1) (dcs_cons (de_var 6 (pv 6)) (dcs_nil))) (fits_one (i0 := 0) (j := 1) (kd := .raw bagR) rfl rfl rfl)) (dfs_nil))))) (de_var 3 (pv 3)))) (dss_nil))))) (dss_cons (ds_def (i := 3) sc_law.nd (kde_call (K := K) rfl (ok__law_like E) (hr.mono (by decide)) rfl E.m__law_like E.F__law_like.kp E.b__law_like (dcs_cons (de_var 3 (pv 3)) (dcs_nil)) (fits_pure rfl))) (dss_nil))))) (dss_nil)) (dss_cons (ds_def (i := 7) sc_law.nd (de_all (K := K) rfl rfl rfl E.z_all (dbs_cons (DN.b (dn_lc (own := [("k", 16), ("one", 17), ("other", 18)]) [16, 17, 18] rfl sc_law.nd (kdj_ez (K := K) rfl rfl E.z_enumerate rfl E.z_zip (dfs_cons (de_var 3 (pv 3)) (dfs_cons (kde_sl (K := K) rfl (DE.b (de_var 3 (pv 3))) (dp_some (DE.b (de_c (.int 1) pe_int))) dp_none) (dfs_nil)))) (blkOk_by (by rfl)) (fun _ _ _ _ _ => kdg_tup (K := K) rfl rfl (dgs_cons (dg_name (pg_name (i := 16) sc_law.nd rfl (by first | exact Or.inl rfl | exact Or.inr rfl))) (dgs_cons (kdg_tup (K := K) rfl rfl (dgs_cons (dg_name (pg_name (i := 17) sc_law.nd rfl (by first | exact Or.inl rfl | exact Or.inr rfl))) (dgs_cons (dg_name (pg_name (i := 18) sc_law.nd rfl (by first | exact Or.inl rfl | exact Or.inr rfl))) dgs_nil)) rfl rfl (ksCons_len (ksCons_len ksNil_len))) dgs_nil)) rfl rfl (ksCons_len (ksCons_len ksNil_len))) (fun _ _ _ _ _ => dts_nil) (fun _ _ _ _ _ => de_eq (K := K) rfl hr (DE.b (de_lt (K := K) rfl hr (DE.b (de_var 17 (pv 17))) (DE.b (de_var 18 (pv 18))) (nomark _))) (DE.b (de_eq (K := K) rfl hr (DE.b (de_mod (DE.b (de_int rfl E.z_int (dbs_cons (DE.b (de_var 16 (pv 16))) (dbs_nil)))) (DE.b (de_c (.int 2) pe_int)))) (DE.b (de_c (.int 0) pe_int)) (nomark _))) (nomark _)) (tw_tup (tws_cons tw_name (tws_cons (tw_tup (tws_cons tw_name (tws_cons tw_name tws_nil))) tws_nil))))) (dbs_nil)))) (dss_cons (ds_if (dt_ne (K := K) rfl hr (DE.b (de_repr (K := K) rfl hr rfl E.z_repr (dbs_cons (DN.b (dn_lst (dfs_cons (kde_call (K := K) rfl (ok_is_zigzag E) (hr.mono (by decide)) rfl E.m_is_zigzag E.F_is_zigzag.kp E.b_is_zigzag (dcs_cons (de_var 3 (pv 3)) (dcs_nil)) (fits_pure rfl)) (dfs_cons (kde_callK (K := K) rfl (ok_is_zigzag E) (hr.mono (by decide)) rfl E.m_is_zigzag E.F_is_zigzag.kp (kb_is_zigzag_row E.F_is_zigzag) (dks_cons (de_var 3 (pv 3)) (dks_nil)) (fun ds h => match ds, h with | [_], _ => rfl) (fl_cons (fun _ _ => fl_nil))) (dfs_nil))))) (dbs_nil)))) (DE.b (de_repr (K := K) rfl hr rfl E.z_repr (dbs_cons (DN.b (dn_lst (dfs_cons (de_var 7 (pv 7)) (dfs_cons (de_var 7 (pv 7)) (dfs_nil))))) (dbs_nil)))) (nomark _)) (dss_cons (ds_ret (de_c (.bool false) pe_bl) (hr := (subO_lk ⟨rfl, trivial⟩))) dss_nil) (dss_nil)) (dss_nil)))))) (dss_cons (ds_asgT2 (de_tup (dfs_cons (kde_call (K := K) rfl (ok__law_counts E) (hr.mono (by decide)) rfl E.m__law_counts E.F__law_counts.kp E.b__law_counts (dcs_cons (de_c (.int 60) pe_int) (dcs_nil)) (fits_pure rfl)) (dfs_cons (de_add (K := K) rfl (DE.b (de_c (.int 1) pe_int)) (DE.b (kde_call (K := K) rfl (ok__law_draw E) (hr.mono (by decide)) rfl E.m__law_draw E.F__law_draw.kp E.b__law_draw (dcs_own 1 (pv 1) (dcs_cons (de_c (.int 20) pe_int) (dcs_nil))) (fits_one (i0 := 0) (j := 1) (kd := .raw bagR) rfl rfl rfl)))) (dfs_nil)))) (kdg_tup (K := K) rfl rfl (dgs_cons (dg_name (pg_name (i := 8) sc_law.nd rfl (by first | exact Or.inl rfl | exact Or.inr rfl))) (dgs_cons (dg_name (pg_name (i := 9) sc_law.nd rfl (by first | exact Or.inl rfl | exact Or.inr rfl))) dgs_nil)) rfl rfl (ksCons_len (ksCons_len ksNil_len)))) (dss_cons (ds_if (dt_ne (K := K) rfl hr (DE.b (de_mul (DE.b (de_c (.int 2) pe_int)) (DE.b (de_ix (K := K) rfl (DE.b (de_var 8 (pv 8))) (DE.b (de_add (K := K) rfl (DE.b (de_var 9 (pv 9))) (DE.b (de_c (.int 1) pe_int)))) (fun _ _ => rfl))))) (DE.b (de_sum (K := K) rfl rfl rfl E.z_sum (dbs_cons (DN.b (dn_lc (own := [("k", 16)]) [16] rfl sc_law.nd (dj_range1 rfl E.z_range (dbs_cons (DE.b (de_add (K := K) rfl (DE.b (de_var 9 (pv 9))) (DE.b (de_c (.int 1) pe_int)))) (dbs_nil))) (blkOk_by (by rfl)) (fun _ _ _ _ _ => dg_name (pg_name (i := 16) sc_law.nd rfl (by first | exact Or.inl rfl | exact Or.inr rfl))) (fun _ _ _ _ _ => dts_nil) (fun _ _ _ _ _ => de_mul (DE.b (de_mul (DE.b (kde_call (K := K) rfl (ok__law_choose E) (hr.mono (by decide)) rfl E.m__law_choose E.F__law_choose.kp E.b__law_choose (dcs_cons (de_var 9 (pv 9)) (dcs_cons (de_var 16 (pv 16)) (dcs_nil))) (fits_pure rfl))) (DE.b (de_ix (K := K) rfl (DE.b (de_var 8 (pv 8))) (DE.b (de_var 16 (pv 16))) (fun _ _ => rfl))))) (DE.b (de_ix (K := K) rfl (DE.b (de_var 8 (pv 8))) (DE.b (de_sub (DE.b (de_var 9 (pv 9))) (DE.b (de_var 16 (pv 16))))) (fun _ _ => rfl)))) tw_name)) (dbs_nil)))) (nomark _)) (dss_cons (ds_ret (de_c (.bool false) pe_bl) (hr := (subO_lk ⟨rfl, trivial⟩))) dss_nil) (dss_nil)) (dss_cons (ds_for PassesOwn.never rfl (kdj_seq (K := K) rfl (de_tup (dfs_cons (kde_call (K := K) rfl (ok__law_draw E) (hr.mono (by decide)) rfl E.m__law_draw E.F__law_draw.kp E.b__law_draw (dcs_own 1 (pv 1) (dcs_cons (de_c (.int 10) pe_int) (dcs_nil))) (fits_one (i0 := 0) (j := 1) (kd := .raw bagR) rfl rfl rfl)) (dfs_cons (kde_call (K := K) rfl (ok__law_draw E) (hr.mono (by decide)) rfl E.m__law_draw E.F__law_draw.kp E.b__law_draw (dcs_own 1 (pv 1) (dcs_cons (de_c (.int 61) pe_int) (dcs_nil))) (fits_one (i0 := 0) (j := 1) (kd := .raw bagR) rfl rfl rfl)) (dfs_cons (de_c (.int 60) pe_int) (dfs_nil)))))) (dg_name (pg_name (i := 10) sc_law.nd rfl (by first | exact Or.inl rfl | exact Or.inr rfl))) (dss_cons (ds_if (dt_ne (K := K) rfl hr (DE.b (de_repr (K := K) rfl hr rfl E.z_repr (dbs_cons (DN.b (dn_lst (dfs_cons (kde_call (K := K) rfl (ok_zigzag_count E) (hr.mono (by decide)) rfl E.m_zigzag_count E.F_zigzag_count.kp E.b_zigzag_count (dcs_cons (de_var 10 (pv 10)) (dcs_nil)) (fits_pure rfl)) (dfs_cons (kde_callK (K := K) rfl (ok_zigzag_count E) (hr.mono (by decide)) rfl E.m_zigzag_count E.F_zigzag_count.kp (kb_zigzag_count_many E.F_zigzag_count) (dks_cons (de_var 10 (pv 10)) (dks_nil)) (fun ds h => match ds, h with | [_], _ => rfl) (fl_cons (fun _ _ => fl_nil))) (dfs_nil))))) (dbs_nil)))) (DE.b (de_repr (K := K) rfl hr rfl E.z_repr (dbs_cons (DN.b (dn_lst (dfs_cons (de_ix (K := K) rfl (DE.b (de_var 8 (pv 8))) (DE.b (de_var 10 (pv 10))) (fun _ _ => rfl)) (dfs_cons (de_ix (K := K) rfl (DE.b (de_var 8 (pv 8))) (DE.b (de_var 10 (pv 10))) (fun _ _ => rfl)) (dfs_nil))))) (dbs_nil)))) (nomark _)) (dss_cons (ds_ret (de_c (.bool false) pe_bl) (hr := (subO_lk ⟨rfl, trivial⟩))) dss_nil) (dss_nil)) (dss_nil))) (dss_cons (ds_def (i := 11) sc_law.nd (kde_call (K := K) rfl (ok__law_row E) (hr.mono (by decide)) rfl E.m__law_row E.F__law_row.kp E.b__law_row (dcs_own 1 (pv 1) (dcs_cons (de_c (.int 3) pe_int) (dcs_nil))) (fits_one (i0 := 0) (j := 1) (kd := .raw bagR) rfl rfl rfl))) (dss_cons (ds_for PassesOwn.never rfl (kdj_seq (K := K) rfl (de_tup (dfs_cons (kde_call (K := K) rfl (ok__law_draw E) (hr.mono (by decide)) rfl E.m__law_draw E.F__law_draw.kp E.b__law_draw (dcs_own 1 (pv 1) (dcs_cons (de_c (.int 10) pe_int) (dcs_nil))) (fits_one (i0 := 0) (j := 1) (kd := .raw bagR) rfl rfl rfl)) (dfs_cons (kde_call (K := K) rfl (ok__law_draw E) (hr.mono (by decide)) rfl E.m__law_draw E.F__law_draw.kp E.b__law_draw (dcs_own 1 (pv 1) (dcs_cons (de_c (.int 61) pe_int) (dcs_nil))) (fits_one (i0 := 0) (j := 1) (kd := .raw bagR) rfl rfl rfl)) (dfs_cons (de_c (.int 60) pe_int) (dfs_nil)))))) (dg_name (pg_name (i := 10) sc_law.nd rfl (by first | exact Or.inl rfl | exact Or.inr rfl))) (dss_cons (ds_def (i := 7) sc_law.nd (kde_call (K := K) rfl (ok__law_number E) (hr.mono (by decide)) rfl E.m__law_number E.F__law_number.kp E.b__law_number (dcs_cons (de_var 11 (pv 11)) (dcs_cons (de_var 10 (pv 10)) (dcs_nil))) (fits_pure rfl))) (dss_cons (ds_if (dt_ne (K := K) rfl hr (DE.b (de_repr (K := K) rfl hr rfl E.z_repr (dbs_cons (DN.b (dn_lst (dfs_cons (kde_call (K := K) rfl (ok_zigzag_three_count E) (hr.mono (by decide)) rfl E.m_zigzag_three_count E.F_zigzag_three_count.kp E.b_zigzag_three_count (dcs_cons (de_var 11 (pv 11)) (dcs_cons (de_var 10 (pv 10)) (dcs_nil))) (fits_pure rfl)) (dfs_cons (kde_callK (K := K) rfl (ok_zigzag_three_count E) (hr.mono (by decide)) rfl E.m_zigzag_three_count E.F_zigzag_three_count.kp (kb_zigzag_three_count_many_p E.F_zigzag_three_count) (dks_cons (de_var 10 (pv 10)) (dks_cons (de_var 11 (pv 11)) (dks_nil))) (fun ds h => match ds, h with | [_, _], _ => rfl) (fl_cons (fl_cons (fun _ _ => fl_nil)))) (dfs_nil))))) (dbs_nil)))) (DE.b (de_repr (K := K) rfl hr rfl E.z_repr (dbs_cons (DN.b (dn_lst (dfs_cons (de_var 7 (pv 7)) (dfs_cons (de_var 7 (pv 7)) (dfs_nil))))) (dbs_nil)))) (nomark _)) (dss_cons (ds_ret (de_c (.bool false) pe_bl) (hr := (subO_lk ⟨rfl, trivial⟩))) dss_nil) (dss_nil)) (dss_nil)))) (dss_cons (ds_def (i := 10) sc_law.nd (kde_call (K := K) rfl (ok__law_draw E) (hr.mono (by decide)) rfl E.m__law_draw E.F__law_draw.kp E.b__law_draw (dcs_own 1 (pv 1) (dcs_cons (de_c (.int 7) pe_int) (dcs_nil))) (fits_one (i0 := 0) (j := 1) (kd := .raw bagR) rfl rfl rfl))) (dss_cons (ds_def (i := 12) sc_law.nd (de_tuple (K := K) rfl rfl E.z_tuple (dbs_cons (DE.b (kde_call (K := K) rfl (ok__law_zigzags E) (hr.mono (by decide)) rfl E.m__law_zigzags E.F__law_zigzags.kp E.b__law_zigzags (dcs_cons (de_var 10 (pv 10)) (dcs_cons (de_var 11 (pv 11)) (dcs_nil))) (fits_pure rfl))) (dbs_nil)))) (dss_cons (ds_def (i := 13) sc_law.nd (DN.fr (dn_lst (dfs_cons (kde_call (K := K) rfl (ok_zigzag_three_rows E) (hr.mono (by decide)) rfl E.m_zigzag_three_rows E.F_zigzag_three_rows.kp E.b_zigzag_three_rows (dcs_cons (de_var 11 (pv 11)) (dcs_cons (de_var 10 (pv 10)) (dcs_nil))) (fits_pure rfl)) (dfs_cons (kde_callK (K := K) rfl (ok_zigzag_three_rows E) (hr.mono (by decide)) rfl E.m_zigzag_three_rows E.F_zigzag_three_rows.kp (kb_zigzag_three_rows_many_p E.F_zigzag_three_rows) (dks_cons (de_var 10 (pv 10)) (dks_cons (de_var 11 (pv 11)) (dks_nil))) (fun ds h => match ds, h with | [_, _], _ => rfl) (fl_cons (fl_cons (fun _ _ => fl_nil)))) (dfs_nil)))))) (dss_cons (ds_if (DW.t ((dw_or (dt_ne (K := K) rfl hr (DE.b (de_repr (K := K) rfl hr rfl E.z_repr (dbs_cons (DE.b (de_var 13 (pv 13))) (dbs_nil)))) (DE.b (de_repr (K := K) rfl hr rfl E.z_repr (dbs_cons (DN.b (dn_lst (dfs_cons (de_var 12 (pv 12)) (dfs_cons (de_var 12 (pv 12)) (dfs_nil))))) (dbs_nil)))) (nomark _)) (dw_or1 (dt_ne (K := K) rfl hr (DE.b (de_len (K := K) rfl rfl E.z_len (dbs_cons (DE.b (de_var 12 (pv 12))) (dbs_nil)))) (DE.b (kde_call (K := K) rfl (ok__law_number E) (hr.mono (by decide)) rfl E.m__law_number E.F__law_number.kp E.b__law_number (dcs_cons (de_var 11 (pv 11)) (dcs_cons (de_var 10 (pv 10)) (dcs_nil))) (fits_pure rfl))) (nomark _)))))) (dss_cons (ds_ret (de_c (.bool false) pe_bl) (hr := (subO_lk ⟨rfl, trivial⟩))) dss_nil) (dss_nil)) (dss_cons (ds_def (i := 10) sc_law.nd (kde_call (K := K) rfl (ok__law_draw E) (hr.mono (by decide)) rfl E.m__law_draw E.F__law_draw.kp E.b__law_draw (dcs_own 1 (pv 1) (dcs_cons (de_c (.int 6) pe_int) (dcs_nil))) (fits_one (i0 := 0) (j := 1) (kd := .raw bagR) rfl rfl rfl))) (dss_cons (ds_if (dt_ne (K := K) rfl hr (DE.b (de_len (K := K) rfl rfl E.z_len (dbs_cons (DE.b (kde_call (K := K) rfl (ok__law_zigzags E) (hr.mono (by decide)) rfl E.m__law_zigzags E.F__law_zigzags.kp E.b__law_zigzags (dcs_cons (de_var 10 (pv 10)) (dcs_cons (de_c .none pe_non) (dcs_nil))) (fits_pure rfl))) (dbs_nil)))) (DE.b (de_ix (K := K) rfl (DE.b (de_var 8 (pv 8))) (DE.b (de_var 10 (pv 10))) (fun _ _ => rfl))) (nomark _)) (dss_cons (ds_ret (de_c (.bool false) pe_bl) (hr := (subO_lk ⟨rfl, trivial⟩))) dss_nil) (dss_nil)) (dss_cons (ds_def (i := 10) sc_law.nd (de_add (K := K) rfl (DE.b (de_c (.int 8) pe_int)) (DE.b (kde_call (K := K) rfl (ok__law_draw E) (hr.mono (by decide)) rfl E.m__law_draw E.F__law_draw.kp E.b__law_draw (dcs_own 1 (pv 1) (dcs_cons (de_c (.int 2) pe_int) (dcs_nil))) (fits_one (i0 := 0) (j := 1) (kd := .raw bagR) rfl rfl rfl))))) (dss_cons (ds_def (i := 14) sc_law.nd (kde_call (K := K) rfl (ok_zigzag_three_rows E) (hr.mono (by decide)) rfl E.m_zigzag_three_rows E.F_zigzag_three_rows.kp E.b_zigzag_three_rows (dcs_cons (de_var 11 (pv 11)) (dcs_cons (de_var 10 (pv 10)) (dcs_nil))) (fits_pure rfl))) (dss_cons (ds_if (DW.t ((dw_or (dt_ne (K := K) rfl hr (DE.b (de_len (K := K) rfl rfl E.z_len (dbs_cons (DE.b (de_var 14 (pv 14))) (dbs_nil)))) (DE.b (kde_call (K := K) rfl (ok__law_number E) (hr.mono (by decide)) rfl E.m__law_number E.F__law_number.kp E.b__law_number (dcs_cons (de_var 11 (pv 11)) (dcs_cons (de_var 10 (pv 10)) (dcs_nil))) (fits_pure rfl))) (nomark _)) (dw_or1 (dt_val (de_any (K := K) rfl rfl rfl E.z_any (dbs_cons (DN.b (dn_lc (own := [("one", 17), ("other", 18)]) [17, 18] rfl sc_law.nd (kdj_zip (K := K) rfl rfl E.z_zip (dfs_cons (de_var 14 (pv 14)) (dfs_cons (kde_sl (K := K) rfl (DE.b (de_var 14 (pv 14))) (dp_some (DE.b (de_c (.int 1) pe_int))) dp_none) (dfs_nil)))) (blkOk_by (by rfl)) (fun _ _ _ _ _ => kdg_tup (K := K) rfl rfl (dgs_cons (dg_name (pg_name (i := 17) sc_law.nd rfl (by first | exact Or.inl rfl | exact Or.inr rfl))) (dgs_cons (dg_name (pg_name (i := 18) sc_law.nd rfl (by first | exact Or.inl rfl | exact Or.inr rfl))) dgs_nil)) rfl rfl (ksCons_len (ksCons_len ksNil_len))) (fun _ _ _ _ _ => dts_nil) (fun _ _ _ _ _ => de_ge (K := K) rfl hr (DE.b (de_var 17 (pv 17))) (DE.b (de_var 18 (pv 18))) (nomark _)) (tw_tup (tws_cons tw_name (tws_cons tw_name tws_nil))))) (dbs_nil)))))))) (dss_cons (ds_ret (de_c (.bool false) pe_bl) (hr := (subO_lk ⟨rfl, trivial⟩))) dss_nil) (dss_nil)) (dss_cons (ds_ret (de_all (K := K) rfl rfl rfl E.z_all (dbs_cons (DN.b (dn_lc (own := [("row", 3)]) [3] rfl sc_law.nd (kdj_seq (K := K) rfl (kde_step (K := K) rfl (DE.b (de_var 14 (pv 14))) (dp_some (DE.b (kde_call (K := K) rfl (ok__law_draw E) (hr.mono (by decide)) rfl E.m__law_draw E.F__law_draw.kp E.b__law_draw (dcs_own 1 (pv 1) (dcs_cons (de_c (.int 9) pe_int) (dcs_nil))) (fits_one (i0 := 0) (j := 1) (kd := .raw bagR) rfl rfl rfl)))) dp_none (dp_some (DE.b (de_c (.int 9) pe_int))))) (blkOk_by (by rfl)) (fun _ _ _ _ _ => dg_name (pg_name (i := 3) sc_law.nd rfl (by first | exact Or.inl rfl | exact Or.inr rfl))) (fun _ _ _ _ _ => dts_nil) (fun _ _ _ _ _ => (de_andV (kde_call (K := K) rfl (ok_is_zigzag E) (hr.mono (by decide)) rfl E.m_is_zigzag E.F_is_zigzag.kp E.b_is_zigzag (dcs_cons (de_var 3 (pv 3)) (dcs_nil)) (fits_pure rfl)) (de_one (kde_call (K := K) rfl (ok__law_bars E) (hr.mono (by decide)) rfl E.m__law_bars E.F__law_bars.kp E.b__law_bars (dcs_cons (de_var 3 (pv 3)) (dcs_cons (de_var 11 (pv 11)) (dcs_nil))) (fits_pure rfl))))) tw_name)) (dbs_nil))) (hr := (subO_lk ⟨rfl, trivial⟩))) dss_nil))))))))))))))))⟩
end
/-! ### the top, shown -/
theorem all_mk {l : PySem.W.OpenLaw} {w : World} {K : PySem.W.Frag} {h : Heap} {mg : Str → Option Value} {fa : Addr} (X : K.In h) (G : h.Ns mainGlobals mg) (hfa : mg "law" = some (.ref fa))
    {f0 f1 f2 f3 f4 f5 f6 f7 f8 f9 f10 f11 f12 f13 f14 f15 f16 f17 f18 f19 f20 f21 f22 f23 : Addr} {od0 an0 od1 an1 od2 an2 od3 an3 od4 an4 od5 an5 od6 an6 od7 an7 od8 an8 od9 an9 od10 an10 od11 an11 od12 an12 od13 an13 od14 an14 od15 an15 od16 an16 od17 an17 od18 an18 od19 an19 od20 an20 od21 an21 od22 an22 od23 an23 : Option Addr} {sl0 sl1 sl2 sl3 sl4 sl5 sl6 sl7 sl8 sl9 sl10 sl11 sl12 sl13 sl14 sl15 sl16 sl17 sl18 sl19 sl20 sl21 sl22 sl23 : Array (Option Value)} {oc0 kV0 dc0 pm0 cd0 ct0 oc1 kV1 dc1 pm1 cd1 ct1 oc2 kV2 dc2 pm2 cd2 ct2 oc3 kV3 dc3 pm3 cd3 ct3 oc4 kV4 dc4 pm4 cd4 ct4 oc5 kV5 dc5 pm5 cd5 ct5 oc6 kV6 dc6 pm6 cd6 ct6 oc7 kV7 dc7 pm7 cd7 ct7 oc8 kV8 dc8 pm8 cd8 ct8 oc9 kV9 dc9 pm9 cd9 ct9 oc10 kV10 dc10 pm10 cd10 ct10 oc11 kV11 dc11 pm11 cd11 ct11 oc12 kV12 dc12 pm12 cd12 ct12 oc13 kV13 dc13 pm13 cd13 ct13 oc14 kV14 dc14 pm14 cd14 ct14 oc15 kV15 dc15 pm15 cd15 ct15 oc16 kV16 dc16 pm16 cd16 ct16 oc17 kV17 dc17 pm17 cd17 ct17 oc18 kV18 dc18 pm18 cd18 ct18 oc19 kV19 dc19 pm19 cd19 ct19 oc20 kV20 dc20 pm20 cd20 ct20 oc21 kV21 dc21 pm21 cd21 ct21 oc22 kV22 dc22 pm22 cd22 ct22 oc23 kV23 dc23 pm23 cd23 ct23 : Value}
    (a0 : PySem.W.nsIn K mainGlobals "nexts" = some (some (.ref f0))) (l0 : K.lookup f0 = some ⟨oc0, od0, .func (PySem.W.fnOf "nexts" "nexts" (defArgs s_nexts) (defBody s_nexts) (defScope s_nexts) .none kV0 dc0 pm0 an0 cd0 ct0), sl0⟩) (c0 : PySem.W.codeIn K cd0 "nexts" = true) (k0 : PySem.W.keepIn K (.ref f0) = true)
    (a1 : PySem.W.nsIn K mainGlobals "collect" = some (some (.ref f1))) (l1 : K.lookup f1 = some ⟨oc1, od1, .func (PySem.W.fnOf "collect" "collect" (defArgs s_collect) (defBody s_collect) (defScope s_collect) .none kV1 dc1 pm1 an1 cd1 ct1), sl1⟩) (c1 : PySem.W.codeIn K cd1 "collect" = true) (k1 : PySem.W.keepIn K (.ref f1) = true)
    (a2 : PySem.W.nsIn K mainGlobals "first_placing" = some (some (.ref f2))) (l2 : K.lookup f2 = some ⟨oc2, od2, .func (PySem.W.fnOf "first_placing" "first_placing" (defArgs s_first_placing) (defBody s_first_placing) (defScope s_first_placing) .none kV2 dc2 pm2 an2 cd2 ct2), sl2⟩) (c2 : PySem.W.codeIn K cd2 "first_placing" = true) (k2 : PySem.W.keepIn K (.ref f2) = true)
    (a3 : PySem.W.nsIn K mainGlobals "is_within" = some (some (.ref f3))) (l3 : K.lookup f3 = some ⟨oc3, od3, .func (PySem.W.fnOf "is_within" "is_within" (defArgs s_is_within) (defBody s_is_within) (defScope s_is_within) .none kV3 dc3 pm3 an3 cd3 ct3), sl3⟩) (c3 : PySem.W.codeIn K cd3 "is_within" = true) (k3 : PySem.W.keepIn K (.ref f3) = true)
    (a4 : PySem.W.nsIn K mainGlobals "choose" = some (some (.ref f4))) (l4 : K.lookup f4 = some ⟨oc4, od4, .func (PySem.W.fnOf "choose" "choose" (defArgs s_choose) (defBody s_choose) (defScope s_choose) .none kV4 dc4 pm4 an4 cd4 ct4), sl4⟩) (c4 : PySem.W.codeIn K cd4 "choose" = true) (k4 : PySem.W.keepIn K (.ref f4) = true)
    (a5 : PySem.W.nsIn K mainGlobals "is_zigzag" = some (some (.ref f5))) (l5 : K.lookup f5 = some ⟨oc5, od5, .func (PySem.W.fnOf "is_zigzag" "is_zigzag" (defArgs s_is_zigzag) (defBody s_is_zigzag) (defScope s_is_zigzag) .none kV5 dc5 pm5 an5 cd5 ct5), sl5⟩) (c5 : PySem.W.codeIn K cd5 "is_zigzag" = true) (k5 : PySem.W.keepIn K (.ref f5) = true)
    (a6 : PySem.W.nsIn K mainGlobals "zigzag_count" = some (some (.ref f6))) (l6 : K.lookup f6 = some ⟨oc6, od6, .func (PySem.W.fnOf "zigzag_count" "zigzag_count" (defArgs s_zigzag_count) (defBody s_zigzag_count) (defScope s_zigzag_count) .none kV6 dc6 pm6 an6 cd6 ct6), sl6⟩) (c6 : PySem.W.codeIn K cd6 "zigzag_count" = true) (k6 : PySem.W.keepIn K (.ref f6) = true)
    (a7 : PySem.W.nsIn K mainGlobals "bracket_count" = some (some (.ref f7))) (l7 : K.lookup f7 = some ⟨oc7, od7, .func (PySem.W.fnOf "bracket_count" "bracket_count" (defArgs s_bracket_count) (defBody s_bracket_count) (defScope s_bracket_count) .none kV7 dc7 pm7 an7 cd7 ct7), sl7⟩) (c7 : PySem.W.codeIn K cd7 "bracket_count" = true) (k7 : PySem.W.keepIn K (.ref f7) = true)
    (a8 : PySem.W.nsIn K mainGlobals "zigzag_three_count" = some (some (.ref f8))) (l8 : K.lookup f8 = some ⟨oc8, od8, .func (PySem.W.fnOf "zigzag_three_count" "zigzag_three_count" (defArgs s_zigzag_three_count) (defBody s_zigzag_three_count) (defScope s_zigzag_three_count) .none kV8 dc8 pm8 an8 cd8 ct8), sl8⟩) (c8 : PySem.W.codeIn K cd8 "zigzag_three_count" = true) (k8 : PySem.W.keepIn K (.ref f8) = true)
    (a9 : PySem.W.nsIn K mainGlobals "with_last" = some (some (.ref f9))) (l9 : K.lookup f9 = some ⟨oc9, od9, .func (PySem.W.fnOf "with_last" "with_last" (defArgs s_with_last) (defBody s_with_last) (defScope s_with_last) .none kV9 dc9 pm9 an9 cd9 ct9), sl9⟩) (c9 : PySem.W.codeIn K cd9 "with_last" = true) (k9 : PySem.W.keepIn K (.ref f9) = true)
    (a10 : PySem.W.nsIn K mainGlobals "zigzag_three_rows" = some (some (.ref f10))) (l10 : K.lookup f10 = some ⟨oc10, od10, .func (PySem.W.fnOf "zigzag_three_rows" "zigzag_three_rows" (defArgs s_zigzag_three_rows) (defBody s_zigzag_three_rows) (defScope s_zigzag_three_rows) .none kV10 dc10 pm10 an10 cd10 ct10), sl10⟩) (c10 : PySem.W.codeIn K cd10 "zigzag_three_rows" = true) (k10 : PySem.W.keepIn K (.ref f10) = true)
    (a11 : PySem.W.nsIn K mainGlobals "_law_bag" = some (some (.ref f11))) (l11 : K.lookup f11 = some ⟨oc11, od11, .func (PySem.W.fnOf "_law_bag" "_law_bag" (defArgs s__law_bag) (defBody s__law_bag) (defScope s__law_bag) .none kV11 dc11 pm11 an11 cd11 ct11), sl11⟩) (c11 : PySem.W.codeIn K cd11 "_law_bag" = true) (k11 : PySem.W.keepIn K (.ref f11) = true)
    (a12 : PySem.W.nsIn K mainGlobals "_law_draw" = some (some (.ref f12))) (l12 : K.lookup f12 = some ⟨oc12, od12, .func (PySem.W.fnOf "_law_draw" "_law_draw" (defArgs s__law_draw) (defBody s__law_draw) (defScope s__law_draw) .none kV12 dc12 pm12 an12 cd12 ct12), sl12⟩) (c12 : PySem.W.codeIn K cd12 "_law_draw" = true) (k12 : PySem.W.keepIn K (.ref f12) = true)
    (a13 : PySem.W.nsIn K mainGlobals "_law_pick" = some (some (.ref f13))) (l13 : K.lookup f13 = some ⟨oc13, od13, .func (PySem.W.fnOf "_law_pick" "_law_pick" (defArgs s__law_pick) (defBody s__law_pick) (defScope s__law_pick) .none kV13 dc13 pm13 an13 cd13 ct13), sl13⟩) (c13 : PySem.W.codeIn K cd13 "_law_pick" = true) (k13 : PySem.W.keepIn K (.ref f13) = true)
    (a14 : PySem.W.nsIn K mainGlobals "_law_row" = some (some (.ref f14))) (l14 : K.lookup f14 = some ⟨oc14, od14, .func (PySem.W.fnOf "_law_row" "_law_row" (defArgs s__law_row) (defBody s__law_row) (defScope s__law_row) .none kV14 dc14 pm14 an14 cd14 ct14), sl14⟩) (c14 : PySem.W.codeIn K cd14 "_law_row" = true) (k14 : PySem.W.keepIn K (.ref f14) = true)
    (a15 : PySem.W.nsIn K mainGlobals "_law_like" = some (some (.ref f15))) (l15 : K.lookup f15 = some ⟨oc15, od15, .func (PySem.W.fnOf "_law_like" "_law_like" (defArgs s__law_like) (defBody s__law_like) (defScope s__law_like) .none kV15 dc15 pm15 an15 cd15 ct15), sl15⟩) (c15 : PySem.W.codeIn K cd15 "_law_like" = true) (k15 : PySem.W.keepIn K (.ref f15) = true)
    (a16 : PySem.W.nsIn K mainGlobals "_law_lots" = some (some (.ref f16))) (l16 : K.lookup f16 = some ⟨oc16, od16, .func (PySem.W.fnOf "_law_lots" "_law_lots" (defArgs s__law_lots) (defBody s__law_lots) (defScope s__law_lots) .none kV16 dc16 pm16 an16 cd16 ct16), sl16⟩) (c16 : PySem.W.codeIn K cd16 "_law_lots" = true) (k16 : PySem.W.keepIn K (.ref f16) = true)
    (a17 : PySem.W.nsIn K mainGlobals "_law_choose" = some (some (.ref f17))) (l17 : K.lookup f17 = some ⟨oc17, od17, .func (PySem.W.fnOf "_law_choose" "_law_choose" (defArgs s__law_choose) (defBody s__law_choose) (defScope s__law_choose) .none kV17 dc17 pm17 an17 cd17 ct17), sl17⟩) (c17 : PySem.W.codeIn K cd17 "_law_choose" = true) (k17 : PySem.W.keepIn K (.ref f17) = true)
    (a18 : PySem.W.nsIn K mainGlobals "_law_bars" = some (some (.ref f18))) (l18 : K.lookup f18 = some ⟨oc18, od18, .func (PySem.W.fnOf "_law_bars" "_law_bars" (defArgs s__law_bars) (defBody s__law_bars) (defScope s__law_bars) .none kV18 dc18 pm18 an18 cd18 ct18), sl18⟩) (c18 : PySem.W.codeIn K cd18 "_law_bars" = true) (k18 : PySem.W.keepIn K (.ref f18) = true)
    (a19 : PySem.W.nsIn K mainGlobals "_law_ends_well" = some (some (.ref f19))) (l19 : K.lookup f19 = some ⟨oc19, od19, .func (PySem.W.fnOf "_law_ends_well" "_law_ends_well" (defArgs s__law_ends_well) (defBody s__law_ends_well) (defScope s__law_ends_well) .none kV19 dc19 pm19 an19 cd19 ct19), sl19⟩) (c19 : PySem.W.codeIn K cd19 "_law_ends_well" = true) (k19 : PySem.W.keepIn K (.ref f19) = true)
    (a20 : PySem.W.nsIn K mainGlobals "_law_zigzags" = some (some (.ref f20))) (l20 : K.lookup f20 = some ⟨oc20, od20, .func (PySem.W.fnOf "_law_zigzags" "_law_zigzags" (defArgs s__law_zigzags) (defBody s__law_zigzags) (defScope s__law_zigzags) .none kV20 dc20 pm20 an20 cd20 ct20), sl20⟩) (c20 : PySem.W.codeIn K cd20 "_law_zigzags" = true) (k20 : PySem.W.keepIn K (.ref f20) = true)
    (a21 : PySem.W.nsIn K mainGlobals "_law_counts" = some (some (.ref f21))) (l21 : K.lookup f21 = some ⟨oc21, od21, .func (PySem.W.fnOf "_law_counts" "_law_counts" (defArgs s__law_counts) (defBody s__law_counts) (defScope s__law_counts) .none kV21 dc21 pm21 an21 cd21 ct21), sl21⟩) (c21 : PySem.W.codeIn K cd21 "_law_counts" = true) (k21 : PySem.W.keepIn K (.ref f21) = true)
    (a22 : PySem.W.nsIn K mainGlobals "_law_number" = some (some (.ref f22))) (l22 : K.lookup f22 = some ⟨oc22, od22, .func (PySem.W.fnOf "_law_number" "_law_number" (defArgs s__law_number) (defBody s__law_number) (defScope s__law_number) .none kV22 dc22 pm22 an22 cd22 ct22), sl22⟩) (c22 : PySem.W.codeIn K cd22 "_law_number" = true) (k22 : PySem.W.keepIn K (.ref f22) = true)
    (a23 : PySem.W.nsIn K mainGlobals "law" = some (some (.ref f23))) (l23 : K.lookup f23 = some ⟨oc23, od23, .func (PySem.W.fnOf "law" "law" (defArgs s_law) (defBody s_law) (defScope s_law) .none kV23 dc23 pm23 an23 cd23 ct23), sl23⟩) (c23 : PySem.W.codeIn K cd23 "law" = true) (k23 : PySem.W.keepIn K (.ref f23) = true)
    (z_abs : PySem.W.nsIn K mainGlobals "abs" = some none)
    (z_all : PySem.W.nsIn K mainGlobals "all" = some none)
    (z_any : PySem.W.nsIn K mainGlobals "any" = some none)
    (z_enumerate : PySem.W.nsIn K mainGlobals "enumerate" = some none)
    (z_int : PySem.W.nsIn K mainGlobals "int" = some none)
    (z_len : PySem.W.nsIn K mainGlobals "len" = some none)
    (z_list : PySem.W.nsIn K mainGlobals "list" = some none)
    (z_max : PySem.W.nsIn K mainGlobals "max" = some none)
    (z_min : PySem.W.nsIn K mainGlobals "min" = some none)
    (z_range : PySem.W.nsIn K mainGlobals "range" = some none)
    (z_repr : PySem.W.nsIn K mainGlobals "repr" = some none)
    (z_sorted : PySem.W.nsIn K mainGlobals "sorted" = some none)
    (z_sum : PySem.W.nsIn K mainGlobals "sum" = some none)
    (z_tuple : PySem.W.nsIn K mainGlobals "tuple" = some none)
    (z_zip : PySem.W.nsIn K mainGlobals "zip" = some none)
    {t_MAX_LISTED : Tok} (g_MAX_LISTED : PySem.W.nsIn K mainGlobals "MAX_LISTED" = some (some (.int 500 t_MAX_LISTED)))
    : ∃ fd : FuncData, (∀ (s : Shared) (u : Value), BindsTo s fd ⟨[u], []⟩ [("script", u)]) ∧ ∀ (ns : List Int) (ob : Obj), ns.length ≤ 63 → ∀ base : Heap, K.In base → base.Ns mainGlobals mg → FnG l.prog w K mg base CX0 19 fa fd ["script"] (spR K 1 [(0, .raw (scR ns ob))] (d_law ns)) := by
  have e := hfa.symm.trans (PySem.W.mg_of X G a23)
  cases e
  have F0 := fun_mk (st := s_nexts) l0 c0 k0
  have F1 := fun_mk (st := s_collect) l1 c1 k1
  have F2 := fun_mk (st := s_first_placing) l2 c2 k2
  have F3 := fun_mk (st := s_is_within) l3 c3 k3
  have F4 := fun_mk (st := s_choose) l4 c4 k4
  have F5 := fun_mk (st := s_is_zigzag) l5 c5 k5
  have F6 := fun_mk (st := s_zigzag_count) l6 c6 k6
  have F7 := fun_mk (st := s_bracket_count) l7 c7 k7
  have F8 := fun_mk (st := s_zigzag_three_count) l8 c8 k8
  have F9 := fun_mk (st := s_with_last) l9 c9 k9
  have F10 := fun_mk (st := s_zigzag_three_rows) l10 c10 k10
  have F11 := fun_mk (st := s__law_bag) l11 c11 k11
  have F12 := fun_mk (st := s__law_draw) l12 c12 k12
  have F13 := fun_mk (st := s__law_pick) l13 c13 k13
  have F14 := fun_mk (st := s__law_row) l14 c14 k14
  have F15 := fun_mk (st := s__law_like) l15 c15 k15
  have F16 := fun_mk (st := s__law_lots) l16 c16 k16
  have F17 := fun_mk (st := s__law_choose) l17 c17 k17
  have F18 := fun_mk (st := s__law_bars) l18 c18 k18
  have F19 := fun_mk (st := s__law_ends_well) l19 c19 k19
  have F20 := fun_mk (st := s__law_zigzags) l20 c20 k20
  have F21 := fun_mk (st := s__law_counts) l21 c21 k21
  have F22 := fun_mk (st := s__law_number) l22 c22 k22
  have F23 := fun_mk (st := s_law) l23 c23 k23
  have b0 := F0.binds (ps := ["row", "pattern", "places"]) fun _ _ _ _ _ _ us hl => match us, hl with | [_, _, _], _ => rfl
  have b1 := F1.binds (ps := ["row", "pattern", "places", "found", "most"]) fun _ _ _ _ _ _ us hl => match us, hl with | [_, _, _, _, _], _ => rfl
  have b2 := F2.binds (ps := ["row", "pattern"]) fun _ _ _ _ _ _ us hl => match us, hl with | [_, _], _ => rfl
  have b3 := F3.binds (ps := ["pattern", "row"]) fun _ _ _ _ _ _ us hl => match us, hl with | [_, _], _ => rfl
  have b4 := F4.binds (ps := ["number", "part"]) fun _ _ _ _ _ _ us hl => match us, hl with | [_, _], _ => rfl
  have b5 := F5.binds (ps := ["row"]) fun _ _ _ _ _ _ us hl => match us, hl with | [_], _ => rfl
  have b6 := F6.binds (ps := ["many"]) fun _ _ _ _ _ _ us hl => match us, hl with | [_], _ => rfl
  have b7 := F7.binds (ps := ["number"]) fun _ _ _ _ _ _ us hl => match us, hl with | [_], _ => rfl
  have b8 := F8.binds (ps := ["p", "many"]) fun _ _ _ _ _ _ us hl => match us, hl with | [_, _], _ => rfl
  have b9 := F9.binds (ps := ["row", "item"]) fun _ _ _ _ _ _ us hl => match us, hl with | [_, _], _ => rfl
  have b10 := F10.binds (ps := ["p", "many"]) fun _ _ _ _ _ _ us hl => match us, hl with | [_, _], _ => rfl
  have b11 := F11.binds (ps := ["script"]) fun _ _ _ _ _ _ us hl => match us, hl with | [_], _ => rfl
  have b12 := F12.binds (ps := ["bag", "below"]) fun _ _ _ _ _ _ us hl => match us, hl with | [_, _], _ => rfl
  have b13 := F13.binds (ps := ["bag", "some"]) fun _ _ _ _ _ _ us hl => match us, hl with | [_, _], _ => rfl
  have b14 := F14.binds (ps := ["bag", "many"]) fun _ _ _ _ _ _ us hl => match us, hl with | [_, _], _ => rfl
  have b15 := F15.binds (ps := ["items"]) fun _ _ _ _ _ _ us hl => match us, hl with | [_], _ => rfl
  have b16 := F16.binds (ps := ["many", "few"]) fun _ _ _ _ _ _ us hl => match us, hl with | [_, _], _ => rfl
  have b17 := F17.binds (ps := ["many", "few"]) fun _ _ _ _ _ _ us hl => match us, hl with | [_, _], _ => rfl
  have b18 := F18.binds (ps := ["row", "p"]) fun _ _ _ _ _ _ us hl => match us, hl with | [_, _], _ => rfl
  have b19 := F19.binds (ps := ["row", "item", "p"]) fun _ _ _ _ _ _ us hl => match us, hl with | [_, _, _], _ => rfl
  have b20 := F20.binds (ps := ["many", "p"]) fun _ _ _ _ _ _ us hl => match us, hl with | [_, _], _ => rfl
  have b21 := F21.binds (ps := ["most"]) fun _ _ _ _ _ _ us hl => match us, hl with | [_], _ => rfl
  have b22 := F22.binds (ps := ["p", "n"]) fun _ _ _ _ _ _ us hl => match us, hl with | [_, _], _ => rfl
  have b23 := F23.binds (ps := ["script"]) fun _ _ _ _ _ _ us hl => match us, hl with | [_], _ => rfl
  exact ⟨_, fun s v => .of_eq rfl, fun ns ob hns base _ _ => ok_law (⟨_, _, F0, b0, (PySem.W.mg_of X G a0), _, _, F1, b1, (PySem.W.mg_of X G a1), _, _, F2, b2, (PySem.W.mg_of X G a2), _, _, F3, b3, (PySem.W.mg_of X G a3), _, _, F4, b4, (PySem.W.mg_of X G a4), _, _, F5, b5, (PySem.W.mg_of X G a5), _, _, F6, b6, (PySem.W.mg_of X G a6), _, _, F7, b7, (PySem.W.mg_of X G a7), _, _, F8, b8, (PySem.W.mg_of X G a8), _, _, F9, b9, (PySem.W.mg_of X G a9), _, _, F10, b10, (PySem.W.mg_of X G a10), _, _, F11, b11, (PySem.W.mg_of X G a11), _, _, F12, b12, (PySem.W.mg_of X G a12), _, _, F13, b13, (PySem.W.mg_of X G a13), _, _, F14, b14, (PySem.W.mg_of X G a14), _, _, F15, b15, (PySem.W.mg_of X G a15), _, _, F16, b16, (PySem.W.mg_of X G a16), _, _, F17, b17, (PySem.W.mg_of X G a17), _, _, F18, b18, (PySem.W.mg_of X G a18), _, _, F19, b19, (PySem.W.mg_of X G a19), _, _, F20, b20, (PySem.W.mg_of X G a20), _, _, F21, b21, (PySem.W.mg_of X G a21), _, _, F22, b22, (PySem.W.mg_of X G a22), _, _, F23, b23, (PySem.W.mg_of X G a23), (PySem.W.mg_none_of X G z_abs), (PySem.W.mg_none_of X G z_all), (PySem.W.mg_none_of X G z_any), (PySem.W.mg_none_of X G z_enumerate), (PySem.W.mg_none_of X G z_int), (PySem.W.mg_none_of X G z_len), (PySem.W.mg_none_of X G z_list), (PySem.W.mg_none_of X G z_max), (PySem.W.mg_none_of X G z_min), (PySem.W.mg_none_of X G z_range), (PySem.W.mg_none_of X G z_repr), (PySem.W.mg_none_of X G z_sorted), (PySem.W.mg_none_of X G z_sum), (PySem.W.mg_none_of X G z_tuple), (PySem.W.mg_none_of X G z_zip), ⟨_, PySem.W.mg_of X G g_MAX_LISTED⟩⟩ : GE K mg) ns ob hns⟩
end Lk78

set_option Elab.async false
set_option linter.all false
set_option maxRecDepth 100000
set_option maxHeartbeats 4000000
/-! the plain law of k78: is_zigzag -/
namespace Lk78
open PySem PySem.Spec PyProof.Rows L2 DL
def zzL : Nat → List Int → List Bool
  | _, [] => []
  | _, [_] => []
  | k, x :: y :: t => (decide (x < y) == decide ((k : Int).fmod 2 = 0)) :: zzL (k + 1) (y :: t)
theorem zzL_len : ∀ (r : List Int) (k : Nat), (zzL k r).length = r.length - 1
  | [], _ => rfl
  | [_], _ => rfl
  | x :: y :: t, k => by
    rw [zzL, List.length_cons, zzL_len (y :: t) (k + 1)]
    simp
theorem rangeL_succ (lo : Int) (n : Nat) : rangeL lo (n + 1) = .int lo :: rangeL (lo + 1) n := by
  unfold rangeL
  rw [List.range_succ_eq_map, List.map_cons, List.map_map]
  congr 1
  · simp
  · refine List.map_congr_left fun i _ => ?_
    simp only [Function.comp]
    congr 1
    omega
def zE : En → M D := eBin eqD (eBin ltD (eBin ixD (eVar 0) (eVar 1)) (eBin ixD (eVar 0) (eBin addD (eVar 1) (eC (.int 1))))) (eBin eqD (eBin modD (eVar 1) (eC (.int 2))) (eC (.int 0)))
theorem zigA_comp {r : List Int} (ρ : En) (hl : ρ.length = 2) (h0 : ρ[0]? = some (some (tupI r))) : ∀ (t : List Int) (k : Nat), r.drop k = t → compL (kName 1) tYesD zE ρ (rangeL (k : Nat) (t.length - 1)) = .ret ((zzL k t).map PyData.bool)
  | [], k, _ => rfl
  | [_], k, _ => rfl
  | x :: y :: t, k, hd => by
    have e0 : eVar 0 (ρ.set 1 (some (.int (k : Nat)))) = .ret (tupI r) := by unfold eVar; rw [List.getElem?_set_ne (by decide), h0]
    have e1 : eVar 1 (ρ.set 1 (some (.int (k : Nat)))) = .ret (.int (k : Nat)) := by unfold eVar; rw [List.getElem?_set_self (by omega)]
    have gx : r[k]? = some x := by rw [← List.head?_drop, hd]; rfl
    have hd1 : r.drop (k + 1) = y :: t := by rw [← List.drop_drop, hd]; rfl
    have gy : r[k + 1]? = some y := by rw [← List.head?_drop, hd1]; rfl
    have ih := zigA_comp ρ hl h0 (y :: t) (k + 1) hd1
    have ix := ix_tup gx
    have iy := ix_tup gy
    have ec : ((k + 1 : Nat) : Int) = (k : Int) + 1 := by omega
    rw [ec] at iy ih
    have ev : zE (ρ.set 1 (some (.int (k : Nat)))) = .ret (.bool (decide (x < y) == decide ((k : Int).fmod 2 = 0))) := by
      unfold zE
      simp only [eBin, eC, e0, e1, M.ret_bind, addD_int, ix, iy, ltD_int, modD_int _ 2 (by decide), eqD_int, eqD_bool]
    have hn : (x :: y :: t).length - 1 = (y :: t).length - 1 + 1 := by simp
    rw [hn, rangeL_succ, compL, zzL]
    simp only [kName, hl, show (1 : Nat) < 2 by decide, if_true, M.ret_bind, tYesD, ev, ih, List.map_cons]
theorem bools_map : ∀ bs : List Bool, boolsOf (bs.map PyData.bool) = some bs
  | [] => rfl
  | b :: bs => by rw [List.map_cons, boolsOf, bools_map bs]; rfl
theorem allD_map (bs : List Bool) : allD [.list (bs.map PyData.bool)] = .ret (.bool (bs.all id)) := by simp only [allD, bools_map]
theorem small_ok {i : Int} (h0 : -1 ≤ i) (h1 : i ≤ 1000) : smallI i = true := by
  unfold smallI
  rw [Bool.and_eq_true]
  exact ⟨decide_eq_true (by omega), decide_eq_true (by omega)⟩
theorem range1_ok {fs : En → M (List D)} {ρ : En} {i : Int} (h : fs ρ = .ret [.int i]) (hs : smallI i = true) : iRange1 fs ρ = .ret (rangeL 0 i.toNat) := by
  unfold iRange1
  rw [h]
  have e : ∀ {b : Bool} {x : List D}, b = true → (if b then M.ret x else M.bad) = M.ret x := fun hb => by rw [if_pos hb]
  exact e hs
theorem comp_ok {fi : En → M (List D)} {vs : List Nat} {ft : D → En → M En} {fc : En → M Bool} {fe : En → M D} {ρ : En} {xs ds : List D} (h1 : fi ρ = .ret xs) (hl : xs.length ≤ 1000) (h2 : compL ft fc fe (killS vs ρ) xs = .ret ds) : eComp fi vs ft fc fe ρ = .ret (.list ds) := by
  unfold eComp
  rw [h1, M.ret_bind, if_pos (by rw [sizeLine_eq]; omega), h2]
  rfl
theorem call1 {g : List D → M D} {f : En → M D} {ρ : En} {d : D} (h : f ρ = .ret d) : eCall g (aCons f aNil) ρ = g [d] := by
  unfold eCall aCons aNil
  rw [h]
  rfl
theorem zigzag_ok {r : List Int} (h : r.length ≤ 1000) : d_is_zigzag [tupI r] = .ret (.bool ((zzL 0 r).all id)) := by
  have e1 : iRange1 (aCons (eBin subD (eCall lenD (aCons (eVar 0) aNil)) (eC (.int 1))) aNil) [some (tupI r), none] = .ret (rangeL 0 (r.length - 1)) := by
    have e : (aCons (eBin subD (eCall lenD (aCons (eVar 0) aNil)) (eC (.int 1))) aNil) [some (tupI r), none] = .ret [.int ((r.length : Int) - 1)] := by
      simp only [aCons, aNil, eBin, eCall, eVar, eC, List.getElem?_cons_zero, M.ret_bind, lenD_tup, List.length_map, subD_int]
    have e2 := range1_ok e (small_ok (by omega) (by omega))
    rw [e2]
    congr 2
    omega
  have hl : (rangeL 0 (r.length - 1)).length ≤ 1000 := by unfold rangeL; rw [List.length_map, List.length_range]; omega
  have e2 := comp_ok (vs := [1]) e1 hl (zigA_comp (r := r) (killS [1] [some (tupI r), none]) rfl rfl r 0 rfl)
  unfold d_is_zigzag runR
  have e3 : eCall allD (aCons (eComp (iRange1 (aCons (eBin subD (eCall lenD (aCons (eVar 0) aNil)) (eC (.int 1))) aNil)) [1] (kName 1) tYesD zE) aNil) [some (tupI r), none] = .ret (.bool ((zzL 0 r).all id)) := by
    rw [call1 e2, allD_map]
  have e4 : (gSeq (gRet (eCall allD (aCons (eComp (iRange1 (aCons (eBin subD (eCall lenD (aCons (eVar 0) aNil)) (eC (.int 1))) aNil)) [1] (kName 1) tYesD zE) aNil))) gNil) [some (tupI r), none] = .ret (.rt (.bool ((zzL 0 r).all id)), [some (tupI r), none]) := by
    unfold gSeq gRet
    rw [e3]
    rfl
  have e5 : entE 1 [tupI r] = [some (tupI r), none] := rfl
  rw [e5]
  exact bind_ret e4
def zK : D → En → M En := DL.kTup (ksCons (kName 16) (ksCons (DL.kTup (ksCons (kName 17) (ksCons (kName 18) ksNil))) ksNil))
def zF : En → M D := eBin eqD (eBin ltD (eVar 17) (eVar 18)) (eBin eqD (eBin modD (eCall intD (aCons (eVar 16) aNil)) (eC (.int 2))) (eC (.int 0)))
theorem zigB_comp (ρ : En) (hl : ρ.length = 19) : ∀ (r : List Int) (k : Nat), compL zK tYesD zF ρ (enumFr k (zipD (r.map PyData.int) ((r.drop 1).map PyData.int))) = .ret ((zzL k r).map PyData.bool)
  | [], k => rfl
  | [x], k => rfl
  | x :: y :: t, k => by
    have ih := zigB_comp ρ hl (y :: t) (k + 1)
    have s1 : ∀ (l : En) (i : Nat) (v : Option D), (l.set i v).length = l.length := fun l i v => List.length_set ..
    have k1 : zK (.tuple [.int (k : Nat), .tuple [.int x, .int y]]) ρ = .ret (((ρ.set 16 (some (.int (k : Nat)))).set 17 (some (.int x))).set 18 (some (.int y))) := by
      unfold zK DL.kTup ksCons ksNil kName
      simp only [s1, hl, show (16 : Nat) < 19 by decide, show (17 : Nat) < 19 by decide, show (18 : Nat) < 19 by decide, if_true, M.ret_bind]
    have e16 : eVar 16 (((ρ.set 16 (some (.int (k : Nat)))).set 17 (some (.int x))).set 18 (some (.int y))) = .ret (.int (k : Nat)) := by
      unfold eVar; rw [List.getElem?_set_ne (by decide), List.getElem?_set_ne (by decide), List.getElem?_set_self (by omega)]
    have e17 : eVar 17 (((ρ.set 16 (some (.int (k : Nat)))).set 17 (some (.int x))).set 18 (some (.int y))) = .ret (.int x) := by
      unfold eVar; rw [List.getElem?_set_ne (by decide), List.getElem?_set_self (by rw [s1]; omega)]
    have e18 : eVar 18 (((ρ.set 16 (some (.int (k : Nat)))).set 17 (some (.int x))).set 18 (some (.int y))) = .ret (.int y) := by
      unfold eVar; rw [List.getElem?_set_self (by rw [s1, s1]; omega)]
    have ev : zF (((ρ.set 16 (some (.int (k : Nat)))).set 17 (some (.int x))).set 18 (some (.int y))) = .ret (.bool (decide (x < y) == decide ((k : Int).fmod 2 = 0))) := by
      unfold zF
      simp only [eBin, eC, eCall, aCons, aNil, e16, e17, e18, M.ret_bind, DL.intD, ltD_int, modD_int _ 2 (by decide), eqD_int, eqD_bool]
    have en : enumFr k (zipD ((x :: y :: t).map PyData.int) (((x :: y :: t).drop 1).map PyData.int)) = .tuple [.int (k : Nat), .tuple [.int x, .int y]] :: enumFr (k + 1) (zipD ((y :: t).map PyData.int) (((y :: t).drop 1).map PyData.int)) := rfl
    rw [en, compL, zzL, k1]
    simp only [M.ret_bind, tYesD, if_true, ev, ih]
    rfl
end Lk78

set_option Elab.async false
set_option linter.all false
set_option maxRecDepth 100000
set_option maxHeartbeats 4000000
/-! the plain law of k78: the first statement -/
namespace DL
open PySem PySem.Spec PyProof.Rows L2
theorem wp_seqN {g h : G} {ρ ρ' : En} {Q : Fl × En → Prop} (e : g ρ = .ret (.nx, ρ')) (w : (h ρ').wp Q noE) : (gSeq g h ρ).wp Q noE := by rw [seq_nx e]; exact w
theorem wp_seqD {g h : G} {ρ : En} {Q : Fl × En → Prop} (w : (g ρ).wp (fun q => q.1 = .nx ∧ (h q.2).wp Q noE) noE) : (gSeq g h ρ).wp Q noE := by
  refine wp_seqG (M.wp_mono (fun q hq => ?_) (fun _ z => z) w)
  obtain ⟨fl, ρ'⟩ := q
  obtain ⟨h1, h2⟩ := hq
  have h1 : fl = .nx := h1
  subst h1
  exact h2
theorem set_wp {i : Nat} {f : En → M D} {ρ : En} {Q : Fl × En → Prop} (hb : Nat.blt i ρ.length = true) (w : (f ρ).wp (fun d => Q (.nx, ρ.set i (some d))) noE) : (gSetN i f ρ).wp Q noE := by
  unfold gSetN
  rw [hb]
  exact M.wp_bind.mpr w
theorem set_ret {i : Nat} {f : En → M D} {ρ : En} {d : D} (hb : Nat.blt i ρ.length = true) (h : f ρ = .ret d) : gSetN i f ρ = .ret (.nx, ρ.set i (some d)) := by
  unfold gSetN
  rw [hb]
  show gSet i f ρ = _
  unfold gSet
  rw [h]
  rfl
theorem if_T {c : En → M Bool} {g h : G} {ρ : En} (e : c ρ = .ret true) : gIf c g h ρ = g ρ := by unfold gIf; rw [e]; rfl
theorem if_F {c : En → M Bool} {g h : G} {ρ : En} (e : c ρ = .ret false) : gIf c g h ρ = h ρ := by unfold gIf; rw [e]; rfl
theorem forL_wp {kn : D → En → M En} {body : G} {I : Nat → En → Prop} : ∀ (ds : List D) (ρ : En), I ds.length ρ → (∀ d ∈ ds, ∀ n ρ, I (n + 1) ρ → (kn d ρ).wp (fun ρ' => (body ρ').wp (fun q => q.1 = .nx ∧ I n q.2) noE) noE) → (forL kn body ds ρ).wp (fun q => q.1 = .nx ∧ I 0 q.2) noE
  | [], ρ, h, _ => ⟨rfl, h⟩
  | d :: ds, ρ, h, H => by
    rw [forL]
    refine M.wp_bind.mpr (M.wp_mono (fun ρ' k => M.wp_bind.mpr (M.wp_mono (fun q hq => ?_) (fun _ z => z) k)) (fun _ z => z) (H d List.mem_cons_self _ ρ h))
    obtain ⟨fl, ρ2⟩ := q
    obtain ⟨h1, h2⟩ := hq
    have h1 : fl = .nx := h1
    subst h1
    exact forL_wp ds ρ2 h2 fun e he => H e (List.mem_cons_of_mem _ he)
theorem wp_nil {ρ : En} {Q : Fl × En → Prop} (h : Q (.nx, ρ)) : (gNil ρ).wp Q noE := h
theorem eTup_nil (ρ : En) : eTup aNil ρ = .ret (tupI []) := by
  unfold eTup aNil
  simp only [M.ret_bind, List.length_nil, Nat.zero_le, if_true]
  rfl
theorem sortedD_intT (r : List Int) : sortedD [tupI r] = .ret (lstI (sortI r)) := sortedD_int r
theorem like_eqT {xs : List Int} (h : xs.length ≤ 1000) : runR likeG 2 [tupI xs] = .ret (tupI (likeF xs)) := by
  have ent : entE 2 [tupI xs] = [some (tupI xs), none, none] := rfl
  have hz : (xs.map PyData.int).length ≤ sizeLine := by rw [List.length_map, sizeLine_eq]; omega
  unfold runR likeG
  rw [ent, seq_nx (show gSetN 1 _ _ = .ret (.nx, [some (tupI xs), some (lstI (sortI xs)), none]) from by
    simp only [gSetN, List.length_cons, List.length_nil, Nat.reduceAdd, Nat.blt, Nat.ble, gSet, eCall, aCons, aNil, eVar, List.getElem?_cons_zero, M.ret_bind, sortedD_intT, List.set_cons_succ, List.set_cons_zero])]
  rw [seq_rt (show gRet _ _ = .ret (.rt (tupI (likeF xs)), [some (tupI xs), some (lstI (sortI xs)), none]) from by
    simp only [gRet, eCall, aCons, aNil, eComp, iSeq, eVar, List.getElem?_cons_zero, M.ret_bind, seqItems, hz, if_true]
    rw [like_comp (killS [2] _) rfl (ys := sortI xs) rfl xs (fun x hx => sortI_mem.mpr hx)]
    rfl)]
  rfl
theorem likeF_len (xs : List Int) : (likeF xs).length = xs.length := by unfold likeF; rw [List.length_map]
theorem ix_lstD {xs : List Int} {k : Nat} {v : Int} (h : xs[k]? = some v) : ixD (lstI xs) (.int (k : Nat)) = .ret (.int v) := ix_tup h
def pickG (W : List D → M D) : G := gSeq (gRet (eBin ixD (eVar 1) (eCall W (aCons (eVar 0) (aCons (eCall lenD (aCons (eVar 1) aNil)) aNil))))) gNil
theorem pick_gen {W : List D → M D} {d0 : D} {xs : List Int} (hW : W [d0, .int (xs.length : Nat)] = .draw xs.length fun i => .ret (.int (i : Nat))) (hl : xs ≠ []) : (runR (pickG W) 0 [d0, lstI xs]).wp (fun d => ∃ i ∈ xs, d = .int i) noE := by
  have ent : entE 0 [d0, lstI xs] = [some d0, some (lstI xs)] := rfl
  unfold runR pickG gSeq gRet eBin eCall aCons
  rw [ent]
  simp only [eVar, List.getElem?_cons_succ, List.getElem?_cons_zero, M.ret_bind, lenD_lst, List.length_map, aNil, hW, M.draw_bind]
  refine ⟨List.length_pos_iff.mpr hl, fun i hi => ?_⟩
  have e := ix_lstD (xs := xs) (k := i) (v := xs[i]) (List.getElem?_eq_getElem hi)
  dsimp only
  rw [e]
  exact ⟨xs[i], List.getElem_mem hi, rfl⟩
end DL
namespace Lk78
open PySem PySem.Spec PyProof.Rows L2 DL
abbrev E1 (x2 x3 x4 x5 x6 x7 : Option D) : En := [some .none, some .none, x2, x3, x4, x5, x6, x7, none, none, none, none, none, none, none, none, none, none, none]
def c1 : En → M D := eComp (iSeq (eVar 4)) [15] (kName 15) (eTest (eBin ninD (eVar 15) (eVar 3))) (eVar 15)
def c2 : En → M D := eComp (iSeq (eVar 6)) [15] (kName 15) (eTest (eBin eqD (eBin gtD (eVar 15) (eBin ixD (eVar 3) (eUn negD (eC (.int 1))))) (eBin eqD (eBin modD (eCall DL.intD (aCons (eVar 5) aNil)) (eC (.int 2))) (eC (.int 1))))) (eVar 15)
def e3 (PK : List D → M D) : En → M D := eIf (eTest (eBin neD (eVar 6) (eLst aNil))) (eBin addD (eVar 3) (eTup (aCons (eCall PK (aCons (eVar 1) (aCons (eVar 6) aNil))) aNil))) (eVar 3)
def inB (PK : List D → M D) : G := gSeq (gSetN 6 c1) (gSeq (gIf (eTest (eBin neD (eVar 3) (eTup aNil))) (gSeq (gSetN 6 c2) gNil) gNil) (gSeq (gSetN 3 (e3 PK)) gNil))
section
variable {x2 x3 x4 x5 x6 x7 : Option D} {r o s : List Int} {j : Int}
theorem c1_ok (ho : o.length ≤ 1000) : c1 (E1 x2 (some (tupI r)) (some (lstI o)) x5 x6 x7) = .ret (lstI (o.filter fun x => !r.any fun y => decide (y = x))) := by
  refine comp_ok (xs := o.map PyData.int) ?_ (by rw [List.length_map]; exact ho) (comp_filterI (v := 15) (killS [15] (E1 x2 (some (tupI r)) (some (lstI o)) x5 x6 x7)) (show 15 < 19 by decide) _ o fun x hx => ?_)
  · simp only [iSeq, eVar, List.getElem?_cons_succ, List.getElem?_cons_zero, M.ret_bind, seqItems]
  · have e15 : eVar 15 ((killS [15] (E1 x2 (some (tupI r)) (some (lstI o)) x5 x6 x7)).set 15 (some (.int x))) = .ret (.int x) := rfl
    have e3 : eVar 3 ((killS [15] (E1 x2 (some (tupI r)) (some (lstI o)) x5 x6 x7)).set 15 (some (.int x))) = .ret (tupI r) := rfl
    simp only [eTest, eBin, e15, e3, M.ret_bind, ninD_tupI, asB]
theorem c2_ok {l : Int} (hs : s.length ≤ 1000) (hl : r.getLast? = some l) : c2 (E1 x2 (some (tupI r)) x4 (some (.int j)) (some (lstI s)) x7) = .ret (lstI (s.filter fun x => decide (l < x) == decide (j.fmod 2 = 1))) := by
  refine comp_ok (xs := s.map PyData.int) ?_ (by rw [List.length_map]; exact hs) (comp_filterI (v := 15) (killS [15] (E1 x2 (some (tupI r)) x4 (some (.int j)) (some (lstI s)) x7)) (show 15 < 19 by decide) _ s fun x hx => ?_)
  · simp only [iSeq, eVar, List.getElem?_cons_succ, List.getElem?_cons_zero, M.ret_bind, seqItems]
  · have e15 : eVar 15 ((killS [15] (E1 x2 (some (tupI r)) x4 (some (.int j)) (some (lstI s)) x7)).set 15 (some (.int x))) = .ret (.int x) := rfl
    have e3 : eVar 3 ((killS [15] (E1 x2 (some (tupI r)) x4 (some (.int j)) (some (lstI s)) x7)).set 15 (some (.int x))) = .ret (tupI r) := rfl
    have e5 : eVar 5 ((killS [15] (E1 x2 (some (tupI r)) x4 (some (.int j)) (some (lstI s)) x7)).set 15 (some (.int x))) = .ret (.int j) := rfl
    simp only [eTest, eBin, eUn, eC, eCall, aCons, aNil, e15, e3, e5, M.ret_bind, negD_int, ix_last hl, gtD_int, DL.intD, modD_int _ 2 (by decide), eqD_int, eqD_bool, asB]
theorem e3_ok {PK : List D → M D} (hP : s ≠ [] → (PK [.none, lstI s]).wp (fun d => ∃ i ∈ s, d = .int i) noE) (hr : r.length ≤ 1000) : (e3 PK (E1 x2 (some (tupI r)) x4 x5 (some (lstI s)) x7)).wp (fun d => ∃ r' : List Int, r'.length ≤ r.length + 1 ∧ d = tupI r') noE := by
  have t : eTest (eBin neD (eVar 6) (eLst aNil)) (E1 x2 (some (tupI r)) x4 x5 (some (lstI s)) x7) = .ret (!decide (s = [])) := by
    simp only [eTest, eBin, eVar, List.getElem?_cons_succ, List.getElem?_cons_zero, M.ret_bind, eLst_nil, neD_lstI, asB]
  unfold e3 eIf
  rw [t, M.ret_bind]
  by_cases hs : s = []
  · rw [if_neg (by simp [hs])]
    exact ⟨r, by omega, rfl⟩
  · rw [if_pos (by simp [hs])]
    have ee : eBin addD (eVar 3) (eTup (aCons (eCall PK (aCons (eVar 1) (aCons (eVar 6) aNil))) aNil)) (E1 x2 (some (tupI r)) x4 x5 (some (lstI s)) x7) = (PK [.none, lstI s]).bind fun d => addD (tupI r) (.tuple [d]) := by
      unfold eBin eTup eCall aCons aNil
      simp only [eVar, List.getElem?_cons_succ, List.getElem?_cons_zero, M.ret_bind, M.bind_assoc, List.length_cons, List.length_nil, show 0 + 1 ≤ sizeLine from by rw [sizeLine_eq]; omega, if_true]
    rw [ee]
    refine M.wp_bind.mpr (M.wp_mono (fun d hd => ?_) (fun _ z => z) (hP hs))
    obtain ⟨i, _, rfl⟩ := hd
    rw [addD_tup1 r i hr]
    exact ⟨r ++ [i], by simp, rfl⟩
theorem in_step {PK : List D → M D} (hP : ∀ s : List Int, s ≠ [] → s.length ≤ 1000 → (PK [.none, lstI s]).wp (fun d => ∃ i ∈ s, d = .int i) noE) (ho : o.length ≤ 1000) (hr : r.length ≤ 1000) :
    (inB PK (E1 x2 (some (tupI r)) (some (lstI o)) (some (.int j)) x6 x7)).wp (fun q => q.1 = .nx ∧ ∃ x6' r', List.length r' ≤ r.length + 1 ∧ q.2 = E1 x2 (some (tupI r')) (some (lstI o)) (some (.int j)) x6' x7) noE := by
  unfold inB
  refine wp_seqN (set_ret (by rfl) (c1_ok ho)) ?_
  have h1 : (o.filter fun x => !r.any fun y => decide (y = x)).length ≤ 1000 := Nat.le_trans (List.length_filter_le _ _) ho
  generalize (o.filter fun x => !r.any fun y => decide (y = x)) = s at h1
  change (gSeq _ _ (E1 x2 (some (tupI r)) (some (lstI o)) (some (.int j)) (some (lstI s)) x7)).wp _ _
  have fin : ∀ s : List Int, s.length ≤ 1000 → (gSeq (gSetN 3 (e3 PK)) gNil (E1 x2 (some (tupI r)) (some (lstI o)) (some (.int j)) (some (lstI s)) x7)).wp (fun q => q.1 = .nx ∧ ∃ x6' r', List.length r' ≤ r.length + 1 ∧ q.2 = E1 x2 (some (tupI r')) (some (lstI o)) (some (.int j)) x6' x7) noE := fun s hs => by
    refine wp_seqD (set_wp (by rfl) (M.wp_mono (fun d hd => ?_) (fun _ z => z) (e3_ok (fun h => hP s h hs) hr)))
    obtain ⟨r', h1, rfl⟩ := hd
    exact ⟨rfl, wp_nil ⟨rfl, _, r', h1, rfl⟩⟩
  have t : eTest (eBin neD (eVar 3) (eTup aNil)) (E1 x2 (some (tupI r)) (some (lstI o)) (some (.int j)) (some (lstI s)) x7) = .ret (!decide (r = [])) := by
    have e : eTup aNil (E1 x2 (some (tupI r)) (some (lstI o)) (some (.int j)) (some (lstI s)) x7) = .ret (tupI []) := rfl
    simp only [eTest, eBin, eVar, List.getElem?_cons_succ, List.getElem?_cons_zero, M.ret_bind, e, neD_tupI, asB]
  cases hl : r.getLast? with
  | none =>
    have : r = [] := List.getLast?_eq_none_iff.mp hl
    rw [show (!decide (r = [])) = false by simp [this]] at t
    exact wp_seqN (if_F t) (fin s h1)
  | some l =>
    have : r ≠ [] := fun z => by subst z; cases hl
    rw [show (!decide (r = [])) = true by simp [this]] at t
    refine wp_seqN ((if_T t).trans (seq_nx (set_ret (by rfl) (c2_ok h1 hl)))) ?_
    exact fin _ (Nat.le_trans (List.length_filter_le _ _) h1)
theorem rng_mem {lo : Int} {n : Nat} {d : D} (h : d ∈ rangeL lo n) : ∃ i : Nat, i < n ∧ d = .int (lo + i) := by
  unfold rangeL at h
  obtain ⟨i, hi, rfl⟩ := List.mem_map.mp h
  exact ⟨i, List.mem_range.mp hi, rfl⟩
def inF (PK : List D → M D) : G := gFor (iRange1 (aCons (eCall lenD (aCons (eVar 4) aNil)) aNil)) (kName 5) (inB PK)
theorem rng_len (lo : Int) (n : Nat) : (rangeL lo n).length = n := by unfold rangeL; rw [List.length_map, List.length_range]
theorem inF_ok {PK : List D → M D} {IF : G} (hIF : IF = inF PK) (hP : ∀ s : List Int, s ≠ [] → s.length ≤ 1000 → (PK [.none, lstI s]).wp (fun d => ∃ i ∈ s, d = .int i) noE) (ho : o.length ≤ 100) :
    (IF (E1 x2 (some (tupI [])) (some (lstI o)) x5 x6 x7)).wp (fun q => q.1 = .nx ∧ ∃ x5' x6' r', List.length r' ≤ 100 ∧ q.2 = E1 x2 (some (tupI r')) (some (lstI o)) x5' x6' x7) noE := by
  have ei : iRange1 (aCons (eCall lenD (aCons (eVar 4) aNil)) aNil) (E1 x2 (some (tupI [])) (some (lstI o)) x5 x6 x7) = .ret (rangeL 0 o.length) := by
    have e : (aCons (eCall lenD (aCons (eVar 4) aNil)) aNil) (E1 x2 (some (tupI [])) (some (lstI o)) x5 x6 x7) = .ret [.int (o.length : Nat)] := by
      simp only [aCons, aNil, eCall, eVar, List.getElem?_cons_succ, List.getElem?_cons_zero, M.ret_bind, lenD_lst, List.length_map]
    have e2 := range1_ok e (small_ok (by omega) (by omega))
    rw [Int.toNat_natCast] at e2
    exact e2
  subst hIF
  unfold inF gFor
  rw [ei, M.ret_bind]
  refine M.wp_mono (fun q hq => ?_) (fun _ z => z) (forL_wp (I := fun n ρ => ∃ x5' x6' r', List.length r' + n ≤ 100 ∧ ρ = E1 x2 (some (tupI r')) (some (lstI o)) x5' x6' x7) (rangeL 0 o.length) _ ⟨x5, x6, [], by rw [rng_len, List.length_nil]; omega, rfl⟩ fun d hd n ρ hI => ?_)
  · obtain ⟨h1, a, b, c, h2, h3⟩ := hq
    exact ⟨h1, a, b, c, by omega, h3⟩
  · obtain ⟨i, hi, rfl⟩ := rng_mem hd
    obtain ⟨y5, y6, r', h1, rfl⟩ := hI
    have hk : kName 5 (.int (0 + (i : Nat))) (E1 x2 (some (tupI r')) (some (lstI o)) y5 y6 x7) = .ret (E1 x2 (some (tupI r')) (some (lstI o)) (some (.int (0 + (i : Nat)))) y6 x7) := rfl
    rw [hk]
    refine show (inB PK _).wp _ noE from M.wp_mono (fun q hq => ?_) (fun _ z => z) (in_step (x6 := y6) (x7 := x7) (x2 := x2) (j := 0 + (i : Nat)) hP (show o.length ≤ 1000 by omega) (show r'.length ≤ 1000 by omega))
    obtain ⟨h2, a, b, h3, h4⟩ := hq
    exact ⟨h2, _, a, b, by omega, h4⟩
theorem cut1 (xs : List D) : DL.cutD xs (some 1) none = xs.drop 1 := by
  have e : HT.sIx xs.length 0 (some 1) = min 1 xs.length := HT.sIx_nat xs.length 0 1
  unfold DL.cutD
  rw [e, HT.sIx_none]
  cases xs with
  | nil => rfl
  | cons x t =>
    rw [show min 1 (x :: t).length = 1 by simp]
    simp
def dueE : En → M D := eCall allD (aCons (eComp (iEzD (aCons (eVar 3) (aCons (eSl (eVar 3) (pSome (eC (.int 1))) pNone) aNil))) [16, 17, 18] zK tYesD zF) aNil)
theorem zip_len (xs ys : List D) : (enumFr 0 (zipD xs ys)).length ≤ xs.length := by
  rw [enumFr_len]
  induction xs generalizing ys with
  | nil => simp [zipD]
  | cons x t ih =>
    cases ys with
    | nil => simp [zipD]
    | cons y u => have := ih u; simpa [zipD] using this
theorem due_ok (hr : r.length ≤ 100) : dueE (E1 x2 (some (tupI r)) x4 x5 x6 x7) = .ret (.bool ((zzL 0 r).all id)) := by
  have ei : iEzD (aCons (eVar 3) (aCons (eSl (eVar 3) (pSome (eC (.int 1))) pNone) aNil)) (E1 x2 (some (tupI r)) x4 x5 x6 x7) = .ret (enumFr 0 (zipD (r.map PyData.int) ((r.drop 1).map PyData.int))) := by
    have es : eSl (eVar 3) (pSome (eC (.int 1))) pNone (E1 x2 (some (tupI r)) x4 x5 x6 x7) = .ret (tupI (r.drop 1)) := by
      simp only [eSl, eVar, List.getElem?_cons_succ, List.getElem?_cons_zero, M.ret_bind, pNone, pSome, eC, asI, slD, cut1, ← List.map_drop]
    simp only [iEzD, aCons, aNil, es, eVar, List.getElem?_cons_succ, List.getElem?_cons_zero, M.ret_bind]
  have hl : (enumFr 0 (zipD (r.map PyData.int) ((r.drop 1).map PyData.int))).length ≤ 1000 := Nat.le_trans (zip_len _ _) (by rw [List.length_map]; omega)
  have e2 := comp_ok (vs := [16, 17, 18]) ei hl (zigB_comp (killS [16, 17, 18] (E1 x2 (some (tupI r)) x4 x5 x6 x7)) rfl r 0)
  unfold dueE
  rw [call1 e2, allD_map]
theorem rep2b (b : Bool) : reprOk (.list [.bool b, .bool b]) = true := by cases b <;> decide +kernel
theorem neD_strS (x : Str) : neD (.str x) (.str x) = .ret (.bool false) := neD_str x
def zzT (ZZ : List D → M D) : G := gIf (eTest (eBin neD (eCall reprD (aCons (eLst (aCons (eCall ZZ (aCons (eVar 3) aNil)) (aCons (eCallK ZZ [0] (aCons (eVar 3) aNil)) aNil))) aNil)) (eCall reprD (aCons (eLst (aCons (eVar 7) (aCons (eVar 7) aNil))) aNil)))) (gSeq (gRet (eC (.bool false))) gNil) gNil
theorem zzT_ok {ZZ : List D → M D} {b : Bool} (h : ZZ [tupI r] = .ret (.bool b)) : zzT ZZ (E1 x2 (some (tupI r)) x4 x5 x6 (some (.bool b))) = .ret (.nx, E1 x2 (some (tupI r)) x4 x5 x6 (some (.bool b))) := by
  have er := reprD_ok (rep2b b)
  have pm : permL [0] [tupI r] = [tupI r] := rfl
  have t : eTest (eBin neD (eCall reprD (aCons (eLst (aCons (eCall ZZ (aCons (eVar 3) aNil)) (aCons (eCallK ZZ [0] (aCons (eVar 3) aNil)) aNil))) aNil)) (eCall reprD (aCons (eLst (aCons (eVar 7) (aCons (eVar 7) aNil))) aNil))) (E1 x2 (some (tupI r)) x4 x5 x6 (some (.bool b))) = .ret false := by
    simp only [eTest, eBin, eCall, eCallK, aCons, aNil, eLst, eVar, List.getElem?_cons_succ, List.getElem?_cons_zero, M.ret_bind, pm, h, List.length_cons, List.length_nil, Nat.reduceAdd, show (2 : Nat) ≤ sizeLine by decide, if_true, er, neD_str, asB]
  unfold zzT
  rw [if_F t]
  rfl
def mixG (PK LK : List D → M D) : G := gIf (eTest (eBin gtD (eVar 2) (eC (.int 1)))) (gSeq (gSetN 4 (eCall sortedD (aCons (eVar 3) aNil))) (gSeq (gSetN 3 (eTup aNil)) (gSeq (inF PK) (gSeq (gSetN 3 (eCall LK (aCons (eVar 3) aNil))) gNil)))) gNil
theorem sortI_len : ∀ r : List Int, (sortI r).length = r.length := fun r => by
  have ins : ∀ (x : Int) (l : List Int), (insI x l).length = l.length + 1 := fun x l => by
    induction l with
    | nil => rfl
    | cons y t ih => unfold insI; split <;> simp [ih]
  induction r with
  | nil => rfl
  | cons x t ih => rw [sortI, ins, ih]; rfl
theorem mix_in {LK : List D → M D} {IF : G} {k : Int} {o : List Int} (hI : (IF (E1 (some (.int k)) (some (tupI [])) (some (lstI o)) x5 x6 x7)).wp (fun q => q.1 = .nx ∧ ∃ x5' x6' r', List.length r' ≤ 100 ∧ q.2 = E1 (some (.int k)) (some (tupI r')) (some (lstI o)) x5' x6' x7) noE) (hL : ∀ r : List Int, r.length ≤ 100 → ∃ r' : List Int, r'.length = r.length ∧ LK [tupI r] = .ret (tupI r'))
    (e1 : eCall sortedD (aCons (eVar 3) aNil) (E1 (some (.int k)) (some (tupI r)) x4 x5 x6 x7) = .ret (lstI o)) :
    (gSeq (gSetN 4 (eCall sortedD (aCons (eVar 3) aNil))) (gSeq (gSetN 3 (eTup aNil)) (gSeq IF (gSeq (gSetN 3 (eCall LK (aCons (eVar 3) aNil))) gNil))) (E1 (some (.int k)) (some (tupI r)) x4 x5 x6 x7)).wp (fun q => q.1 = .nx ∧ ∃ x4' x5' x6' r', List.length r' ≤ 100 ∧ q.2 = E1 (some (.int k)) (some (tupI r')) x4' x5' x6' x7) noE := by
  have s2 := set_ret (i := 3) (show Nat.blt 3 (E1 (some (.int k)) (some (tupI r)) (some (lstI o)) x5 x6 x7).length = true from rfl) (eTup_nil _)
  have s1 := set_ret (i := 4) (show Nat.blt 4 (E1 (some (.int k)) (some (tupI r)) x4 x5 x6 x7).length = true from rfl) e1
  rw [seq_nx s1]
  refine Eq.mpr (congrArg (fun m => M.wp m _ _) (seq_nx s2)) ?_
  refine wp_seqD (M.wp_mono (fun q hq => ?_) (fun _ z => z) hI)
  obtain ⟨h1, y5, y6, r', h2, h3⟩ := hq
  refine ⟨h1, ?_⟩
  rw [h3]
  obtain ⟨r2, g1, g2⟩ := hL r' h2
  have e4 : eCall LK (aCons (eVar 3) aNil) (E1 (some (.int k)) (some (tupI r')) (some (lstI o)) y5 y6 x7) = .ret (tupI r2) := by rw [call1 (d := tupI r') rfl, g2]
  exact wp_seqN (set_ret (by rfl) e4) (wp_nil ⟨rfl, _, y5, y6, r2, by omega, rfl⟩)
theorem mix_ok {PK LK : List D → M D} {k : Int} (hP : ∀ s : List Int, s ≠ [] → s.length ≤ 1000 → (PK [.none, lstI s]).wp (fun d => ∃ i ∈ s, d = .int i) noE) (hL : ∀ r : List Int, r.length ≤ 100 → ∃ r' : List Int, r'.length = r.length ∧ LK [tupI r] = .ret (tupI r')) (hr : r.length ≤ 100) :
    (mixG PK LK (E1 (some (.int k)) (some (tupI r)) x4 x5 x6 x7)).wp (fun q => q.1 = .nx ∧ ∃ x4' x5' x6' r', List.length r' ≤ 100 ∧ q.2 = E1 (some (.int k)) (some (tupI r')) x4' x5' x6' x7) noE := by
  have t : eTest (eBin gtD (eVar 2) (eC (.int 1))) (E1 (some (.int k)) (some (tupI r)) x4 x5 x6 x7) = .ret (decide (1 < k)) := by
    simp only [eTest, eBin, eC, eVar, List.getElem?_cons_succ, List.getElem?_cons_zero, M.ret_bind, gtD_int, asB]
  unfold mixG
  by_cases hk : 1 < k
  · rw [show decide (1 < k) = true by simp [hk]] at t
    rw [if_T t]
    have e1 : eCall sortedD (aCons (eVar 3) aNil) (E1 (some (.int k)) (some (tupI r)) x4 x5 x6 x7) = .ret (lstI (sortI r)) := by rw [call1 (d := tupI r) rfl, sortedD_intT]
    have ho : (sortI r).length ≤ 100 := by rw [sortI_len]; exact hr
    generalize sortI r = o at e1 ho
    obtain ⟨IF, hIF⟩ : ∃ IF, IF = inF PK := ⟨_, rfl⟩
    rw [← hIF]
    exact mix_in (inF_ok hIF hP ho) hL e1
  · rw [show decide (1 < k) = false by simp [hk]] at t
    rw [if_F t]
    exact wp_nil ⟨rfl, x4, x5, x6, r, hr, rfl⟩
def outB (ROW DR PK LK ZZ : List D → M D) : G := gSeq (gSetN 3 (eCall ROW (aCons (eVar 1) (aCons (eCall DR (aCons (eVar 1) (aCons (eC (.int 10)) aNil))) aNil)))) (gSeq (mixG PK LK) (gSeq (gSetN 7 dueE) (gSeq (zzT ZZ) gNil)))
theorem out_ok {ROW DR PK LK ZZ : List D → M D} {k : Int} (hR : ∀ n : Nat, n < 12 → (ROW [.none, .int n]).wp (fun d => ∃ r : List Int, r.Perm (DL.upTo n) ∧ d = tupI r) noE) (hD : DR [.none, .int 10] = .draw 10 fun i => .ret (.int (i : Nat)))
    (hP : ∀ s : List Int, s ≠ [] → s.length ≤ 1000 → (PK [.none, lstI s]).wp (fun d => ∃ i ∈ s, d = .int i) noE) (hL : ∀ r : List Int, r.length ≤ 100 → ∃ r' : List Int, r'.length = r.length ∧ LK [tupI r] = .ret (tupI r')) (hZ : ∀ r : List Int, r.length ≤ 1000 → ZZ [tupI r] = .ret (.bool ((zzL 0 r).all id))) :
    (outB ROW DR PK LK ZZ (E1 (some (.int k)) x3 x4 x5 x6 x7)).wp (fun q => q.1 = .nx ∧ ∃ x3' x4' x5' x6' x7', q.2 = E1 (some (.int k)) x3' x4' x5' x6' x7') noE := by
  unfold outB
  have e1 : eCall ROW (aCons (eVar 1) (aCons (eCall DR (aCons (eVar 1) (aCons (eC (.int 10)) aNil))) aNil)) (E1 (some (.int k)) x3 x4 x5 x6 x7) = .draw 10 fun i => ROW [.none, .int (i : Nat)] := by
    unfold eCall aCons aNil
    simp only [eVar, eC, List.getElem?_cons_succ, List.getElem?_cons_zero, M.ret_bind, hD, M.draw_bind]
  refine wp_seqD (set_wp (by rfl) ?_)
  rw [e1]
  refine ⟨by decide, fun i hi => M.wp_mono (fun d hd => ?_) (fun _ z => z) (hR i (by omega))⟩
  obtain ⟨r, hr, rfl⟩ := hd
  have hl : r.length ≤ 100 := by rw [hr.length_eq]; unfold DL.upTo; rw [List.length_map, List.length_range]; omega
  refine ⟨rfl, ?_⟩
  change (gSeq (mixG PK LK) _ (E1 (some (.int k)) (some (tupI r)) x4 x5 x6 x7)).wp _ _
  refine wp_seqD (M.wp_mono (fun q hq => ?_) (fun _ z => z) (mix_ok (k := k) (x4 := x4) (x5 := x5) (x6 := x6) (x7 := x7) hP hL hl))
  obtain ⟨h1, y4, y5, y6, r', h2, h3⟩ := hq
  refine ⟨h1, ?_⟩
  rw [h3]
  exact wp_seqN (set_ret (by rfl) (due_ok h2)) (wp_seqN (zzT_ok (hZ r' (by omega))) (wp_nil ⟨rfl, _, _, _, _, _, rfl⟩))
theorem s1_ok {ROW DR PK LK ZZ : List D → M D} (hR : ∀ n : Nat, n < 12 → (ROW [.none, .int n]).wp (fun d => ∃ r : List Int, r.Perm (DL.upTo n) ∧ d = tupI r) noE) (hD : DR [.none, .int 10] = .draw 10 fun i => .ret (.int (i : Nat)))
    (hP : ∀ s : List Int, s ≠ [] → s.length ≤ 1000 → (PK [.none, lstI s]).wp (fun d => ∃ i ∈ s, d = .int i) noE) (hL : ∀ r : List Int, r.length ≤ 100 → ∃ r' : List Int, r'.length = r.length ∧ LK [tupI r] = .ret (tupI r')) (hZ : ∀ r : List Int, r.length ≤ 1000 → ZZ [tupI r] = .ret (.bool ((zzL 0 r).all id))) :
    (gFor (iRange1 (aCons (eC (.int 5)) aNil)) (kName 2) (outB ROW DR PK LK ZZ) (E1 none none none none none none)).wp (fun q => q.1 = .nx ∧ ∃ x2 x3 x4 x5 x6 x7, q.2 = E1 x2 x3 x4 x5 x6 x7) noE := by
  have ei : iRange1 (aCons (eC (.int 5)) aNil) (E1 none none none none none none) = .ret (rangeL 0 5) := by
    have e : (aCons (eC (.int 5)) aNil) (E1 none none none none none none) = .ret [.int 5] := rfl
    exact range1_ok e (by decide)
  unfold gFor
  rw [ei, M.ret_bind]
  refine forL_wp (I := fun _ ρ => ∃ x2 x3 x4 x5 x6 x7, ρ = E1 x2 x3 x4 x5 x6 x7) (rangeL 0 5) _ ⟨_, _, _, _, _, _, rfl⟩ fun d hd n ρ hI => ?_
  obtain ⟨i, hi, rfl⟩ := rng_mem hd
  obtain ⟨x2, x3, x4, x5, x6, x7, rfl⟩ := hI
  have hk : kName 2 (.int (0 + (i : Nat))) (E1 x2 x3 x4 x5 x6 x7) = .ret (E1 (some (.int (0 + (i : Nat)))) x3 x4 x5 x6 x7) := rfl
  rw [hk]
  refine show (outB ROW DR PK LK ZZ _).wp _ noE from M.wp_mono (fun q hq => ?_) (fun _ z => z) (out_ok (k := 0 + (i : Nat)) (x3 := x3) (x4 := x4) (x5 := x5) (x6 := x6) (x7 := x7) hR hD hP hL hZ)
  obtain ⟨h1, h⟩ := hq
  exact ⟨h1, _, h⟩
end
end Lk78

set_option Elab.async false
set_option linter.all false
set_option maxRecDepth 100000
set_option maxHeartbeats 4000000
/-! the plain law of k78: what is checked by going through all -/
namespace Lk78
open PySem PySem.Spec PyProof.Rows L2 DL
def csI : List Int := [1, 1, 1, 2, 5, 16, 61, 272, 1385, 7936, 50521, 353792, 2702765, 22368256, 199360981, 1903757312, 19391512145, 209865342976, 2404879675441, 29088885112832, 370371188237525, 4951498053124096, 69348874393137901, 1015423886506852352, 15514534163557086905, 246921480190207983616, 4087072509293123892361, 70251601603943959887872, 1252259641403629865468285, 23119184187809597841473536, 441543893249023104553682821, 8713962757125169296170811392, 177519391579539289436664789665, 3729407703720529571097509625856, 80723299235887898062168247453281, 1798651693450888780071750349094912, 41222060339517702122347079671259045, 970982810785059112379399707952152576, 23489580527043108252017828576198947741, 583203324917310043943191641625494290432, 14851150718114980017877156781405826684425, 387635983772083031828014624002175135645696, 10364622733519612119397957304745185976310201, 283727921907431909304183316295787837183229952, 7947579422597592703608040510088070619519273805, 227681379129930886488600284336316164603920777216, 6667537516685544977435028474773748197524107684661, 199500252157859031027160499643195658166340757225472, 6096278645568542158691685742876843153976539044435185, 190169564657928428175235445073924928592047775873499136, 6053285248188621896314383785111649088103498225146815121, 196535694915671808914892880726989984967498805398829268992, 6506162486684608847715870634080822983483644236765385576565, 219523439106761591280258358007964245987752702449505540243456, 7546659939008739098061432565889736744212240024711699858645581, 264239411287900883270178745605712648488731058170551223831232512, 9420321896420241204202286237690583227209388852599646009394905945, 341838301335718580350174449297951396847081443826785448952307122176, 12622019251806218719903409237287489255482341061191825594069964920041, 474090194351342155974522582010891145370303013658973457042263121068032, 18108911496579230496545807741652158688733487349236314106008095454231325]
def P6 : List (List Int) := [[0, 1, 2], [0, 2, 1], [1, 0, 2], [1, 2, 0], [2, 0, 1], [2, 1, 0]]
abbrev EV (a2 a3 a4 a5 a6 a7 a8 a9 a10 a11 a12 a13 a14 : Option D) : En := [some .none, some .none, a2, a3, a4, a5, a6, a7, a8, a9, a10, a11, a12, a13, a14, none, none, none, none]
abbrev csD : D := lstI csI
def isF (m : M Bool) : Bool := match m with
  | .ret b => !b
  | _ => false
theorem isF_eq {m : M Bool} (h : isF m = true) : m = .ret false := by
  unfold isF at h
  split at h
  · rename_i b
    cases b with
    | false => rfl
    | true => cases h
  · cases h
def t3 : En → M Bool := eTest (eBin neD (eBin mulD (eC (.int 2)) (eBin ixD (eVar 8) (eBin addD (eVar 9) (eC (.int 1))))) (eCall sumD (aCons (eComp (iRange1 (aCons (eBin addD (eVar 9) (eC (.int 1))) aNil)) [16] (kName 16) tYesD (eBin mulD (eBin mulD (eCall d__law_choose (aCons (eVar 9) (aCons (eVar 16) aNil))) (eBin ixD (eVar 8) (eVar 16))) (eBin ixD (eVar 8) (eBin subD (eVar 9) (eVar 16))))) aNil)))
def zcB : G := gSeq (gSetN 3 (eC (.int 0))) (gSeq (gFor (iRange1 (aCons (eBin addD (eVar 2) (eC (.int 1))) aNil)) (kName 4) (gSeq (gSetN 3 (eBin addD (eVar 3) (eBin mulD (eBin mulD (eCall d_choose (aCons (eVar 2) (aCons (eVar 4) aNil))) (eBin ixD (eVar 1) (eVar 4))) (eBin ixD (eVar 1) (eBin subD (eVar 2) (eVar 4)))))) gNil)) (gSeq (gExprE (eMeth 1 appG (aLift (aCons (eBin fdivD (eVar 3) (eC (.int 2))) aNil)))) gNil))
def zcOk (m : M (Fl × En)) (l : List Int) : Bool := match m with
  | .ret (.nx, [some (.int _), some (.list xs), some _, some _, some _]) => sameL xs (l.map PyData.int)
  | _ => false
def cnt (p : List Int) (m : Int) : Bool := match d_zigzag_three_count [tupI p, .int m], d__law_number [tupI p, .int m] with
  | .ret (.int v), .ret (.int u) => decide (v = u) && decide (v.natAbs < 2 ^ 512)
  | _, _ => false
theorem within_fast : d_is_within = fastW 14 := fastW_eq 14
theorem bars_fast : d__law_bars = fastB := fastB_eq
def own (p : List Int) (m : Int) : Bool := match d__law_zigzags [.int m, tupI p], d_zigzag_three_rows [tupI p, .int m], d__law_number [tupI p, .int m] with
  | .ret (.list xs), .ret (.tuple ys), .ret (.int c) => sameL xs ys && reprOk (.list [.tuple xs, .tuple xs]) && decide ((xs.length : Int) = c)
  | _, _, _ => false
def all0 (m : Nat) : Bool := match d__law_zigzags [.int m, .none] with
  | .ret (.list xs) => decide ((xs.length : Int) = csI.getD m 0)
  | _ => false
def rowOK (Z B : List D → M D) (p : List Int) (d : D) : Bool := match Z [d], B [d, tupI p] with
  | .ret (.bool a), .ret (.bool b) => a && b
  | _, _ => false
def pairsOK : List D → Bool
  | [] => true
  | d :: r => (match d with
    | .tuple [a, b] => match geD a b with
      | .ret (.bool b) => !b
      | _ => false
    | _ => false) && pairsOK r
def big (p : List Int) (m : Int) : Bool := match d_zigzag_three_rows [tupI p, .int m], d__law_number [tupI p, .int m] with
  | .ret (.tuple xs), .ret (.int c) => decide ((xs.length : Int) = c) && Nat.ble xs.length 1000 && xs.all (rowOK d_is_zigzag d__law_bars p) && pairsOK (zipD xs (cutD xs (some 1) none))
  | _, _ => false
end Lk78

set_option Elab.async false
set_option linter.all false
set_option maxRecDepth 100000
set_option maxHeartbeats 4000000
/-! the plain law of k78: the further statements -/
namespace Lk78
open PySem PySem.Spec PyProof.Rows L2 DL
theorem rep2i {v : Int} (h : v.natAbs < 2 ^ 512) : reprOk (.list [.int v, .int v]) = true := by
  have e : decide (v.natAbs < 2 ^ 512) = true := decide_eq_true h
  have e1 : reprI (.list [.int v, .int v]) = true := by
    show (decide (v.natAbs < 2 ^ 512) && (decide (v.natAbs < 2 ^ 512) && true)) = true
    rw [e]; rfl
  unfold reprOk
  rw [e1]
  rfl
theorem csI_len : csI.length = 61 := by decide +kernel
theorem csI_small : csI.all (fun v => decide (v.natAbs < 2 ^ 512)) = true := by decide +kernel
theorem ixC {m : Nat} (h : m ≤ 60) : ∃ v : Int, csI[m]? = some v ∧ ixD csD (.int (m : Nat)) = .ret (.int v) ∧ v.natAbs < 2 ^ 512 := by
  have hl : m < csI.length := by rw [csI_len]; omega
  have e : csI[m]? = some csI[m] := List.getElem?_eq_getElem hl
  exact ⟨csI[m], e, ix_lstD e, of_decide_eq_true (List.all_eq_true.mp csI_small _ (List.getElem_mem hl))⟩
section
variable {x2 x3 x4 x5 x6 x7 x8 x9 x10 x11 x12 x13 x14 : Option D} {p : List Int} {m : Nat} {Q : Fl × En → Prop} {CS : D}
/-- S2 -/
theorem s2_ok {CT DR : List D → M D} (hC : CT [.int 60] = .ret CS) (hD : DR [.none, .int 20] = .draw 20 fun i => .ret (.int (i : Nat))) (h : ∀ n : Nat, n < 20 → Q (.nx, EV x2 x3 x4 x5 x6 x7 (some CS) (some (.int (1 + (n : Nat)))) none none none none none)) :
    (gSetT (DL.kTup (ksCons (kName 8) (ksCons (kName 9) ksNil))) (eTup (aCons (eCall CT (aCons (eC (.int 60)) aNil)) (aCons (eBin addD (eC (.int 1)) (eCall DR (aCons (eVar 1) (aCons (eC (.int 20)) aNil)))) aNil))) (EV x2 x3 x4 x5 x6 x7 none none none none none none none)).wp Q noE := by
  have e : (eTup (aCons (eCall CT (aCons (eC (.int 60)) aNil)) (aCons (eBin addD (eC (.int 1)) (eCall DR (aCons (eVar 1) (aCons (eC (.int 20)) aNil)))) aNil))) (EV x2 x3 x4 x5 x6 x7 none none none none none none none) = .draw 20 fun i => .ret (.tuple [CS, .int (1 + (i : Nat))]) := by
    unfold eTup eCall aCons aNil eBin
    simp only [eVar, eC, List.getElem?_cons_succ, List.getElem?_cons_zero, M.ret_bind, hC, hD, M.draw_bind, addD_int, List.length_cons, List.length_nil, show 0 + 1 + 1 ≤ sizeLine from by rw [sizeLine_eq]; omega, if_true]
  unfold gSetT
  rw [e]
  exact ⟨by decide, fun i hi => h i hi⟩
theorem if_stop {T : En → M Bool} {ρ : En} (e : T ρ = .ret false) : gIf T (gSeq (gRet (eC (.bool false))) gNil) gNil ρ = .ret (.nx, ρ) := if_F e
theorem neq_same {x : Str} : (neD (.str x) (.str x)) = .ret (.bool false) := neD_str x
/-- the three numbers that are gone through -/
theorem many3 {DR : List D → M D} {body : G} {I : En → Prop} {ρ : En} (h10 : DR [.none, .int 10] = .draw 10 fun i => .ret (.int (i : Nat))) (h61 : DR [.none, .int 61] = .draw 61 fun i => .ret (.int (i : Nat))) (h1 : ρ[1]? = some (some .none)) (hI : I ρ)
    (hb : ∀ m : Nat, m ≤ 60 → ∀ ρ, I ρ → (kName 10 (.int (m : Nat)) ρ).wp (fun ρ' => (body ρ').wp (fun q => q.1 = .nx ∧ I q.2) noE) noE) :
    (gFor (iSeq (eTup (aCons (eCall DR (aCons (eVar 1) (aCons (eC (.int 10)) aNil))) (aCons (eCall DR (aCons (eVar 1) (aCons (eC (.int 61)) aNil))) (aCons (eC (.int 60)) aNil))))) (kName 10) body ρ).wp (fun q => q.1 = .nx ∧ I q.2) noE := by
  have ev : eVar 1 ρ = .ret .none := by unfold eVar; rw [h1]
  have e : (iSeq (eTup (aCons (eCall DR (aCons (eVar 1) (aCons (eC (.int 10)) aNil))) (aCons (eCall DR (aCons (eVar 1) (aCons (eC (.int 61)) aNil))) (aCons (eC (.int 60)) aNil))))) ρ = .draw 10 fun i => .draw 61 fun j => .ret [.int (i : Nat), .int (j : Nat), .int 60] := by
    unfold iSeq eTup eCall aCons aNil
    simp only [ev, eC, M.ret_bind, h10, h61, M.draw_bind, List.length_cons, List.length_nil, show 0 + 1 + 1 + 1 ≤ sizeLine from by rw [sizeLine_eq]; omega, if_true, seqItems]
  unfold gFor
  rw [e]
  refine ⟨by decide, fun i hi => ⟨by decide, fun j hj => ?_⟩⟩
  refine forL_wp (I := fun _ ρ => I ρ) _ ρ hI fun d hd n ρ hI => ?_
  rcases List.mem_cons.mp hd with rfl | hd
  · exact hb i (by omega) ρ hI
  rcases List.mem_cons.mp hd with rfl | hd
  · exact hb j (by omega) ρ hI
  rcases List.mem_cons.mp hd with rfl | hd
  · exact hb 60 (by omega) ρ hI
  · cases hd
def s4B (ZC : List D → M D) : G := gSeq (gIf (eTest (eBin neD (eCall reprD (aCons (eLst (aCons (eCall ZC (aCons (eVar 10) aNil)) (aCons (eCallK ZC [0] (aCons (eVar 10) aNil)) aNil))) aNil)) (eCall reprD (aCons (eLst (aCons (eBin ixD (eVar 8) (eVar 10)) (aCons (eBin ixD (eVar 8) (eVar 10)) aNil))) aNil)))) (gSeq (gRet (eC (.bool false))) gNil) gNil) gNil
theorem s4_body {ZC : List D → M D} {v : Int} (hv : v.natAbs < 2 ^ 512) (h : ZC [.int (m : Nat)] = .ret (.int v)) (hi : ixD CS (.int (m : Nat)) = .ret (.int v)) : s4B ZC (EV x2 x3 x4 x5 x6 x7 (some CS) x9 (some (.int (m : Nat))) x11 x12 x13 x14) = .ret (.nx, EV x2 x3 x4 x5 x6 x7 (some CS) x9 (some (.int (m : Nat))) x11 x12 x13 x14) := by
  have er := reprD_ok (rep2i hv)
  have pm : permL [0] [PyData.int (m : Nat)] = [.int (m : Nat)] := rfl
  have t : eTest (eBin neD (eCall reprD (aCons (eLst (aCons (eCall ZC (aCons (eVar 10) aNil)) (aCons (eCallK ZC [0] (aCons (eVar 10) aNil)) aNil))) aNil)) (eCall reprD (aCons (eLst (aCons (eBin ixD (eVar 8) (eVar 10)) (aCons (eBin ixD (eVar 8) (eVar 10)) aNil))) aNil))) (EV x2 x3 x4 x5 x6 x7 (some CS) x9 (some (.int (m : Nat))) x11 x12 x13 x14) = .ret false := by
    simp only [eTest, eBin, eCall, eCallK, aCons, aNil, eLst, eVar, List.getElem?_cons_succ, List.getElem?_cons_zero, M.ret_bind, pm, h, hi, List.length_cons, List.length_nil, Nat.reduceAdd, show (2 : Nat) ≤ sizeLine by decide, if_true, er, neD_str, asB]
  unfold s4B
  rw [seq_nx (if_stop t)]
  rfl
theorem s4_ok {DR ZC : List D → M D} (h10 : DR [.none, .int 10] = .draw 10 fun i => .ret (.int (i : Nat))) (h61 : DR [.none, .int 61] = .draw 61 fun i => .ret (.int (i : Nat))) (hC : ∀ m : Nat, m ≤ 60 → ∃ v : Int, ZC [.int (m : Nat)] = .ret (.int v) ∧ ixD CS (.int (m : Nat)) = .ret (.int v) ∧ v.natAbs < 2 ^ 512) :
    (gFor (iSeq (eTup (aCons (eCall DR (aCons (eVar 1) (aCons (eC (.int 10)) aNil))) (aCons (eCall DR (aCons (eVar 1) (aCons (eC (.int 61)) aNil))) (aCons (eC (.int 60)) aNil))))) (kName 10) (s4B ZC) (EV x2 x3 x4 x5 x6 x7 (some CS) x9 x10 x11 x12 x13 x14)).wp (fun q => q.1 = .nx ∧ ∃ x10, q.2 = EV x2 x3 x4 x5 x6 x7 (some CS) x9 x10 x11 x12 x13 x14) noE := by
  refine many3 (I := fun ρ => ∃ x10, ρ = EV x2 x3 x4 x5 x6 x7 (some CS) x9 x10 x11 x12 x13 x14) h10 h61 rfl ⟨_, rfl⟩ fun m hm ρ hI => ?_
  obtain ⟨y, rfl⟩ := hI
  obtain ⟨v, h1, h2, h3⟩ := hC m hm
  exact wp_ret (m := s4B ZC (EV x2 x3 x4 x5 x6 x7 (some CS) x9 (some (.int (m : Nat))) x11 x12 x13 x14)) (Q := fun q => q.1 = .nx ∧ ∃ x10, q.2 = EV x2 x3 x4 x5 x6 x7 (some CS) x9 x10 x11 x12 x13 x14) (s4_body h3 h1 h2) ⟨rfl, _, rfl⟩
def s6B (NU ZT : List D → M D) : G := gSeq (gSetN 7 (eCall NU (aCons (eVar 11) (aCons (eVar 10) aNil)))) (gSeq (gIf (eTest (eBin neD (eCall reprD (aCons (eLst (aCons (eCall ZT (aCons (eVar 11) (aCons (eVar 10) aNil))) (aCons (eCallK ZT [1, 0] (aCons (eVar 10) (aCons (eVar 11) aNil))) aNil))) aNil)) (eCall reprD (aCons (eLst (aCons (eVar 7) (aCons (eVar 7) aNil))) aNil)))) (gSeq (gRet (eC (.bool false))) gNil) gNil) gNil)
theorem s6_body {NU ZT : List D → M D} {v : Int} (hv : v.natAbs < 2 ^ 512) (h : ZT [tupI p, .int (m : Nat)] = .ret (.int v)) (hi : NU [tupI p, .int (m : Nat)] = .ret (.int v)) : s6B NU ZT (EV x2 x3 x4 x5 x6 x7 x8 x9 (some (.int (m : Nat))) (some (tupI p)) x12 x13 x14) = .ret (.nx, EV x2 x3 x4 x5 x6 (some (.int v)) x8 x9 (some (.int (m : Nat))) (some (tupI p)) x12 x13 x14) := by
  have er := reprD_ok (rep2i hv)
  have pm : permL [1, 0] [PyData.int (m : Nat), tupI p] = [tupI p, .int (m : Nat)] := rfl
  have e1 : eCall NU (aCons (eVar 11) (aCons (eVar 10) aNil)) (EV x2 x3 x4 x5 x6 x7 x8 x9 (some (.int (m : Nat))) (some (tupI p)) x12 x13 x14) = .ret (.int v) := by
    simp only [eCall, aCons, aNil, eVar, List.getElem?_cons_succ, List.getElem?_cons_zero, M.ret_bind, hi]
  have t : eTest (eBin neD (eCall reprD (aCons (eLst (aCons (eCall ZT (aCons (eVar 11) (aCons (eVar 10) aNil))) (aCons (eCallK ZT [1, 0] (aCons (eVar 10) (aCons (eVar 11) aNil))) aNil))) aNil)) (eCall reprD (aCons (eLst (aCons (eVar 7) (aCons (eVar 7) aNil))) aNil))) (EV x2 x3 x4 x5 x6 (some (.int v)) x8 x9 (some (.int (m : Nat))) (some (tupI p)) x12 x13 x14) = .ret false := by
    simp only [eTest, eBin, eCall, eCallK, aCons, aNil, eLst, eVar, List.getElem?_cons_succ, List.getElem?_cons_zero, M.ret_bind, pm, h, hi, List.length_cons, List.length_nil, Nat.reduceAdd, show (2 : Nat) ≤ sizeLine by decide, if_true, er, neD_str, asB]
  unfold s6B
  rw [seq_nx (set_ret (by rfl) e1)]
  exact (seq_nx (if_stop t)).trans rfl
theorem s6_ok {DR NU ZT : List D → M D} (h10 : DR [.none, .int 10] = .draw 10 fun i => .ret (.int (i : Nat))) (h61 : DR [.none, .int 61] = .draw 61 fun i => .ret (.int (i : Nat))) (hC : ∀ m : Nat, m ≤ 60 → ∃ v : Int, ZT [tupI p, .int (m : Nat)] = .ret (.int v) ∧ NU [tupI p, .int (m : Nat)] = .ret (.int v) ∧ v.natAbs < 2 ^ 512) :
    (gFor (iSeq (eTup (aCons (eCall DR (aCons (eVar 1) (aCons (eC (.int 10)) aNil))) (aCons (eCall DR (aCons (eVar 1) (aCons (eC (.int 61)) aNil))) (aCons (eC (.int 60)) aNil))))) (kName 10) (s6B NU ZT) (EV x2 x3 x4 x5 x6 x7 x8 x9 x10 (some (tupI p)) x12 x13 x14)).wp (fun q => q.1 = .nx ∧ ∃ x7 x10, q.2 = EV x2 x3 x4 x5 x6 x7 x8 x9 x10 (some (tupI p)) x12 x13 x14) noE := by
  refine many3 (I := fun ρ => ∃ x7 x10, ρ = EV x2 x3 x4 x5 x6 x7 x8 x9 x10 (some (tupI p)) x12 x13 x14) h10 h61 rfl ⟨_, _, rfl⟩ fun m hm ρ hI => ?_
  obtain ⟨y7, y, rfl⟩ := hI
  obtain ⟨v, h1, h2, h3⟩ := hC m hm
  exact wp_ret (m := s6B NU ZT (EV x2 x3 x4 x5 x6 y7 x8 x9 (some (.int (m : Nat))) (some (tupI p)) x12 x13 x14)) (Q := fun q => q.1 = .nx ∧ ∃ x7 x10, q.2 = EV x2 x3 x4 x5 x6 x7 x8 x9 x10 (some (tupI p)) x12 x13 x14) (s6_body h3 h1 h2) ⟨rfl, _, _, rfl⟩
/-- one set by a draw -/
theorem set10 {DR : List D → M D} {n : Nat} (hn : 0 < n) (h : DR [.none, .int (n : Nat)] = .draw n fun i => .ret (.int (i : Nat))) (hq : ∀ i : Nat, i < n → Q (.nx, EV x2 x3 x4 x5 x6 x7 x8 x9 (some (.int (i : Nat))) x11 x12 x13 x14)) :
    (gSetN 10 (eCall DR (aCons (eVar 1) (aCons (eC (.int (n : Nat))) aNil))) (EV x2 x3 x4 x5 x6 x7 x8 x9 x10 x11 x12 x13 x14)).wp Q noE := by
  have e : eCall DR (aCons (eVar 1) (aCons (eC (.int (n : Nat))) aNil)) (EV x2 x3 x4 x5 x6 x7 x8 x9 x10 x11 x12 x13 x14) = .draw n fun i => .ret (.int (i : Nat)) := by
    simp only [eCall, aCons, aNil, eVar, eC, List.getElem?_cons_succ, List.getElem?_cons_zero, M.ret_bind, h]
  refine set_wp (by rfl) ?_
  rw [e]
  exact ⟨hn, fun i hi => hq i hi⟩
theorem s8_ok {ZS : List D → M D} {xs : List D} (h : ZS [.int (m : Nat), tupI p] = .ret (.list xs)) : gSetN 12 (eCall DL.tupleD (aCons (eCall ZS (aCons (eVar 10) (aCons (eVar 11) aNil))) aNil)) (EV x2 x3 x4 x5 x6 x7 x8 x9 (some (.int (m : Nat))) (some (tupI p)) x12 x13 x14) = .ret (.nx, EV x2 x3 x4 x5 x6 x7 x8 x9 (some (.int (m : Nat))) (some (tupI p)) (some (.tuple xs)) x13 x14) :=
  set_ret (by rfl) (by simp only [eCall, aCons, aNil, eVar, List.getElem?_cons_succ, List.getElem?_cons_zero, M.ret_bind, h, DL.tupleD])
theorem s9_ok {R : List D → M D} {xs : List D} (h : R [tupI p, .int (m : Nat)] = .ret (.tuple xs)) : gSetN 13 (eLst (aCons (eCall R (aCons (eVar 11) (aCons (eVar 10) aNil))) (aCons (eCallK R [1, 0] (aCons (eVar 10) (aCons (eVar 11) aNil))) aNil))) (EV x2 x3 x4 x5 x6 x7 x8 x9 (some (.int (m : Nat))) (some (tupI p)) x12 x13 x14) = .ret (.nx, EV x2 x3 x4 x5 x6 x7 x8 x9 (some (.int (m : Nat))) (some (tupI p)) x12 (some (.list [.tuple xs, .tuple xs])) x14) :=
  set_ret (by rfl) (by
    have pm : permL [1, 0] [PyData.int (m : Nat), tupI p] = [tupI p, .int (m : Nat)] := rfl
    simp only [eCall, eCallK, eLst, aCons, aNil, eVar, List.getElem?_cons_succ, List.getElem?_cons_zero, M.ret_bind, h, pm, List.length_cons, List.length_nil, Nat.reduceAdd, show (2 : Nat) ≤ sizeLine by decide, if_true])
theorem s10_ok {NU : List D → M D} {xs : List D} (hr : reprOk (.list [.tuple xs, .tuple xs]) = true) (h : NU [tupI p, .int (m : Nat)] = .ret (.int xs.length)) : gIf (tOrD (eTest (eBin neD (eCall reprD (aCons (eVar 13) aNil)) (eCall reprD (aCons (eLst (aCons (eVar 12) (aCons (eVar 12) aNil))) aNil)))) (eTest (eBin neD (eCall lenD (aCons (eVar 12) aNil)) (eCall NU (aCons (eVar 11) (aCons (eVar 10) aNil)))))) (gSeq (gRet (eC (.bool false))) gNil) gNil (EV x2 x3 x4 x5 x6 x7 x8 x9 (some (.int (m : Nat))) (some (tupI p)) (some (.tuple xs)) (some (.list [.tuple xs, .tuple xs])) x14) = .ret (.nx, EV x2 x3 x4 x5 x6 x7 x8 x9 (some (.int (m : Nat))) (some (tupI p)) (some (.tuple xs)) (some (.list [.tuple xs, .tuple xs])) x14) := by
  have er := reprD_ok hr
  refine if_stop ?_
  simp only [tOrD, eTest, eBin, eCall, aCons, aNil, eLst, eVar, List.getElem?_cons_succ, List.getElem?_cons_zero, M.ret_bind, h, List.length_cons, List.length_nil, Nat.reduceAdd, show (2 : Nat) ≤ sizeLine by decide, if_true, er, neD_str, asB, Bool.false_eq_true, if_false, lenD_tup, neD_int, decide_true, Bool.not_true]
theorem s12_ok {ZS : List D → M D} {xs : List D} (h : ZS [.int (m : Nat), .none] = .ret (.list xs)) (hi : ixD CS (.int (m : Nat)) = .ret (.int xs.length)) : gIf (eTest (eBin neD (eCall lenD (aCons (eCall ZS (aCons (eVar 10) (aCons (eC .none) aNil))) aNil)) (eBin ixD (eVar 8) (eVar 10)))) (gSeq (gRet (eC (.bool false))) gNil) gNil (EV x2 x3 x4 x5 x6 x7 (some CS) x9 (some (.int (m : Nat))) x11 x12 x13 x14) = .ret (.nx, EV x2 x3 x4 x5 x6 x7 (some CS) x9 (some (.int (m : Nat))) x11 x12 x13 x14) := by
  refine if_stop ?_
  simp only [eTest, eBin, eCall, aCons, aNil, eC, eVar, List.getElem?_cons_succ, List.getElem?_cons_zero, M.ret_bind, h, hi, asB, lenD_lst, neD_int, decide_true, Bool.not_true]
theorem s13_ok {DR : List D → M D} (h : DR [.none, .int 2] = .draw 2 fun i => .ret (.int (i : Nat))) (hq : ∀ m : Nat, m = 8 ∨ m = 9 → Q (.nx, EV x2 x3 x4 x5 x6 x7 x8 x9 (some (.int (m : Nat))) x11 x12 x13 x14)) :
    (gSetN 10 (eBin addD (eC (.int 8)) (eCall DR (aCons (eVar 1) (aCons (eC (.int 2)) aNil)))) (EV x2 x3 x4 x5 x6 x7 x8 x9 x10 x11 x12 x13 x14)).wp Q noE := by
  have e : (eBin addD (eC (.int 8)) (eCall DR (aCons (eVar 1) (aCons (eC (.int 2)) aNil)))) (EV x2 x3 x4 x5 x6 x7 x8 x9 x10 x11 x12 x13 x14) = .draw 2 fun i => .ret (.int (8 + (i : Nat))) := by
    simp only [eBin, eCall, aCons, aNil, eVar, eC, List.getElem?_cons_succ, List.getElem?_cons_zero, M.ret_bind, h, M.draw_bind, addD_int]
  refine set_wp (by rfl) ?_
  rw [e]
  refine ⟨by decide, fun i hi => ?_⟩
  have e2 : ((8 + i : Nat) : Int) = 8 + (i : Int) := by omega
  have h := hq (8 + i) (by omega)
  rw [e2] at h
  exact h
theorem s14_ok {R : List D → M D} {xs : List D} (h : R [tupI p, .int (m : Nat)] = .ret (.tuple xs)) : gSetN 14 (eCall R (aCons (eVar 11) (aCons (eVar 10) aNil))) (EV x2 x3 x4 x5 x6 x7 x8 x9 (some (.int (m : Nat))) (some (tupI p)) x12 x13 x14) = .ret (.nx, EV x2 x3 x4 x5 x6 x7 x8 x9 (some (.int (m : Nat))) (some (tupI p)) x12 x13 (some (.tuple xs))) :=
  set_ret (by rfl) (by simp only [eCall, aCons, aNil, eVar, List.getElem?_cons_succ, List.getElem?_cons_zero, M.ret_bind, h])
end
end Lk78

set_option Elab.async false
set_option linter.all false
set_option maxRecDepth 100000
set_option maxHeartbeats 4000000
/-! choose(n, k) and the turns of zigzag_count -/
namespace DL
open PySem PySem.Spec PyProof.Rows L2
theorem log_lt {n k : Nat} (h0 : 0 < k) (h : n < 2 ^ k) : n.log2 < k := by
  by_cases z : n = 0
  · subst z; exact h0
  · exact (Nat.log2_lt z).mpr h
theorem mul_big {i j : Int} {a b : Nat} (hi : i.natAbs < 2 ^ a) (hj : j.natAbs < 2 ^ b) (ha : 0 < a) (hb : 0 < b) (h : a + b ≤ 1000000) : mulD (.int i) (.int j) = .ret (.int (i * j)) := by
  have l1 := log_lt ha hi
  have l2 := log_lt hb hj
  simp only [mulD]
  split
  · rfl
  · rw [if_pos (by omega)]
theorem mul_small {i j : Int} (h : -1000000 < j ∧ j < 1000000) : mulD (.int i) (.int j) = .ret (.int (i * j)) := by
  have e : (decide (-(2 ^ 64) < j) && decide (j < 2 ^ 64)) = true := by
    rw [Bool.and_eq_true]
    exact ⟨decide_eq_true (by omega), decide_eq_true (by omega)⟩
  simp only [mulD, e, Bool.or_true, if_true]
theorem fdiv_ok {i j : Int} (h : 0 < j ∧ j < 1000000) : fdivD (.int i) (.int j) = .ret (.int (i.fdiv j)) := by
  have e0 : (j == 0) = false := by simp; omega
  simp only [fdivD, e0, Bool.false_eq_true, if_false]
  rw [if_pos (by omega)]
def chF (n : Int) : Nat → Int
  | 0 => 1
  | k + 1 => (chF n k * (n - k)).fdiv (k + 1)
def chB : G := gSeq (gSetN 2 (eBin fdivD (eBin mulD (eVar 2) (eBin subD (eVar 0) (eVar 3))) (eBin addD (eVar 3) (eC (.int 1))))) gNil
theorem ch_body {n : Int} {k : Nat} {x1 : Option D} {f : Int} (hn : -1000 ≤ n ∧ n ≤ 1000) (hk : k ≤ 1000) : chB [some (.int n), x1, some (.int f), some (.int (k : Nat))] = .ret (.nx, [some (.int n), x1, some (.int ((f * (n - k)).fdiv (k + 1))), some (.int (k : Nat))]) := by
  have e : (eBin fdivD (eBin mulD (eVar 2) (eBin subD (eVar 0) (eVar 3))) (eBin addD (eVar 3) (eC (.int 1)))) [some (.int n), x1, some (.int f), some (.int (k : Nat))] = .ret (.int ((f * (n - k)).fdiv (k + 1))) := by
    simp only [eBin, eC, eVar, List.getElem?_cons_succ, List.getElem?_cons_zero, M.ret_bind, subD_int, mul_small (i := f) (j := n - k) ⟨by omega, by omega⟩, addD_int, fdiv_ok (i := f * (n - k)) (j := (k : Int) + 1) ⟨by omega, by omega⟩]
  unfold chB
  rw [seq_nx (set_ret (by rfl) e)]
  rfl
theorem rangeL_succ' (lo : Nat) (n : Nat) : rangeL (lo : Nat) (n + 1) = .int (lo : Nat) :: rangeL ((lo + 1 : Nat) : Int) n := by
  have h := Lk78.rangeL_succ (lo : Nat) n
  rw [show ((lo : Nat) : Int) + 1 = ((lo + 1 : Nat) : Int) by omega] at h
  exact h
theorem ch_loop {n : Int} {x1 : Option D} (hn : -1000 ≤ n ∧ n ≤ 1000) : ∀ (t lo : Nat) (x3 : Option D), lo + t ≤ 1000 → ∃ y3, forL (kName 3) chB (rangeL (lo : Nat) t) [some (.int n), x1, some (.int (chF n lo)), x3] = .ret (.nx, [some (.int n), x1, some (.int (chF n (lo + t))), y3])
  | 0, lo, x3, _ => ⟨x3, rfl⟩
  | t + 1, lo, x3, h => by
    obtain ⟨y3, ih⟩ := ch_loop (x1 := x1) hn t (lo + 1) (some (.int (lo : Nat))) (by omega)
    refine ⟨y3, ?_⟩
    rw [rangeL_succ', forL]
    have hk : kName 3 (.int (lo : Nat)) [some (.int n), x1, some (.int (chF n lo)), x3] = .ret [some (.int n), x1, some (.int (chF n lo)), some (.int (lo : Nat))] := rfl
    rw [hk, M.ret_bind, ch_body hn (by omega), M.ret_bind]
    have e : lo + 1 + t = lo + (t + 1) := by omega
    rw [e] at ih
    exact ih
def chG : G := gSeq (gSetN 2 (eC (.int 1))) (gSeq (gFor (iRange1 (aCons (eVar 1) aNil)) (kName 3) chB) (gSeq (gRet (eVar 2)) gNil))
theorem choose_eq {n : Int} {k : Nat} (hn : -1000 ≤ n ∧ n ≤ 1000) (hk : k ≤ 1000) (hs : smallI (k : Nat) = true) (hr : ∀ {ρ : En}, ρ[1]? = some (some (.int (k : Nat))) → iRange1 (aCons (eVar 1) aNil) ρ = .ret (rangeL ((0 : Nat) : Int) k)) : runR chG 2 [.int n, .int (k : Nat)] = .ret (.int (chF n k)) := by
  have ent : entE 2 [.int n, .int (k : Nat)] = [some (.int n), some (.int (k : Nat)), none, none] := rfl
  obtain ⟨y, e⟩ := ch_loop (x1 := some (.int (k : Nat))) hn k 0 none (by omega)
  unfold runR chG
  rw [ent, seq_nx (set_ret (i := 2) (by rfl) (show eC (.int 1) _ = .ret (.int 1) from rfl))]
  have ef : gFor (iRange1 (aCons (eVar 1) aNil)) (kName 3) chB ([some (.int n), some (.int (k : Nat)), none, none].set 2 (some (.int 1))) = .ret (.nx, [some (.int n), some (.int (k : Nat)), some (.int (chF n k)), y]) := by
    unfold gFor
    rw [hr rfl, M.ret_bind]
    rw [Nat.zero_add] at e
    exact e
  rw [seq_nx ef]
  rfl
end DL
namespace Lk78
open PySem PySem.Spec PyProof.Rows L2 DL
theorem choose_ok {n k : Nat} (hn : n ≤ 1000) (hk : k ≤ 1000) : d_choose [.int (n : Nat), .int (k : Nat)] = .ret (.int (chF (n : Nat) k)) :=
  choose_eq (n := (n : Nat)) (by omega) hk (small_ok (by omega) (by omega)) fun {ρ} h => by
    have e : (aCons (eVar 1) aNil) ρ = .ret [.int (k : Nat)] := by
      simp only [aCons, aNil, eVar, h, M.ret_bind]
    have e2 := range1_ok e (small_ok (by omega) (by omega))
    rw [Int.toNat_natCast] at e2
    exact e2
def zsF (cs : List Int) (j : Nat) : Nat → Int
  | 0 => 0
  | i + 1 => zsF cs j i + chF (j : Nat) i * cs.getD i 0 * cs.getD (j - i) 0
def zIn : G := gSeq (gSetN 3 (eBin addD (eVar 3) (eBin mulD (eBin mulD (eCall d_choose (aCons (eVar 2) (aCons (eVar 4) aNil))) (eBin ixD (eVar 1) (eVar 4))) (eBin ixD (eVar 1) (eBin subD (eVar 2) (eVar 4)))))) gNil
def zInC (CH : List D → M D) : G := gSeq (gSetN 3 (eBin addD (eVar 3) (eBin mulD (eBin mulD (eCall CH (aCons (eVar 2) (aCons (eVar 4) aNil))) (eBin ixD (eVar 1) (eVar 4))) (eBin ixD (eVar 1) (eBin subD (eVar 2) (eVar 4)))))) gNil
theorem ixL {cs : List Int} {i : Nat} (h : i < cs.length) : ixD (lstI cs) (.int (i : Nat)) = .ret (.int (cs.getD i 0)) := ix_lstD (by rw [List.getD_eq_getElem?_getD, List.getElem?_eq_getElem h]; rfl)
theorem getD_small {cs : List Int} (hc : ∀ v ∈ cs, v.natAbs < 2 ^ 512) (i : Nat) : (cs.getD i 0).natAbs < 2 ^ 512 := by
  rw [List.getD_eq_getElem?_getD]
  cases h : cs[i]? with
  | none => exact Nat.two_pow_pos 512
  | some v => exact hc v (List.mem_of_getElem? h)
theorem pow_mul_lt {a b x y : Nat} (hx : x < 2 ^ a) (hy : y < 2 ^ b) : x * y < 2 ^ (a + b) := by
  rw [Nat.pow_add]
  calc x * y ≤ x * 2 ^ b := Nat.mul_le_mul_left _ (Nat.le_of_lt hy)
    _ < 2 ^ a * 2 ^ b := Nat.mul_lt_mul_of_pos_right hx (Nat.two_pow_pos b)
theorem zin_body {CH : List D → M D} {cs : List Int} {j i : Nat} {s c : Int} {x0 : Option D} (hj : j < cs.length) (hi : i ≤ j) (hch : CH [.int (j : Nat), .int (i : Nat)] = .ret (.int c)) (hc : ∀ v ∈ cs, v.natAbs < 2 ^ 512) (hb : c.natAbs < 2 ^ 64) :
    zInC CH [x0, some (lstI cs), some (.int (j : Nat)), some (.int s), some (.int (i : Nat))] = .ret (.nx, [x0, some (lstI cs), some (.int (j : Nat)), some (.int (s + c * cs.getD i 0 * cs.getD (j - i) 0)), some (.int (i : Nat))]) := by
  have m1 := mul_big hb (getD_small hc i) (by omega) (by omega) (by omega)
  have hp : (c * cs.getD i 0).natAbs < 2 ^ (64 + 512) := by rw [Int.natAbs_mul]; exact pow_mul_lt hb (getD_small hc i)
  have m2 := mul_big hp (getD_small hc (j - i)) (by omega) (by omega) (by omega)
  have ej : ((j : Nat) : Int) - (i : Nat) = ((j - i : Nat) : Int) := by omega
  have e : (eBin addD (eVar 3) (eBin mulD (eBin mulD (eCall CH (aCons (eVar 2) (aCons (eVar 4) aNil))) (eBin ixD (eVar 1) (eVar 4))) (eBin ixD (eVar 1) (eBin subD (eVar 2) (eVar 4))))) [x0, some (lstI cs), some (.int (j : Nat)), some (.int s), some (.int (i : Nat))] = .ret (.int (s + c * cs.getD i 0 * cs.getD (j - i) 0)) := by
    simp only [eBin, eCall, aCons, aNil, eVar, List.getElem?_cons_succ, List.getElem?_cons_zero, M.ret_bind, hch, ixL (show i < cs.length by omega), m1, subD_int, ej, ixL (show j - i < cs.length by omega), m2, addD_int]
  unfold zInC
  rw [seq_nx (set_ret (by rfl) e)]
  rfl
theorem zin_loop {CH : List D → M D} {cs : List Int} {j : Nat} {x0 : Option D} (hj : j < cs.length) (hch : ∀ i : Nat, i ≤ j → CH [.int (j : Nat), .int (i : Nat)] = .ret (.int (chF (j : Nat) i)) ∧ (chF (j : Nat) i).natAbs < 2 ^ 64) (hc : ∀ v ∈ cs, v.natAbs < 2 ^ 512) : ∀ (t lo : Nat) (x4 : Option D), lo + t ≤ j + 1 →
    ∃ y4, forL (kName 4) (zInC CH) (rangeL (lo : Nat) t) [x0, some (lstI cs), some (.int (j : Nat)), some (.int (zsF cs j lo)), x4] = .ret (.nx, [x0, some (lstI cs), some (.int (j : Nat)), some (.int (zsF cs j (lo + t))), y4])
  | 0, lo, x4, _ => ⟨x4, rfl⟩
  | t + 1, lo, x4, h => by
    obtain ⟨y4, ih⟩ := zin_loop (x0 := x0) hj hch hc t (lo + 1) (some (.int (lo : Nat))) (by omega)
    refine ⟨y4, ?_⟩
    rw [rangeL_succ', forL]
    have hk : kName 4 (.int (lo : Nat)) [x0, some (lstI cs), some (.int (j : Nat)), some (.int (zsF cs j lo)), x4] = .ret [x0, some (lstI cs), some (.int (j : Nat)), some (.int (zsF cs j lo)), some (.int (lo : Nat))] := rfl
    obtain ⟨q1, q2⟩ := hch lo (by omega)
    rw [hk, M.ret_bind, zin_body hj (by omega) q1 hc q2, M.ret_bind]
    have e : lo + 1 + t = lo + (t + 1) := by omega
    rw [e] at ih
    exact ih
def zcC (CH : List D → M D) (AP : List D → List D → M (D × List D)) : G := gSeq (gSetN 3 (eC (.int 0))) (gSeq (gFor (iRange1 (aCons (eBin addD (eVar 2) (eC (.int 1))) aNil)) (kName 4) (zInC CH)) (gSeq (gExprE (eMeth 1 AP (aLift (aCons (eBin fdivD (eVar 3) (eC (.int 2))) aNil)))) gNil))
theorem zc_turn {CH : List D → M D} {AP : List D → List D → M (D × List D)} {cs : List Int} {j : Nat} {x0 x3 x4 : Option D} (hj : j < cs.length) (hj2 : j ≤ 100) (hch : ∀ i : Nat, i ≤ j → CH [.int (j : Nat), .int (i : Nat)] = .ret (.int (chF (j : Nat) i)) ∧ (chF (j : Nat) i).natAbs < 2 ^ 64) (hc : ∀ v ∈ cs, v.natAbs < 2 ^ 512) (hA : ∀ x : Int, AP (cs.map PyData.int) [.int x] = .ret (.none, (cs ++ [x]).map PyData.int)) :
    ∃ y3 y4, zcC CH AP [x0, some (lstI cs), some (.int (j : Nat)), x3, x4] = .ret (.nx, [x0, some (lstI (cs ++ [(zsF cs j (j + 1)).fdiv 2])), some (.int (j : Nat)), y3, y4]) := by
  obtain ⟨y4, e⟩ := zin_loop (x0 := x0) hj hch hc (j + 1) 0 x4 (by omega)
  rw [Nat.zero_add] at e
  refine ⟨some (.int (zsF cs j (j + 1))), y4, ?_⟩
  have ei : iRange1 (aCons (eBin addD (eVar 2) (eC (.int 1))) aNil) [x0, some (lstI cs), some (.int (j : Nat)), some (.int 0), x4] = .ret (rangeL ((0 : Nat) : Int) (j + 1)) := by
    have e : (aCons (eBin addD (eVar 2) (eC (.int 1))) aNil) [x0, some (lstI cs), some (.int (j : Nat)), some (.int 0), x4] = .ret [.int (j + 1 : Nat)] := by
      simp only [aCons, aNil, eBin, eC, eVar, List.getElem?_cons_succ, List.getElem?_cons_zero, M.ret_bind, addD_int]
      rfl
    have e2 := range1_ok e (small_ok (by omega) (by omega))
    rw [Int.toNat_natCast] at e2
    exact e2
  have ef : gFor (iRange1 (aCons (eBin addD (eVar 2) (eC (.int 1))) aNil)) (kName 4) (zInC CH) [x0, some (lstI cs), some (.int (j : Nat)), some (.int 0), x4] = .ret (.nx, [x0, some (lstI cs), some (.int (j : Nat)), some (.int (zsF cs j (j + 1))), y4]) := by
    unfold gFor
    rw [ei, M.ret_bind]
    exact e
  have ea := hA ((zsF cs j (j + 1)).fdiv 2)
  have eb : (gExprE (eMeth 1 AP (aLift (aCons (eBin fdivD (eVar 3) (eC (.int 2))) aNil)))) [x0, some (lstI cs), some (.int (j : Nat)), some (.int (zsF cs j (j + 1))), y4] = .ret (.nx, [x0, some (lstI (cs ++ [(zsF cs j (j + 1)).fdiv 2])), some (.int (j : Nat)), some (.int (zsF cs j (j + 1))), y4]) := by
    unfold gExprE eMeth aLift aCons aNil eBin
    simp only [eVar, eC, List.getElem?_cons_succ, List.getElem?_cons_zero, M.ret_bind, fdiv_ok (i := zsF cs j (j + 1)) (j := 2) ⟨by omega, by omega⟩, heldAt, ea, List.set_cons_succ, List.set_cons_zero]
  unfold zcC
  rw [seq_nx (set_ret (i := 3) (by rfl) (show eC (.int 0) _ = .ret (.int 0) from rfl))]
  exact (seq_nx ef).trans ((seq_nx eb).trans rfl)
theorem f_ch : ((List.range 61).all fun j => (List.range (j + 1)).all fun i => Nat.blt (chF (j : Nat) i).natAbs (2 ^ 64)) = true := by decide +kernel
theorem f_zn : ((List.range 59).all fun j => decide ((zsF (csI.take (j + 2)) (j + 1) (j + 2)).fdiv 2 = csI.getD (j + 2) 0)) = true := by decide +kernel
end Lk78

set_option Elab.async false
set_option linter.all false
set_option maxRecDepth 100000
set_option maxHeartbeats 4000000
/-! zigzag_count; the last statements -/
namespace Lk78
open PySem PySem.Spec PyProof.Rows L2 DL
theorem take_next {l : Nat} {v : Int} (h : csI[l]? = some v) : csI.take l ++ [v] = csI.take (l + 1) := by
  rw [List.take_add_one, h]
  rfl
theorem take_len {l : Nat} (h : l ≤ 61) : (csI.take l).length = l := by rw [List.length_take, csI_len]; omega
theorem all_small {l : Nat} : ∀ v ∈ csI.take l, v.natAbs < 2 ^ 512 := fun v hv => of_decide_eq_true (List.all_eq_true.mp csI_small _ (List.mem_of_mem_take hv))
theorem ch_small {j i : Nat} (hj : j ≤ 60) (hi : i ≤ j) : (chF (j : Nat) i).natAbs < 2 ^ 64 := by
  have h := List.all_eq_true.mp f_ch j (List.mem_range.mpr (by omega))
  exact Nat.le_of_ble_eq_true (List.all_eq_true.mp h i (List.mem_range.mpr (by omega)))
theorem zc_next {j : Nat} (h0 : 1 ≤ j) (h1 : j ≤ 59) : csI[j + 1]? = some ((zsF (csI.take (j + 1)) j (j + 1)).fdiv 2) := by
  have h := of_decide_eq_true (List.all_eq_true.mp f_zn (j - 1) (List.mem_range.mpr (by omega)))
  have e1 : j - 1 + 2 = j + 1 := by omega
  have e2 : j - 1 + 1 = j := by omega
  rw [e1, e2] at h
  rw [h, List.getD_eq_getElem?_getD, List.getElem?_eq_getElem (by rw [csI_len]; omega)]
  rfl
theorem zc_loop {CH : List D → M D} {AP : List D → List D → M (D × List D)} {x0 : Option D} (hch : ∀ j i : Nat, j ≤ 60 → i ≤ j → CH [.int (j : Nat), .int (i : Nat)] = .ret (.int (chF (j : Nat) i))) (hA : ∀ (cs : List Int) (x : Int), cs.length ≤ 100 → AP (cs.map PyData.int) [.int x] = .ret (.none, (cs ++ [x]).map PyData.int)) :
    ∀ (t lo : Nat) (x2 x3 x4 : Option D), 1 ≤ lo → lo + t ≤ 60 → ∃ y2 y3 y4, forL (kName 2) (zcC CH AP) (rangeL (lo : Nat) t) [x0, some (lstI (csI.take (lo + 1))), x2, x3, x4] = .ret (.nx, [x0, some (lstI (csI.take (lo + 1 + t))), y2, y3, y4])
  | 0, lo, x2, x3, x4, _, _ => ⟨x2, x3, x4, rfl⟩
  | t + 1, lo, x2, x3, x4, h0, h1 => by
    have hl : (csI.take (lo + 1)).length = lo + 1 := take_len (by omega)
    obtain ⟨y3, y4, e⟩ := zc_turn (CH := CH) (AP := AP) (cs := csI.take (lo + 1)) (j := lo) (x0 := x0) (x3 := x3) (x4 := x4) (by omega) (by omega) (fun i hi => ⟨hch lo i (by omega) hi, ch_small (by omega) hi⟩) all_small (fun x => hA _ x (by omega))
    rw [take_next (zc_next h0 (by omega))] at e
    obtain ⟨z2, z3, z4, ih⟩ := zc_loop (x0 := x0) hch hA t (lo + 1) (some (.int (lo : Nat))) y3 y4 (by omega) (by omega)
    refine ⟨z2, z3, z4, ?_⟩
    rw [rangeL_succ', forL]
    have hk : kName 2 (.int (lo : Nat)) [x0, some (lstI (csI.take (lo + 1))), x2, x3, x4] = .ret [x0, some (lstI (csI.take (lo + 1))), some (.int (lo : Nat)), x3, x4] := rfl
    rw [hk, M.ret_bind, e, M.ret_bind]
    have e2 : lo + 1 + 1 + t = lo + 1 + (t + 1) := by omega
    rw [e2] at ih
    exact ih
def zcG (CH : List D → M D) (AP : List D → List D → M (D × List D)) : G := gSeq (gSetN 1 (eLst (aCons (eC (.int 1)) (aCons (eC (.int 1)) aNil)))) (gSeq (gFor (iRange2 (aCons (eC (.int 1)) (aCons (eVar 0) aNil))) (kName 2) (zcC CH AP)) (gSeq (gRet (eBin ixD (eVar 1) (eVar 0))) gNil))
theorem range2_ok {fs : En → M (List D)} {ρ : En} {i j : Int} (h : fs ρ = .ret [.int i, .int j]) (h1 : smallI i = true) (h2 : smallI j = true) : iRange2 fs ρ = .ret (rangeL i (j - i).toNat) := by
  unfold iRange2
  rw [h]
  have e : ∀ {b : Bool} {x : List D}, b = true → (if b then M.ret x else M.bad) = M.ret x := fun hb => by rw [if_pos hb]
  exact e (by rw [h1, h2]; rfl)
theorem zcount_gen {CH : List D → M D} {AP : List D → List D → M (D × List D)} (hch : ∀ j i : Nat, j ≤ 60 → i ≤ j → CH [.int (j : Nat), .int (i : Nat)] = .ret (.int (chF (j : Nat) i))) (hA : ∀ (cs : List Int) (x : Int), cs.length ≤ 100 → AP (cs.map PyData.int) [.int x] = .ret (.none, (cs ++ [x]).map PyData.int))
    {m : Nat} (hm : m ≤ 60) {v : Int} (hv : csI[m]? = some v) : runR (zcG CH AP) 4 [.int (m : Nat)] = .ret (.int v) := by
  have ent : entE 4 [.int (m : Nat)] = [some (.int (m : Nat)), none, none, none, none] := rfl
  obtain ⟨y2, y3, y4, e⟩ := zc_loop (x0 := some (.int (m : Nat))) hch hA (m - 1) 1 none none none (by omega) (by omega)
  have e1 : eLst (aCons (eC (.int 1)) (aCons (eC (.int 1)) aNil)) [some (.int (m : Nat)), none, none, none, none] = .ret (lstI (csI.take 2)) := by
    unfold eLst aCons aNil eC
    simp only [M.ret_bind, List.length_cons, List.length_nil, show 0 + 1 + 1 ≤ sizeLine from by rw [sizeLine_eq]; omega, if_true]
    rfl
  have er : iRange2 (aCons (eC (.int 1)) (aCons (eVar 0) aNil)) [some (.int (m : Nat)), some (lstI (csI.take 2)), none, none, none] = .ret (rangeL ((1 : Nat) : Int) (m - 1)) := by
    have h : (aCons (eC (.int 1)) (aCons (eVar 0) aNil)) [some (.int (m : Nat)), some (lstI (csI.take 2)), none, none, none] = .ret [.int 1, .int (m : Nat)] := by
      simp only [aCons, aNil, eC, eVar, List.getElem?_cons_zero, M.ret_bind]
    have h2 := range2_ok h (by decide) (small_ok (by omega) (by omega))
    rw [show (((m : Nat) : Int) - 1).toNat = m - 1 by omega] at h2
    exact h2
  have ef : gFor (iRange2 (aCons (eC (.int 1)) (aCons (eVar 0) aNil))) (kName 2) (zcC CH AP) [some (.int (m : Nat)), some (lstI (csI.take 2)), none, none, none] = .ret (.nx, [some (.int (m : Nat)), some (lstI (csI.take (1 + 1 + (m - 1)))), y2, y3, y4]) := by
    unfold gFor
    rw [er, M.ret_bind]
    exact e
  have eg : (csI.take (1 + 1 + (m - 1)))[m]? = some v := by rw [List.getElem?_take, if_pos (by omega)]; exact hv
  have et : eBin ixD (eVar 1) (eVar 0) [some (.int (m : Nat)), some (lstI (csI.take (1 + 1 + (m - 1)))), y2, y3, y4] = .ret (.int v) := by
    simp only [eBin, eVar, List.getElem?_cons_succ, List.getElem?_cons_zero, M.ret_bind, ix_lstD eg]
  unfold runR zcG
  rw [ent, seq_nx (set_ret (i := 1) (by rfl) e1)]
  have e3 := seq_nx (h := gSeq (gRet (eBin ixD (eVar 1) (eVar 0))) gNil) ef
  have e4 : gSeq (gRet (eBin ixD (eVar 1) (eVar 0))) gNil [some (.int (m : Nat)), some (lstI (csI.take (1 + 1 + (m - 1)))), y2, y3, y4] = .ret (.rt (.int v), [some (.int (m : Nat)), some (lstI (csI.take (1 + 1 + (m - 1)))), y2, y3, y4]) := seq_rt (by unfold gRet; rw [et]; rfl)
  exact bind_ret (e3.trans e4)
theorem zcount_ok {m : Nat} (hm : m ≤ 60) : ∃ v : Int, d_zigzag_count [.int (m : Nat)] = .ret (.int v) ∧ ixD csD (.int (m : Nat)) = .ret (.int v) ∧ v.natAbs < 2 ^ 512 := by
  obtain ⟨v, h1, h2, h3⟩ := ixC hm
  exact ⟨v, zcount_gen (CH := d_choose) (AP := appG) (fun j i hj hi => choose_ok (by omega) (by omega)) (fun cs x h => app_at (by omega)) hm h1, h2, h3⟩
section
variable {x2 x3 x4 x5 x6 x7 x8 x9 x10 x11 x12 x13 x14 : Option D} {p : List Int} {m : Nat} {Q : Fl × En → Prop} {CS : D}
theorem comp_pairs (ρ : En) (hl : ρ.length = 19) : ∀ ps : List D, pairsOK ps = true → ∃ n, compL (DL.kTup (ksCons (kName 17) (ksCons (kName 18) ksNil))) tYesD (eBin geD (eVar 17) (eVar 18)) ρ ps = .ret (List.replicate n (.bool false))
  | [], _ => ⟨0, rfl⟩
  | d :: ps, h => by
    unfold pairsOK at h
    rw [Bool.and_eq_true] at h
    obtain ⟨h1, h2⟩ := h
    obtain ⟨n, ih⟩ := comp_pairs ρ hl ps h2
    split at h1
    · rename_i a b
      split at h1
      · rename_i b' eg
        have eb : b' = false := by cases b' <;> simp_all
        subst eb
        refine ⟨n + 1, ?_⟩
        have e8 : eVar 17 ((ρ.set 17 (some a)).set 18 (some b)) = .ret a := by unfold eVar; rw [List.getElem?_set_ne (by decide), List.getElem?_set_self (by omega)]
        have e9 : eVar 18 ((ρ.set 17 (some a)).set 18 (some b)) = .ret b := by unfold eVar; rw [List.getElem?_set_self (by rw [List.length_set]; omega)]
        rw [compL]
        simp only [DL.kTup, ksCons, ksNil, kName, hl, List.length_set, show (17 : Nat) < 19 by decide, show (18 : Nat) < 19 by decide, if_true, M.ret_bind, tYesD, eBin, e8, e9, eg, ih]
        rfl
      · cases h1
    · cases h1
theorem any_false (n : Nat) : anyD [.list (List.replicate n (.bool false))] = .ret (.bool false) := by
  have e : boolsOf (List.replicate n (PyData.bool false)) = some (List.replicate n false) := by
    induction n with
    | zero => rfl
    | succ n ih => rw [List.replicate_succ, boolsOf, ih]; rfl
  simp [anyD, e]
theorem zipl (xs ys : List D) : (zipD xs ys).length ≤ xs.length := by
  have h := zip_len xs ys
  rw [enumFr_len] at h
  exact h
theorem s15_ok {NU : List D → M D} {xs : List D} (h : NU [tupI p, .int (m : Nat)] = .ret (.int xs.length)) (hl : xs.length ≤ 1000) (hp : pairsOK (zipD xs (DL.cutD xs (some 1) none)) = true) : gIf (tOrD (eTest (eBin neD (eCall lenD (aCons (eVar 14) aNil)) (eCall NU (aCons (eVar 11) (aCons (eVar 10) aNil))))) (eTest (eCall anyD (aCons (eComp (iZipD (aCons (eVar 14) (aCons (eSl (eVar 14) (pSome (eC (.int 1))) pNone) aNil))) [17, 18] (DL.kTup (ksCons (kName 17) (ksCons (kName 18) ksNil))) tYesD (eBin geD (eVar 17) (eVar 18))) aNil)))) (gSeq (gRet (eC (.bool false))) gNil) gNil (EV x2 x3 x4 x5 x6 x7 x8 x9 (some (.int (m : Nat))) (some (tupI p)) x12 x13 (some (.tuple xs))) = .ret (.nx, EV x2 x3 x4 x5 x6 x7 x8 x9 (some (.int (m : Nat))) (some (tupI p)) x12 x13 (some (.tuple xs))) := by
  refine if_stop ?_
  obtain ⟨n, hc⟩ := comp_pairs (killS [17, 18] (EV x2 x3 x4 x5 x6 x7 x8 x9 (some (.int (m : Nat))) (some (tupI p)) x12 x13 (some (.tuple xs)))) rfl _ hp
  have ei : iZipD (aCons (eVar 14) (aCons (eSl (eVar 14) (pSome (eC (.int 1))) pNone) aNil)) (EV x2 x3 x4 x5 x6 x7 x8 x9 (some (.int (m : Nat))) (some (tupI p)) x12 x13 (some (.tuple xs))) = .ret (zipD xs (DL.cutD xs (some 1) none)) := by
    have es : eSl (eVar 14) (pSome (eC (.int 1))) pNone (EV x2 x3 x4 x5 x6 x7 x8 x9 (some (.int (m : Nat))) (some (tupI p)) x12 x13 (some (.tuple xs))) = .ret (.tuple (DL.cutD xs (some 1) none)) := by
      simp only [eSl, eVar, List.getElem?_cons_succ, List.getElem?_cons_zero, M.ret_bind, pNone, pSome, eC, asI, slD]
    simp only [iZipD, aCons, aNil, es, eVar, List.getElem?_cons_succ, List.getElem?_cons_zero, M.ret_bind]
  have e2 := comp_ok (vs := [17, 18]) ei (Nat.le_trans (zipl _ _) hl) hc
  have e3 := call1 (g := anyD) e2
  rw [any_false] at e3
  simp only [tOrD, eTest, e3, eBin, M.ret_bind, asB]
  simp only [eCall, aCons, aNil, eVar, List.getElem?_cons_succ, List.getElem?_cons_zero, M.ret_bind, h, lenD_tup, neD_int, decide_true, Bool.not_true, asB, Bool.false_eq_true, if_false]
theorem comp_rows {Z B : List D → M D} (ρ : En) (hl : ρ.length = 19) (h11 : ρ[11]? = some (some (tupI p))) : ∀ xs : List D, (∀ d ∈ xs, rowOK Z B p d = true) → ∃ n, compL (kName 3) tYesD (eAndV (eCall Z (aCons (eVar 3) aNil)) (eCall B (aCons (eVar 3) (aCons (eVar 11) aNil)))) ρ xs = .ret (List.replicate n (.bool true))
  | [], _ => ⟨0, rfl⟩
  | d :: xs, h => by
    obtain ⟨n, ih⟩ := comp_rows ρ hl h11 xs fun e he => h e (List.mem_cons_of_mem _ he)
    have h1 := h d List.mem_cons_self
    refine ⟨n + 1, ?_⟩
    have e3 : eVar 3 (ρ.set 3 (some d)) = .ret d := by unfold eVar; rw [List.getElem?_set_self (by omega)]
    have e11 : eVar 11 (ρ.set 3 (some d)) = .ret (tupI p) := by unfold eVar; rw [List.getElem?_set_ne (by decide), h11]
    unfold rowOK at h1
    split at h1
    · rename_i a b ea eb
      rw [Bool.and_eq_true] at h1
      obtain ⟨rfl, rfl⟩ := h1
      rw [compL]
      simp only [kName, hl, show (3 : Nat) < 19 by decide, if_true, M.ret_bind, tYesD, eAndV, eCall, aCons, aNil, e3, e11, ea, eb, ih]
      rfl
    · cases h1
theorem all_true (n : Nat) : allD [.list (List.replicate n (.bool true))] = .ret (.bool true) := by
  have e : boolsOf (List.replicate n (PyData.bool true)) = some (List.replicate n true) := by
    induction n with
    | zero => rfl
    | succ n ih => rw [List.replicate_succ, boolsOf, ih]; rfl
  simp [allD, e]
theorem f_len : ((List.range 1001).all fun n => (List.range 9).all fun i => Nat.ble (Builtin.Slice.slicePlaces (Builtin.Slice.sliceAdjust (some (i : Nat)) none 9 (n : Nat)).1 (Builtin.Slice.sliceAdjust (some (i : Nat)) none 9 (n : Nat)).2 9) 1000) = true := by decide +kernel
theorem step_len {xs : List D} {i : Nat} (h : xs.length ≤ 1000) (hi : i < 9) : (stepT xs (some (i : Nat)) none 9).length ≤ 1000 := by
  have e := List.all_eq_true.mp (List.all_eq_true.mp f_len xs.length (List.mem_range.mpr (by omega))) i (List.mem_range.mpr hi)
  unfold stepT
  refine Nat.le_trans (List.length_filterMap_le _ _) ?_
  unfold placesT
  rw [List.length_map, List.length_range]
  exact Nat.le_of_ble_eq_true e
def okE : Fl × En → Prop := fun q => q.1 = .rt (.bool true)
theorem s16_gen {F : En → M (List D)} {E : En → M D} {ρ : En} {k : Nat → M (List D)} (es : F ρ = .draw 9 k) (hc : ∀ i, i < 9 → ∃ ds n, k i = .ret ds ∧ List.length ds ≤ 1000 ∧ compL (kName 3) tYesD E (killS [3] ρ) ds = .ret (List.replicate n (.bool true))) :
    (gSeq (gRet (eCall allD (aCons (eComp F [3] (kName 3) tYesD E) aNil))) gNil ρ).wp okE noE := by
  unfold gSeq gRet eCall aCons aNil eComp
  rw [es]
  simp only [M.draw_bind, M.ret_bind]
  refine ⟨by decide, fun i hi => ?_⟩
  obtain ⟨ds, n, e, l1, hc⟩ := hc i hi
  have hz : ds.length ≤ sizeLine := by rw [sizeLine_eq]; omega
  dsimp only
  simp only [e, M.ret_bind, hz, if_true, hc, all_true]
  exact rfl
theorem s16_ok {DR Z B : List D → M D} {xs : List D} (hD : DR [.none, .int 9] = .draw 9 fun i => .ret (.int (i : Nat))) (hl : xs.length ≤ 1000) (hb : ∀ d ∈ xs, rowOK Z B p d = true) :
    (gSeq (gRet (eCall allD (aCons (eComp (iSeq (eSt (eVar 14) (pSome (eCall DR (aCons (eVar 1) (aCons (eC (.int 9)) aNil)))) pNone (pSome (eC (.int 9))))) [3] (kName 3) tYesD (eAndV (eCall Z (aCons (eVar 3) aNil)) (eCall B (aCons (eVar 3) (aCons (eVar 11) aNil))))) aNil))) gNil (EV x2 x3 x4 x5 x6 x7 x8 x9 x10 (some (tupI p)) x12 x13 (some (.tuple xs)))).wp okE noE := by
  have e1 : ∀ i : Nat, (stepT xs (some (i : Nat)) none 9).length ≤ 1000 → stD (.tuple xs) (some (i : Nat)) none 9 = .ret (.tuple (stepT xs (some (i : Nat)) none 9)) := fun i l1 => by
    unfold stD
    dsimp only
    rw [if_pos (by rw [sizeLine_eq]; omega)]
  have es : (iSeq (eSt (eVar 14) (pSome (eCall DR (aCons (eVar 1) (aCons (eC (.int 9)) aNil)))) pNone (pSome (eC (.int 9))))) (EV x2 x3 x4 x5 x6 x7 x8 x9 x10 (some (tupI p)) x12 x13 (some (.tuple xs))) = .draw 9 fun i => (stD (.tuple xs) (some (i : Nat)) none 9).bind seqItems := by
    unfold iSeq eSt pSome pNone eCall aCons aNil
    simp only [eVar, eC, List.getElem?_cons_succ, List.getElem?_cons_zero, M.ret_bind, hD, M.draw_bind, asI]
    rfl
  refine s16_gen es fun i hi => ?_
  have l1 := step_len (xs := xs) hl hi
  obtain ⟨n, hc⟩ := comp_rows (Z := Z) (B := B) (p := p) (killS [3] (EV x2 x3 x4 x5 x6 x7 x8 x9 x10 (some (tupI p)) x12 x13 (some (.tuple xs)))) rfl rfl (stepT xs (some (i : Nat)) none 9) fun d hd => hb d (mem_pick hd)
  refine ⟨_, n, ?_, l1, hc⟩
  rw [e1 i l1]
  rfl
end
end Lk78

set_option Elab.async false
set_option linter.all false
set_option maxRecDepth 100000
set_option maxHeartbeats 4000000
/-! the law of k78 from its facts -/
namespace Lk78
open PySem PySem.Spec PyProof.Rows L2 DL
def p_law0 : G := gBag 1
def p_law1 (f__law_row f__law_draw f__law_pick f__law_like f_is_zigzag : List D → M D) : G := gFor (iRange1 (aCons (eC (.int 5)) aNil)) (kName 2) (gSeq (gSetN 3 (eCall f__law_row (aCons (eVar 1) (aCons (eCall f__law_draw (aCons (eVar 1) (aCons (eC (.int 10)) aNil))) aNil)))) (gSeq (gIf (eTest (eBin gtD (eVar 2) (eC (.int 1)))) (gSeq (gSetN 4 (eCall sortedD (aCons (eVar 3) aNil))) (gSeq (gSetN 3 (eTup aNil)) (gSeq (gFor (iRange1 (aCons (eCall lenD (aCons (eVar 4) aNil)) aNil)) (kName 5) (gSeq (gSetN 6 (eComp (iSeq (eVar 4)) [15] (kName 15) (eTest (eBin ninD (eVar 15) (eVar 3))) (eVar 15))) (gSeq (gIf (eTest (eBin neD (eVar 3) (eTup aNil))) (gSeq (gSetN 6 (eComp (iSeq (eVar 6)) [15] (kName 15) (eTest (eBin eqD (eBin gtD (eVar 15) (eBin ixD (eVar 3) (eUn negD (eC (.int 1))))) (eBin eqD (eBin modD (eCall DL.intD (aCons (eVar 5) aNil)) (eC (.int 2))) (eC (.int 1))))) (eVar 15))) gNil) gNil) (gSeq (gSetN 3 (eIf (eTest (eBin neD (eVar 6) (eLst aNil))) (eBin addD (eVar 3) (eTup (aCons (eCall f__law_pick (aCons (eVar 1) (aCons (eVar 6) aNil))) aNil))) (eVar 3))) gNil)))) (gSeq (gSetN 3 (eCall f__law_like (aCons (eVar 3) aNil))) gNil)))) gNil) (gSeq (gSetN 7 (eCall allD (aCons (eComp (iEzD (aCons (eVar 3) (aCons (eSl (eVar 3) (pSome (eC (.int 1))) pNone) aNil))) [16, 17, 18] (DL.kTup (ksCons (kName 16) (ksCons (DL.kTup (ksCons (kName 17) (ksCons (kName 18) ksNil))) ksNil))) tYesD (eBin eqD (eBin ltD (eVar 17) (eVar 18)) (eBin eqD (eBin modD (eCall DL.intD (aCons (eVar 16) aNil)) (eC (.int 2))) (eC (.int 0))))) aNil))) (gSeq (gIf (eTest (eBin neD (eCall reprD (aCons (eLst (aCons (eCall f_is_zigzag (aCons (eVar 3) aNil)) (aCons (eCallK f_is_zigzag [0] (aCons (eVar 3) aNil)) aNil))) aNil)) (eCall reprD (aCons (eLst (aCons (eVar 7) (aCons (eVar 7) aNil))) aNil)))) (gSeq (gRet (eC (.bool false))) gNil) gNil) gNil))))
def p_law2 (f__law_counts f__law_draw : List D → M D) : G := gSetT (DL.kTup (ksCons (kName 8) (ksCons (kName 9) ksNil))) (eTup (aCons (eCall f__law_counts (aCons (eC (.int 60)) aNil)) (aCons (eBin addD (eC (.int 1)) (eCall f__law_draw (aCons (eVar 1) (aCons (eC (.int 20)) aNil)))) aNil)))
def p_law3 (f__law_choose : List D → M D) : G := gIf (eTest (eBin neD (eBin mulD (eC (.int 2)) (eBin ixD (eVar 8) (eBin addD (eVar 9) (eC (.int 1))))) (eCall sumD (aCons (eComp (iRange1 (aCons (eBin addD (eVar 9) (eC (.int 1))) aNil)) [16] (kName 16) tYesD (eBin mulD (eBin mulD (eCall f__law_choose (aCons (eVar 9) (aCons (eVar 16) aNil))) (eBin ixD (eVar 8) (eVar 16))) (eBin ixD (eVar 8) (eBin subD (eVar 9) (eVar 16))))) aNil)))) (gSeq (gRet (eC (.bool false))) gNil) gNil
def p_law4 (f__law_draw f_zigzag_count : List D → M D) : G := gFor (iSeq (eTup (aCons (eCall f__law_draw (aCons (eVar 1) (aCons (eC (.int 10)) aNil))) (aCons (eCall f__law_draw (aCons (eVar 1) (aCons (eC (.int 61)) aNil))) (aCons (eC (.int 60)) aNil))))) (kName 10) (gSeq (gIf (eTest (eBin neD (eCall reprD (aCons (eLst (aCons (eCall f_zigzag_count (aCons (eVar 10) aNil)) (aCons (eCallK f_zigzag_count [0] (aCons (eVar 10) aNil)) aNil))) aNil)) (eCall reprD (aCons (eLst (aCons (eBin ixD (eVar 8) (eVar 10)) (aCons (eBin ixD (eVar 8) (eVar 10)) aNil))) aNil)))) (gSeq (gRet (eC (.bool false))) gNil) gNil) gNil)
def p_law5 (f__law_row : List D → M D) : G := gSetN 11 (eCall f__law_row (aCons (eVar 1) (aCons (eC (.int 3)) aNil)))
def p_law6 (f__law_draw f__law_number f_zigzag_three_count : List D → M D) : G := gFor (iSeq (eTup (aCons (eCall f__law_draw (aCons (eVar 1) (aCons (eC (.int 10)) aNil))) (aCons (eCall f__law_draw (aCons (eVar 1) (aCons (eC (.int 61)) aNil))) (aCons (eC (.int 60)) aNil))))) (kName 10) (gSeq (gSetN 7 (eCall f__law_number (aCons (eVar 11) (aCons (eVar 10) aNil)))) (gSeq (gIf (eTest (eBin neD (eCall reprD (aCons (eLst (aCons (eCall f_zigzag_three_count (aCons (eVar 11) (aCons (eVar 10) aNil))) (aCons (eCallK f_zigzag_three_count [1, 0] (aCons (eVar 10) (aCons (eVar 11) aNil))) aNil))) aNil)) (eCall reprD (aCons (eLst (aCons (eVar 7) (aCons (eVar 7) aNil))) aNil)))) (gSeq (gRet (eC (.bool false))) gNil) gNil) gNil))
def p_law7 (f__law_draw : List D → M D) : G := gSetN 10 (eCall f__law_draw (aCons (eVar 1) (aCons (eC (.int 7)) aNil)))
def p_law8 (f__law_zigzags : List D → M D) : G := gSetN 12 (eCall DL.tupleD (aCons (eCall f__law_zigzags (aCons (eVar 10) (aCons (eVar 11) aNil))) aNil))
def p_law9 (f_zigzag_three_rows : List D → M D) : G := gSetN 13 (eLst (aCons (eCall f_zigzag_three_rows (aCons (eVar 11) (aCons (eVar 10) aNil))) (aCons (eCallK f_zigzag_three_rows [1, 0] (aCons (eVar 10) (aCons (eVar 11) aNil))) aNil)))
def p_law10 (f__law_number : List D → M D) : G := gIf (tOrD (eTest (eBin neD (eCall reprD (aCons (eVar 13) aNil)) (eCall reprD (aCons (eLst (aCons (eVar 12) (aCons (eVar 12) aNil))) aNil)))) (eTest (eBin neD (eCall lenD (aCons (eVar 12) aNil)) (eCall f__law_number (aCons (eVar 11) (aCons (eVar 10) aNil)))))) (gSeq (gRet (eC (.bool false))) gNil) gNil
def p_law11 (f__law_draw : List D → M D) : G := gSetN 10 (eCall f__law_draw (aCons (eVar 1) (aCons (eC (.int 6)) aNil)))
def p_law12 (f__law_zigzags : List D → M D) : G := gIf (eTest (eBin neD (eCall lenD (aCons (eCall f__law_zigzags (aCons (eVar 10) (aCons (eC .none) aNil))) aNil)) (eBin ixD (eVar 8) (eVar 10)))) (gSeq (gRet (eC (.bool false))) gNil) gNil
def p_law13 (f__law_draw : List D → M D) : G := gSetN 10 (eBin addD (eC (.int 8)) (eCall f__law_draw (aCons (eVar 1) (aCons (eC (.int 2)) aNil))))
def p_law14 (f_zigzag_three_rows : List D → M D) : G := gSetN 14 (eCall f_zigzag_three_rows (aCons (eVar 11) (aCons (eVar 10) aNil)))
def p_law15 (f__law_number : List D → M D) : G := gIf (tOrD (eTest (eBin neD (eCall lenD (aCons (eVar 14) aNil)) (eCall f__law_number (aCons (eVar 11) (aCons (eVar 10) aNil))))) (eTest (eCall anyD (aCons (eComp (iZipD (aCons (eVar 14) (aCons (eSl (eVar 14) (pSome (eC (.int 1))) pNone) aNil))) [17, 18] (DL.kTup (ksCons (kName 17) (ksCons (kName 18) ksNil))) tYesD (eBin geD (eVar 17) (eVar 18))) aNil)))) (gSeq (gRet (eC (.bool false))) gNil) gNil
def p_law16 (f__law_draw f_is_zigzag f__law_bars : List D → M D) : G := gRet (eCall allD (aCons (eComp (iSeq (eSt (eVar 14) (pSome (eCall f__law_draw (aCons (eVar 1) (aCons (eC (.int 9)) aNil)))) pNone (pSome (eC (.int 9))))) [3] (kName 3) tYesD (eAndV (eCall f_is_zigzag (aCons (eVar 3) aNil)) (eCall f__law_bars (aCons (eVar 3) (aCons (eVar 11) aNil))))) aNil))
def p_law3T (T : En → M Bool) : G := gIf T (gSeq (gRet (eC (.bool false))) gNil) gNil
theorem p_law_eq (ns : List Int) : d_law ns = runR (gSeq p_law0 (gSeq (p_law1 d__law_row d__law_draw d__law_pick d__law_like d_is_zigzag) (gSeq (p_law2 d__law_counts d__law_draw) (gSeq (p_law3 d__law_choose) (gSeq (p_law4 d__law_draw d_zigzag_count) (gSeq (p_law5 d__law_row) (gSeq (p_law6 d__law_draw d__law_number d_zigzag_three_count) (gSeq (p_law7 d__law_draw) (gSeq (p_law8 d__law_zigzags) (gSeq (p_law9 d_zigzag_three_rows) (gSeq (p_law10 d__law_number) (gSeq (p_law11 d__law_draw) (gSeq (p_law12 d__law_zigzags) (gSeq (p_law13 d__law_draw) (gSeq (p_law14 d_zigzag_three_rows) (gSeq (p_law15 d__law_number) (gSeq (p_law16 d__law_draw d_is_zigzag d__law_bars) gNil))))))))))))))))) 18 := rfl
theorem p1_eq (a b c d e : List D → M D) : p_law1 a b c d e = gFor (iRange1 (aCons (eC (.int 5)) aNil)) (kName 2) (outB a b c d e) := rfl
theorem p3_eq : p_law3 d__law_choose = p_law3T t3 := rfl
theorem law_gen {ROW DR PK LK ZZ CT ZC NU ZT ZS R B : List D → M D} {T : En → M Bool} {CS : D}
    (hR : ∀ n : Nat, n < 12 → (ROW [.none, .int n]).wp (fun d => ∃ r : List Int, r.Perm (DL.upTo n) ∧ d = tupI r) noE) (hD : ∀ n : Nat, 0 < n → n < 1073741824 → DR [.none, .int (n : Nat)] = .draw n fun i => .ret (.int (i : Nat)))
    (hP : ∀ s : List Int, s ≠ [] → s.length ≤ 1000 → (PK [.none, lstI s]).wp (fun d => ∃ i ∈ s, d = .int i) noE) (hL : ∀ r : List Int, r.length ≤ 100 → ∃ r' : List Int, r'.length = r.length ∧ LK [tupI r] = .ret (tupI r')) (hZ : ∀ r : List Int, r.length ≤ 1000 → ZZ [tupI r] = .ret (.bool ((zzL 0 r).all id)))
    (hC : CT [.int 60] = .ret CS) (hT : ∀ n : Nat, n < 20 → ∀ x2 x3 x4 x5 x6 x7 : Option D, T (EV x2 x3 x4 x5 x6 x7 (some CS) (some (.int (1 + (n : Nat)))) none none none none none) = .ret false)
    (hZC : ∀ m : Nat, m ≤ 60 → ∃ v : Int, ZC [.int (m : Nat)] = .ret (.int v) ∧ ixD CS (.int (m : Nat)) = .ret (.int v) ∧ v.natAbs < 2 ^ 512)
    (hR3 : (ROW [.none, .int 3]).wp (fun d => ∃ p ∈ P6, d = tupI p) noE)
    (hZT : ∀ p ∈ P6, ∀ m : Nat, m ≤ 60 → ∃ v : Int, ZT [tupI p, .int (m : Nat)] = .ret (.int v) ∧ NU [tupI p, .int (m : Nat)] = .ret (.int v) ∧ v.natAbs < 2 ^ 512)
    (hO : ∀ p ∈ P6, ∀ m : Nat, m < 7 → ∃ xs : List D, ZS [.int (m : Nat), tupI p] = .ret (.list xs) ∧ R [tupI p, .int (m : Nat)] = .ret (.tuple xs) ∧ NU [tupI p, .int (m : Nat)] = .ret (.int xs.length) ∧ reprOk (.list [.tuple xs, .tuple xs]) = true)
    (hA : ∀ m : Nat, m < 6 → ∃ xs : List D, ZS [.int (m : Nat), .none] = .ret (.list xs) ∧ ixD CS (.int (m : Nat)) = .ret (.int xs.length))
    (hB : ∀ p ∈ P6, ∀ m : Nat, m = 8 ∨ m = 9 → ∃ xs : List D, R [tupI p, .int (m : Nat)] = .ret (.tuple xs) ∧ NU [tupI p, .int (m : Nat)] = .ret (.int xs.length) ∧ xs.length ≤ 1000 ∧ (∀ d ∈ xs, rowOK ZZ B p d = true) ∧ pairsOK (zipD xs (DL.cutD xs (some 1) none)) = true) :
    (runR (gSeq p_law0 (gSeq (p_law1 ROW DR PK LK ZZ) (gSeq (p_law2 CT DR) (gSeq (p_law3T T) (gSeq (p_law4 DR ZC) (gSeq (p_law5 ROW) (gSeq (p_law6 DR NU ZT) (gSeq (p_law7 DR) (gSeq (p_law8 ZS) (gSeq (p_law9 R) (gSeq (p_law10 NU) (gSeq (p_law11 DR) (gSeq (p_law12 ZS) (gSeq (p_law13 DR) (gSeq (p_law14 R) (gSeq (p_law15 NU) (gSeq (p_law16 DR ZZ B) gNil))))))))))))))))) 18 [.none]).wp (fun d => d = .bool true) noE := by
  have d10 : DR [.none, .int 10] = .draw 10 fun i => .ret (.int (i : Nat)) := hD 10 (by decide) (by decide)
  have d61 : DR [.none, .int 61] = .draw 61 fun i => .ret (.int (i : Nat)) := hD 61 (by decide) (by decide)
  have d20 : DR [.none, .int 20] = .draw 20 fun i => .ret (.int (i : Nat)) := hD 20 (by decide) (by decide)
  have d7 : DR [.none, .int 7] = .draw 7 fun i => .ret (.int (i : Nat)) := hD 7 (by decide) (by decide)
  have d6 : DR [.none, .int 6] = .draw 6 fun i => .ret (.int (i : Nat)) := hD 6 (by decide) (by decide)
  have d2 : DR [.none, .int 2] = .draw 2 fun i => .ret (.int (i : Nat)) := hD 2 (by decide) (by decide)
  have d9 : DR [.none, .int 9] = .draw 9 fun i => .ret (.int (i : Nat)) := hD 9 (by decide) (by decide)
  have key : ((gSeq p_law0 (gSeq (p_law1 ROW DR PK LK ZZ) (gSeq (p_law2 CT DR) (gSeq (p_law3T T) (gSeq (p_law4 DR ZC) (gSeq (p_law5 ROW) (gSeq (p_law6 DR NU ZT) (gSeq (p_law7 DR) (gSeq (p_law8 ZS) (gSeq (p_law9 R) (gSeq (p_law10 NU) (gSeq (p_law11 DR) (gSeq (p_law12 ZS) (gSeq (p_law13 DR) (gSeq (p_law14 R) (gSeq (p_law15 NU) (gSeq (p_law16 DR ZZ B) gNil))))))))))))))))) (entE 18 [.none])).wp okE noE := by
    refine wp_seqN (ρ' := E1 none none none none none none) rfl ?_
    rw [p1_eq]
    refine wp_seqD (M.wp_mono (fun q hq => ?_) (fun _ z => z) (s1_ok hR d10 hP hL hZ))
    obtain ⟨q1, x2, x3, x4, x5, x6, x7, q2⟩ := hq
    refine ⟨q1, ?_⟩
    rw [q2]
    change (gSeq (p_law2 CT DR) _ (EV x2 x3 x4 x5 x6 x7 none none none none none none none)).wp _ _
    refine wp_seqD (s2_ok hC d20 fun n hn => ⟨rfl, ?_⟩)
    refine wp_seqN (if_stop (hT n hn x2 x3 x4 x5 x6 x7)) ?_
    refine wp_seqD (M.wp_mono (fun q hq => ?_) (fun _ z => z) (s4_ok d10 d61 hZC))
    obtain ⟨q1, x10, q2⟩ := hq
    refine ⟨q1, ?_⟩
    rw [q2]
    refine wp_seqD (set_wp (by rfl) ?_)
    change (ROW [.none, .int 3]).wp _ _
    refine M.wp_mono (fun d hd => ?_) (fun _ z => z) hR3
    obtain ⟨p, hp, rfl⟩ := hd
    refine ⟨rfl, ?_⟩
    change (gSeq (p_law6 DR NU ZT) _ (EV x2 x3 x4 x5 x6 x7 (some CS) (some (.int (1 + (n : Nat)))) x10 (some (tupI p)) none none none)).wp _ _
    refine wp_seqD (M.wp_mono (fun q hq => ?_) (fun _ z => z) (s6_ok d10 d61 (hZT p hp)))
    obtain ⟨q1, x7, x10, q2⟩ := hq
    refine ⟨q1, ?_⟩
    rw [q2]
    refine wp_seqD (set10 (n := 7) (by decide) d7 fun m hm => ⟨rfl, ?_⟩)
    obtain ⟨xs, o1, o2, o3, o4⟩ := hO p hp m hm
    refine wp_seqN (s8_ok o1) (wp_seqN (s9_ok o2) (wp_seqN (s10_ok o4 o3) ?_))
    refine wp_seqD (set10 (n := 6) (by decide) d6 fun m2 hm2 => ⟨rfl, ?_⟩)
    obtain ⟨ys, a1, a2⟩ := hA m2 hm2
    refine wp_seqN (s12_ok a1 a2) ?_
    refine wp_seqD (s13_ok d2 fun m3 hm3 => ⟨rfl, ?_⟩)
    obtain ⟨zs, b1, b2, b3, b4, b5⟩ := hB p hp m3 hm3
    exact wp_seqN (s14_ok b1) (wp_seqN (s15_ok b2 b3 b5) (s16_ok d9 b3 b4))
  unfold runR
  refine M.wp_bind.mpr (M.wp_mono (fun q hq => ?_) (fun _ z => z) key)
  obtain ⟨fl, ρ'⟩ := q
  have hq : fl = .rt (.bool true) := hq
  subst hq
  rfl
end Lk78

set_option Elab.async false
set_option linter.all false
set_option maxRecDepth 100000
set_option maxHeartbeats 4000000
/-! zigzag_three_rows for 8 and 9, size by size -/
namespace Lk78
open PySem PySem.Spec PyProof.Rows L2 DL
def zrB (WL ZZ IW : List D → M D) : G := gSeq (gSetN 4 (eLst aNil)) (gSeq (gFor (iSeq (eVar 2)) (kName 5) (gSeq (gSetN 6 (eComp (iRange1 (aCons (eBin addD (eVar 3) (eC (.int 1))) aNil)) [7] (kName 7) tYesD (eCall WL (aCons (eVar 5) (aCons (eVar 7) aNil))))) (gSeq (gExprE (eMethB 4 extG (aCons (eComp (iSeq (eVar 6)) [8] (kName 8) (tAndD (eTest (eCall ZZ (aCons (eVar 8) aNil))) (tNotD (eTest (eCall IW (aCons (eVar 0) (aCons (eVar 8) aNil)))))) (eVar 8)) aNil))) gNil))) (gSeq (gSetN 2 (eVar 4)) gNil))
def zrG (CT : List D → M D) (BD : G) : G := gSeq (gIf (eTest (eBin gtD (eCall CT (aCons (eVar 0) (aCons (eVar 1) aNil))) (eC (.int 500)))) (gSeq gNever gNil) gNil) (gSeq (gSetN 2 (eLst (aCons (eTup aNil) aNil))) (gSeq (gFor (iRange1 (aCons (eVar 1) aNil)) (kName 3) BD) (gSeq (gRet (eCall DL.tupleD (aCons (eCall sortedD (aCons (eVar 2) aNil)) aNil))) gNil)))
theorem zr_eq : d_zigzag_three_rows = runR (zrG d_zigzag_three_count (zrB d_with_last d_is_zigzag d_is_within)) 7 := rfl
abbrev rws (l : List (List Int)) : D := .list (l.map tupI)
def isTurn (p : List Int) (m : M (Fl × En)) (l : List (List Int)) : Bool := match m with
  | .ret (.nx, [some a, _, some (.list ys), _, _, _, _, _, _]) => sameD a (tupI p) && sameL ys (l.map tupI)
  | _ => false
theorem isTurn_of {p : List Int} {m : M (Fl × En)} {l : List (List Int)} (h : isTurn p m l = true) : ∃ x1 x3 x4 x5 x6 x7 x8, m = .ret (.nx, [some (tupI p), x1, some (rws l), x3, x4, x5, x6, x7, x8]) := by
  unfold isTurn at h
  split at h
  · rename_i a x1 ys x3 x4 x5 x6 x7 x8
    rw [Bool.and_eq_true] at h
    have h1 := sameD_eq _ _ h.1
    have h2 := sameL_eq _ _ h.2
    subst h1 h2
    exact ⟨x1, x3, x4, x5, x6, x7, x8, rfl⟩
  · cases h
theorem zr_loop {BD : G} {p : List Int} {T : Nat → List (List Int)} {n : Nat} (ht : ∀ s, s < n → ∀ x1 x4 x5 x6 x7 x8, isTurn p (BD [some (tupI p), x1, some (rws (T s)), some (.int (s : Nat)), x4, x5, x6, x7, x8]) (T (s + 1)) = true) : ∀ (t lo : Nat) (x1 x3 x4 x5 x6 x7 x8 : Option D), lo + t ≤ n →
    ∃ y1 y3 y4 y5 y6 y7 y8, forL (kName 3) BD (rangeL (lo : Nat) t) [some (tupI p), x1, some (rws (T lo)), x3, x4, x5, x6, x7, x8] = .ret (.nx, [some (tupI p), y1, some (rws (T (lo + t))), y3, y4, y5, y6, y7, y8])
  | 0, lo, x1, x3, x4, x5, x6, x7, x8, _ => ⟨x1, x3, x4, x5, x6, x7, x8, rfl⟩
  | t + 1, lo, x1, x3, x4, x5, x6, x7, x8, h => by
    obtain ⟨z1, z3, z4, z5, z6, z7, z8, e⟩ := isTurn_of (ht lo (by omega) x1 x4 x5 x6 x7 x8)
    obtain ⟨y1, y3, y4, y5, y6, y7, y8, ih⟩ := zr_loop ht t (lo + 1) z1 z3 z4 z5 z6 z7 z8 (by omega)
    refine ⟨y1, y3, y4, y5, y6, y7, y8, ?_⟩
    rw [rangeL_succ', forL]
    have hk : kName 3 (.int (lo : Nat)) [some (tupI p), x1, some (rws (T lo)), x3, x4, x5, x6, x7, x8] = .ret [some (tupI p), x1, some (rws (T lo)), some (.int (lo : Nat)), x4, x5, x6, x7, x8] := rfl
    rw [hk, M.ret_bind, e, M.ret_bind]
    have e2 : lo + 1 + t = lo + (t + 1) := by omega
    rw [e2] at ih
    exact ih
theorem eLst_unit (ρ : En) : eLst (aCons (eTup aNil) aNil) ρ = .ret (rws [[]]) := by
  have e := eTup_nil ρ
  unfold eLst aCons
  rw [e]
  simp only [M.ret_bind, aNil, List.length_cons, List.length_nil, show 0 + 1 ≤ sizeLine from by rw [sizeLine_eq]; omega, if_true]
  rfl
theorem zr_gen {CT : List D → M D} {BD : G} {p : List Int} {T : Nat → List (List Int)} {m n : Nat} {v : Int} {zs : List D} (h0 : T 0 = [[]]) (ht : ∀ s, s < n → ∀ x1 x4 x5 x6 x7 x8, isTurn p (BD [some (tupI p), x1, some (rws (T s)), some (.int (s : Nat)), x4, x5, x6, x7, x8]) (T (s + 1)) = true) (hm : m ≤ n) (hn : n ≤ 100)
    (hc : CT [tupI p, .int (m : Nat)] = .ret (.int v)) (hv : v ≤ 500) (hs : sortedD [rws (T m)] = .ret (.list zs)) : runR (zrG CT BD) 7 [tupI p, .int (m : Nat)] = .ret (.tuple zs) := by
  have ent : entE 7 [tupI p, .int (m : Nat)] = [some (tupI p), some (.int (m : Nat)), none, none, none, none, none, none, none] := rfl
  obtain ⟨y1, y3, y4, y5, y6, y7, y8, e⟩ := zr_loop ht m 0 (some (.int (m : Nat))) none none none none none none (by omega)
  rw [h0, Nat.zero_add] at e
  have t1 : eTest (eBin gtD (eCall CT (aCons (eVar 0) (aCons (eVar 1) aNil))) (eC (.int 500))) [some (tupI p), some (.int (m : Nat)), none, none, none, none, none, none, none] = .ret false := by
    simp only [eTest, eBin, eCall, aCons, aNil, eVar, eC, List.getElem?_cons_succ, List.getElem?_cons_zero, M.ret_bind, hc, gtD_int, asB]
    rw [show decide (500 < v) = false by simp; omega]
  have er : iRange1 (aCons (eVar 1) aNil) [some (tupI p), some (.int (m : Nat)), some (rws [[]]), none, none, none, none, none, none] = .ret (rangeL ((0 : Nat) : Int) m) := by
    have h : (aCons (eVar 1) aNil) [some (tupI p), some (.int (m : Nat)), some (rws [[]]), none, none, none, none, none, none] = .ret [.int (m : Nat)] := by
      simp only [aCons, aNil, eVar, List.getElem?_cons_succ, List.getElem?_cons_zero, M.ret_bind]
    have e2 := range1_ok h (small_ok (by omega) (by omega))
    rw [Int.toNat_natCast] at e2
    exact e2
  have ef : gFor (iRange1 (aCons (eVar 1) aNil)) (kName 3) BD [some (tupI p), some (.int (m : Nat)), some (rws [[]]), none, none, none, none, none, none] = .ret (.nx, [some (tupI p), y1, some (rws (T m)), y3, y4, y5, y6, y7, y8]) := by
    unfold gFor
    rw [er, M.ret_bind]
    exact e
  have et : eCall DL.tupleD (aCons (eCall sortedD (aCons (eVar 2) aNil)) aNil) [some (tupI p), y1, some (rws (T m)), y3, y4, y5, y6, y7, y8] = .ret (.tuple zs) := by
    have e1 : eCall sortedD (aCons (eVar 2) aNil) [some (tupI p), y1, some (rws (T m)), y3, y4, y5, y6, y7, y8] = .ret (.list zs) := by rw [call1 (d := rws (T m)) rfl, hs]
    rw [call1 e1]
    rfl
  unfold runR zrG
  rw [ent, seq_nx (if_F t1)]
  have s2 := set_ret (i := 2) (show Nat.blt 2 [some (tupI p), some (.int (m : Nat)), none, none, none, none, none, none, none].length = true from rfl) (eLst_unit _)
  rw [seq_nx s2]
  have e3 := seq_nx (h := gSeq (gRet (eCall DL.tupleD (aCons (eCall sortedD (aCons (eVar 2) aNil)) aNil))) gNil) ef
  have e4 : gSeq (gRet (eCall DL.tupleD (aCons (eCall sortedD (aCons (eVar 2) aNil)) aNil))) gNil [some (tupI p), y1, some (rws (T m)), y3, y4, y5, y6, y7, y8] = .ret (.rt (.tuple zs), [some (tupI p), y1, some (rws (T m)), y3, y4, y5, y6, y7, y8]) := seq_rt (by unfold gRet; rw [et]; rfl)
  exact bind_ret (e3.trans e4)
def srt (T : Nat → List (List Int)) (Z : List (List Int)) (m : Nat) : Bool := match sortedD [rws (T m)] with
  | .ret (.list zs) => sameL zs (Z.map tupI)
  | _ => false
def good (p : List Int) (Z : List (List Int)) (c : M D) : Bool := Nat.ble Z.length 500 && sameM c (.int Z.length) && Z.all (fun r => Nat.blt r.length 10 && (zzL 0 r).all id && barsI r p) && pairsOK (zipD (Z.map tupI) (DL.cutD (Z.map tupI) (some 1) none))
theorem sorted_of {T : Nat → List (List Int)} {Z : List (List Int)} {m : Nat} (h : srt T Z m = true) : sortedD [rws (T m)] = .ret (.list (Z.map tupI)) := by
  unfold srt at h
  split at h
  · rename_i zs e
    rw [e, sameL_eq _ _ h]
  · cases h
theorem big_gen {p : List Int} {T : Nat → List (List Int)} {m : Nat} {Z : List (List Int)} (hm : m ≤ 9) (hp : p ∈ P6) (h0 : T 0 = [[]]) (ht : ∀ s, s < 9 → ∀ x1 x4 x5 x6 x7 x8, isTurn p (zrB d_with_last d_is_zigzag d_is_within [some (tupI p), x1, some (rws (T s)), some (.int (s : Nat)), x4, x5, x6, x7, x8]) (T (s + 1)) = true) (hs : srt T Z m = true) (hg : good p Z (d__law_number [tupI p, .int (m : Nat)]) = true)
    (hc : ∃ v : Int, d_zigzag_three_count [tupI p, .int (m : Nat)] = .ret (.int v) ∧ d__law_number [tupI p, .int (m : Nat)] = .ret (.int v) ∧ v.natAbs < 2 ^ 512) : ∃ xs : List D, d_zigzag_three_rows [tupI p, .int (m : Nat)] = .ret (.tuple xs) ∧ d__law_number [tupI p, .int (m : Nat)] = .ret (.int xs.length) ∧ xs.length ≤ 1000 ∧ (∀ d ∈ xs, rowOK d_is_zigzag d__law_bars p d = true) ∧ pairsOK (zipD xs (DL.cutD xs (some 1) none)) = true := by
  unfold good at hg
  simp only [Bool.and_eq_true] at hg
  obtain ⟨⟨⟨g1, g2⟩, g3⟩, g4⟩ := hg
  have g1 := Nat.le_of_ble_eq_true g1
  have g2 := sameM_eq g2
  obtain ⟨v, c1, c2, _⟩ := hc
  rw [g2] at c2
  have ev : (Z.length : Int) = v := by injection c2 with c2; injection c2
  refine ⟨Z.map tupI, ?_, ?_, ?_, fun d hd => ?_, g4⟩
  · rw [zr_eq]
    exact zr_gen h0 ht hm (by omega) c1 (by omega) (sorted_of hs)
  · rw [g2, List.length_map]
  · rw [List.length_map]; omega
  · obtain ⟨r, hr, rfl⟩ := List.mem_map.mp hd
    have h := List.all_eq_true.mp g3 r hr
    simp only [Bool.and_eq_true] at h
    obtain ⟨⟨h1, h2⟩, h3⟩ := h
    have h1 : r.length < 10 := Nat.le_of_ble_eq_true h1
    unfold rowOK
    have z := zigzag_ok (r := r) (by omega)
    have b : d__law_bars [tupI r, tupI p] = .ret (.bool (barsI r p)) := bars_eq h1
    rw [z, b]
    simp only [h2, h3, Bool.and_self]
def tab0 : List (List (List Int)) := [[[]], [[0]], [[0, 1]], [[1, 2, 0], [0, 2, 1]], [[2, 3, 0, 1], [1, 3, 0, 2]], [[3, 4, 1, 2, 0], [3, 4, 0, 2, 1], [2, 4, 1, 3, 0], [2, 4, 0, 3, 1], [1, 4, 0, 3, 2]], [[4, 5, 2, 3, 0, 1], [4, 5, 1, 3, 0, 2], [3, 5, 2, 4, 0, 1], [3, 5, 1, 4, 0, 2], [2, 5, 1, 4, 0, 3]], [[5, 6, 3, 4, 1, 2, 0], [5, 6, 3, 4, 0, 2, 1], [5, 6, 2, 4, 1, 3, 0], [5, 6, 2, 4, 0, 3, 1], [5, 6, 1, 4, 0, 3, 2], [4, 6, 3, 5, 1, 2, 0], [4, 6, 3, 5, 0, 2, 1], [4, 6, 2, 5, 1, 3, 0], [4, 6, 2, 5, 0, 3, 1], [4, 6, 1, 5, 0, 3, 2], [3, 6, 2, 5, 1, 4, 0], [3, 6, 2, 5, 0, 4, 1], [3, 6, 1, 5, 0, 4, 2], [2, 6, 1, 5, 0, 4, 3]], [[6, 7, 4, 5, 2, 3, 0, 1], [6, 7, 4, 5, 1, 3, 0, 2], [6, 7, 3, 5, 2, 4, 0, 1], [6, 7, 3, 5, 1, 4, 0, 2], [6, 7, 2, 5, 1, 4, 0, 3], [5, 7, 4, 6, 2, 3, 0, 1], [5, 7, 4, 6, 1, 3, 0, 2], [5, 7, 3, 6, 2, 4, 0, 1], [5, 7, 3, 6, 1, 4, 0, 2], [5, 7, 2, 6, 1, 4, 0, 3], [4, 7, 3, 6, 2, 5, 0, 1], [4, 7, 3, 6, 1, 5, 0, 2], [4, 7, 2, 6, 1, 5, 0, 3], [3, 7, 2, 6, 1, 5, 0, 4]], [[7, 8, 5, 6, 3, 4, 1, 2, 0], [7, 8, 5, 6, 3, 4, 0, 2, 1], [7, 8, 5, 6, 2, 4, 1, 3, 0], [7, 8, 5, 6, 2, 4, 0, 3, 1], [7, 8, 5, 6, 1, 4, 0, 3, 2], [7, 8, 4, 6, 3, 5, 1, 2, 0], [7, 8, 4, 6, 3, 5, 0, 2, 1], [7, 8, 4, 6, 2, 5, 1, 3, 0], [7, 8, 4, 6, 2, 5, 0, 3, 1], [7, 8, 4, 6, 1, 5, 0, 3, 2], [7, 8, 3, 6, 2, 5, 1, 4, 0], [7, 8, 3, 6, 2, 5, 0, 4, 1], [7, 8, 3, 6, 1, 5, 0, 4, 2], [7, 8, 2, 6, 1, 5, 0, 4, 3], [6, 8, 5, 7, 3, 4, 1, 2, 0], [6, 8, 5, 7, 3, 4, 0, 2, 1], [6, 8, 5, 7, 2, 4, 1, 3, 0], [6, 8, 5, 7, 2, 4, 0, 3, 1], [6, 8, 5, 7, 1, 4, 0, 3, 2], [6, 8, 4, 7, 3, 5, 1, 2, 0], [6, 8, 4, 7, 3, 5, 0, 2, 1], [6, 8, 4, 7, 2, 5, 1, 3, 0], [6, 8, 4, 7, 2, 5, 0, 3, 1], [6, 8, 4, 7, 1, 5, 0, 3, 2], [6, 8, 3, 7, 2, 5, 1, 4, 0], [6, 8, 3, 7, 2, 5, 0, 4, 1], [6, 8, 3, 7, 1, 5, 0, 4, 2], [6, 8, 2, 7, 1, 5, 0, 4, 3], [5, 8, 4, 7, 3, 6, 1, 2, 0], [5, 8, 4, 7, 3, 6, 0, 2, 1], [5, 8, 4, 7, 2, 6, 1, 3, 0], [5, 8, 4, 7, 2, 6, 0, 3, 1], [5, 8, 4, 7, 1, 6, 0, 3, 2], [5, 8, 3, 7, 2, 6, 1, 4, 0], [5, 8, 3, 7, 2, 6, 0, 4, 1], [5, 8, 3, 7, 1, 6, 0, 4, 2], [5, 8, 2, 7, 1, 6, 0, 4, 3], [4, 8, 3, 7, 2, 6, 1, 5, 0], [4, 8, 3, 7, 2, 6, 0, 5, 1], [4, 8, 3, 7, 1, 6, 0, 5, 2], [4, 8, 2, 7, 1, 6, 0, 5, 3], [3, 8, 2, 7, 1, 6, 0, 5, 4]]]
def z8_0 : List (List Int) := [[3, 7, 2, 6, 1, 5, 0, 4], [4, 7, 2, 6, 1, 5, 0, 3], [4, 7, 3, 6, 1, 5, 0, 2], [4, 7, 3, 6, 2, 5, 0, 1], [5, 7, 2, 6, 1, 4, 0, 3], [5, 7, 3, 6, 1, 4, 0, 2], [5, 7, 3, 6, 2, 4, 0, 1], [5, 7, 4, 6, 1, 3, 0, 2], [5, 7, 4, 6, 2, 3, 0, 1], [6, 7, 2, 5, 1, 4, 0, 3], [6, 7, 3, 5, 1, 4, 0, 2], [6, 7, 3, 5, 2, 4, 0, 1], [6, 7, 4, 5, 1, 3, 0, 2], [6, 7, 4, 5, 2, 3, 0, 1]]
def z9_0 : List (List Int) := [[3, 8, 2, 7, 1, 6, 0, 5, 4], [4, 8, 2, 7, 1, 6, 0, 5, 3], [4, 8, 3, 7, 1, 6, 0, 5, 2], [4, 8, 3, 7, 2, 6, 0, 5, 1], [4, 8, 3, 7, 2, 6, 1, 5, 0], [5, 8, 2, 7, 1, 6, 0, 4, 3], [5, 8, 3, 7, 1, 6, 0, 4, 2], [5, 8, 3, 7, 2, 6, 0, 4, 1], [5, 8, 3, 7, 2, 6, 1, 4, 0], [5, 8, 4, 7, 1, 6, 0, 3, 2], [5, 8, 4, 7, 2, 6, 0, 3, 1], [5, 8, 4, 7, 2, 6, 1, 3, 0], [5, 8, 4, 7, 3, 6, 0, 2, 1], [5, 8, 4, 7, 3, 6, 1, 2, 0], [6, 8, 2, 7, 1, 5, 0, 4, 3], [6, 8, 3, 7, 1, 5, 0, 4, 2], [6, 8, 3, 7, 2, 5, 0, 4, 1], [6, 8, 3, 7, 2, 5, 1, 4, 0], [6, 8, 4, 7, 1, 5, 0, 3, 2], [6, 8, 4, 7, 2, 5, 0, 3, 1], [6, 8, 4, 7, 2, 5, 1, 3, 0], [6, 8, 4, 7, 3, 5, 0, 2, 1], [6, 8, 4, 7, 3, 5, 1, 2, 0], [6, 8, 5, 7, 1, 4, 0, 3, 2], [6, 8, 5, 7, 2, 4, 0, 3, 1], [6, 8, 5, 7, 2, 4, 1, 3, 0], [6, 8, 5, 7, 3, 4, 0, 2, 1], [6, 8, 5, 7, 3, 4, 1, 2, 0], [7, 8, 2, 6, 1, 5, 0, 4, 3], [7, 8, 3, 6, 1, 5, 0, 4, 2], [7, 8, 3, 6, 2, 5, 0, 4, 1], [7, 8, 3, 6, 2, 5, 1, 4, 0], [7, 8, 4, 6, 1, 5, 0, 3, 2], [7, 8, 4, 6, 2, 5, 0, 3, 1], [7, 8, 4, 6, 2, 5, 1, 3, 0], [7, 8, 4, 6, 3, 5, 0, 2, 1], [7, 8, 4, 6, 3, 5, 1, 2, 0], [7, 8, 5, 6, 1, 4, 0, 3, 2], [7, 8, 5, 6, 2, 4, 0, 3, 1], [7, 8, 5, 6, 2, 4, 1, 3, 0], [7, 8, 5, 6, 3, 4, 0, 2, 1], [7, 8, 5, 6, 3, 4, 1, 2, 0]]
theorem f_turn0 (x1 x4 x5 x6 x7 x8 : Option D) : ((List.range 9).all fun s => isTurn [0, 1, 2] (zrB d_with_last d_is_zigzag (fastW 14) [some (tupI [0, 1, 2]), x1, some (rws (tab0.getD s [])), some (.int (s : Nat)), x4, x5, x6, x7, x8]) (tab0.getD (s + 1) [])) = true := by kernel_rfl
theorem f_srt8_0 : srt (fun s => tab0.getD s []) z8_0 8 = true := by decide +kernel
theorem f_good8_0 : good [0, 1, 2] z8_0 (d__law_number [tupI [0, 1, 2], .int (8 : Nat)]) = true := by decide +kernel
theorem f_srt9_0 : srt (fun s => tab0.getD s []) z9_0 9 = true := by decide +kernel
theorem f_good9_0 : good [0, 1, 2] z9_0 (d__law_number [tupI [0, 1, 2], .int (9 : Nat)]) = true := by decide +kernel
theorem turn0 : ∀ s, s < 9 → ∀ x1 x4 x5 x6 x7 x8, isTurn [0, 1, 2] (zrB d_with_last d_is_zigzag d_is_within [some (tupI [0, 1, 2]), x1, some (rws ((fun s => tab0.getD s []) s)), some (.int (s : Nat)), x4, x5, x6, x7, x8]) ((fun s => tab0.getD s []) (s + 1)) = true := fun s hs x1 x4 x5 x6 x7 x8 => by
  rw [within_fast]
  exact List.all_eq_true.mp (f_turn0 x1 x4 x5 x6 x7 x8) s (List.mem_range.mpr hs)
def tab1 : List (List (List Int)) := [[[]], [[0]], [[0, 1]], [[1, 2, 0]], [[2, 3, 0, 1], [1, 2, 0, 3]], [[3, 4, 1, 2, 0], [2, 3, 1, 4, 0]], [[4, 5, 2, 3, 0, 1], [4, 5, 1, 2, 0, 3], [3, 4, 1, 2, 0, 5], [3, 4, 2, 5, 0, 1], [2, 3, 1, 4, 0, 5]], [[5, 6, 3, 4, 1, 2, 0], [5, 6, 2, 3, 1, 4, 0], [4, 5, 2, 3, 1, 6, 0], [4, 5, 3, 6, 1, 2, 0], [3, 4, 2, 5, 1, 6, 0]], [[6, 7, 4, 5, 2, 3, 0, 1], [6, 7, 4, 5, 1, 2, 0, 3], [6, 7, 3, 4, 1, 2, 0, 5], [5, 6, 3, 4, 1, 2, 0, 7], [6, 7, 3, 4, 2, 5, 0, 1], [6, 7, 2, 3, 1, 4, 0, 5], [5, 6, 2, 3, 1, 4, 0, 7], [5, 6, 3, 4, 2, 7, 0, 1], [4, 5, 2, 3, 1, 6, 0, 7], [5, 6, 4, 7, 2, 3, 0, 1], [5, 6, 4, 7, 1, 2, 0, 3], [4, 5, 3, 6, 1, 2, 0, 7], [4, 5, 3, 6, 2, 7, 0, 1], [3, 4, 2, 5, 1, 6, 0, 7]], [[7, 8, 5, 6, 3, 4, 1, 2, 0], [7, 8, 5, 6, 2, 3, 1, 4, 0], [7, 8, 4, 5, 2, 3, 1, 6, 0], [6, 7, 4, 5, 2, 3, 1, 8, 0], [7, 8, 4, 5, 3, 6, 1, 2, 0], [7, 8, 3, 4, 2, 5, 1, 6, 0], [6, 7, 3, 4, 2, 5, 1, 8, 0], [6, 7, 4, 5, 3, 8, 1, 2, 0], [5, 6, 3, 4, 2, 7, 1, 8, 0], [6, 7, 5, 8, 3, 4, 1, 2, 0], [6, 7, 5, 8, 2, 3, 1, 4, 0], [5, 6, 4, 7, 2, 3, 1, 8, 0], [5, 6, 4, 7, 3, 8, 1, 2, 0], [4, 5, 3, 6, 2, 7, 1, 8, 0]]]
def z8_1 : List (List Int) := [[3, 4, 2, 5, 1, 6, 0, 7], [4, 5, 2, 3, 1, 6, 0, 7], [4, 5, 3, 6, 1, 2, 0, 7], [4, 5, 3, 6, 2, 7, 0, 1], [5, 6, 2, 3, 1, 4, 0, 7], [5, 6, 3, 4, 1, 2, 0, 7], [5, 6, 3, 4, 2, 7, 0, 1], [5, 6, 4, 7, 1, 2, 0, 3], [5, 6, 4, 7, 2, 3, 0, 1], [6, 7, 2, 3, 1, 4, 0, 5], [6, 7, 3, 4, 1, 2, 0, 5], [6, 7, 3, 4, 2, 5, 0, 1], [6, 7, 4, 5, 1, 2, 0, 3], [6, 7, 4, 5, 2, 3, 0, 1]]
def z9_1 : List (List Int) := [[4, 5, 3, 6, 2, 7, 1, 8, 0], [5, 6, 3, 4, 2, 7, 1, 8, 0], [5, 6, 4, 7, 2, 3, 1, 8, 0], [5, 6, 4, 7, 3, 8, 1, 2, 0], [6, 7, 3, 4, 2, 5, 1, 8, 0], [6, 7, 4, 5, 2, 3, 1, 8, 0], [6, 7, 4, 5, 3, 8, 1, 2, 0], [6, 7, 5, 8, 2, 3, 1, 4, 0], [6, 7, 5, 8, 3, 4, 1, 2, 0], [7, 8, 3, 4, 2, 5, 1, 6, 0], [7, 8, 4, 5, 2, 3, 1, 6, 0], [7, 8, 4, 5, 3, 6, 1, 2, 0], [7, 8, 5, 6, 2, 3, 1, 4, 0], [7, 8, 5, 6, 3, 4, 1, 2, 0]]
theorem f_turn1 (x1 x4 x5 x6 x7 x8 : Option D) : ((List.range 9).all fun s => isTurn [0, 2, 1] (zrB d_with_last d_is_zigzag (fastW 14) [some (tupI [0, 2, 1]), x1, some (rws (tab1.getD s [])), some (.int (s : Nat)), x4, x5, x6, x7, x8]) (tab1.getD (s + 1) [])) = true := by kernel_rfl
theorem f_srt8_1 : srt (fun s => tab1.getD s []) z8_1 8 = true := by decide +kernel
theorem f_good8_1 : good [0, 2, 1] z8_1 (d__law_number [tupI [0, 2, 1], .int (8 : Nat)]) = true := by decide +kernel
theorem f_srt9_1 : srt (fun s => tab1.getD s []) z9_1 9 = true := by decide +kernel
theorem f_good9_1 : good [0, 2, 1] z9_1 (d__law_number [tupI [0, 2, 1], .int (9 : Nat)]) = true := by decide +kernel
theorem turn1 : ∀ s, s < 9 → ∀ x1 x4 x5 x6 x7 x8, isTurn [0, 2, 1] (zrB d_with_last d_is_zigzag d_is_within [some (tupI [0, 2, 1]), x1, some (rws ((fun s => tab1.getD s []) s)), some (.int (s : Nat)), x4, x5, x6, x7, x8]) ((fun s => tab1.getD s []) (s + 1)) = true := fun s hs x1 x4 x5 x6 x7 x8 => by
  rw [within_fast]
  exact List.all_eq_true.mp (f_turn1 x1 x4 x5 x6 x7 x8) s (List.mem_range.mpr hs)
def tab2 : List (List (List Int)) := [[[]], [[0]], [[0, 1]], [[1, 2, 0], [0, 2, 1]], [[2, 3, 0, 1], [0, 3, 1, 2]], [[3, 4, 1, 2, 0], [3, 4, 0, 2, 1], [1, 4, 2, 3, 0], [0, 4, 2, 3, 1], [0, 4, 1, 3, 2]], [[4, 5, 2, 3, 0, 1], [4, 5, 0, 3, 1, 2], [2, 5, 3, 4, 0, 1], [0, 5, 3, 4, 1, 2], [0, 5, 1, 4, 2, 3]], [[5, 6, 3, 4, 1, 2, 0], [5, 6, 3, 4, 0, 2, 1], [5, 6, 1, 4, 2, 3, 0], [5, 6, 0, 4, 2, 3, 1], [5, 6, 0, 4, 1, 3, 2], [3, 6, 4, 5, 1, 2, 0], [3, 6, 4, 5, 0, 2, 1], [1, 6, 4, 5, 2, 3, 0], [0, 6, 4, 5, 2, 3, 1], [0, 6, 4, 5, 1, 3, 2], [1, 6, 2, 5, 3, 4, 0], [0, 6, 2, 5, 3, 4, 1], [0, 6, 1, 5, 3, 4, 2], [0, 6, 1, 5, 2, 4, 3]], [[6, 7, 4, 5, 2, 3, 0, 1], [6, 7, 4, 5, 0, 3, 1, 2], [6, 7, 2, 5, 3, 4, 0, 1], [6, 7, 0, 5, 3, 4, 1, 2], [6, 7, 0, 5, 1, 4, 2, 3], [4, 7, 5, 6, 2, 3, 0, 1], [4, 7, 5, 6, 0, 3, 1, 2], [2, 7, 5, 6, 3, 4, 0, 1], [0, 7, 5, 6, 3, 4, 1, 2], [0, 7, 5, 6, 1, 4, 2, 3], [2, 7, 3, 6, 4, 5, 0, 1], [0, 7, 3, 6, 4, 5, 1, 2], [0, 7, 1, 6, 4, 5, 2, 3], [0, 7, 1, 6, 2, 5, 3, 4]], [[7, 8, 5, 6, 3, 4, 1, 2, 0], [7, 8, 5, 6, 3, 4, 0, 2, 1], [7, 8, 5, 6, 1, 4, 2, 3, 0], [7, 8, 5, 6, 0, 4, 2, 3, 1], [7, 8, 5, 6, 0, 4, 1, 3, 2], [7, 8, 3, 6, 4, 5, 1, 2, 0], [7, 8, 3, 6, 4, 5, 0, 2, 1], [7, 8, 1, 6, 4, 5, 2, 3, 0], [7, 8, 0, 6, 4, 5, 2, 3, 1], [7, 8, 0, 6, 4, 5, 1, 3, 2], [7, 8, 1, 6, 2, 5, 3, 4, 0], [7, 8, 0, 6, 2, 5, 3, 4, 1], [7, 8, 0, 6, 1, 5, 3, 4, 2], [7, 8, 0, 6, 1, 5, 2, 4, 3], [5, 8, 6, 7, 3, 4, 1, 2, 0], [5, 8, 6, 7, 3, 4, 0, 2, 1], [5, 8, 6, 7, 1, 4, 2, 3, 0], [5, 8, 6, 7, 0, 4, 2, 3, 1], [5, 8, 6, 7, 0, 4, 1, 3, 2], [3, 8, 6, 7, 4, 5, 1, 2, 0], [3, 8, 6, 7, 4, 5, 0, 2, 1], [1, 8, 6, 7, 4, 5, 2, 3, 0], [0, 8, 6, 7, 4, 5, 2, 3, 1], [0, 8, 6, 7, 4, 5, 1, 3, 2], [1, 8, 6, 7, 2, 5, 3, 4, 0], [0, 8, 6, 7, 2, 5, 3, 4, 1], [0, 8, 6, 7, 1, 5, 3, 4, 2], [0, 8, 6, 7, 1, 5, 2, 4, 3], [3, 8, 4, 7, 5, 6, 1, 2, 0], [3, 8, 4, 7, 5, 6, 0, 2, 1], [1, 8, 4, 7, 5, 6, 2, 3, 0], [0, 8, 4, 7, 5, 6, 2, 3, 1], [0, 8, 4, 7, 5, 6, 1, 3, 2], [1, 8, 2, 7, 5, 6, 3, 4, 0], [0, 8, 2, 7, 5, 6, 3, 4, 1], [0, 8, 1, 7, 5, 6, 3, 4, 2], [0, 8, 1, 7, 5, 6, 2, 4, 3], [1, 8, 2, 7, 3, 6, 4, 5, 0], [0, 8, 2, 7, 3, 6, 4, 5, 1], [0, 8, 1, 7, 3, 6, 4, 5, 2], [0, 8, 1, 7, 2, 6, 4, 5, 3], [0, 8, 1, 7, 2, 6, 3, 5, 4]]]
def z8_2 : List (List Int) := [[0, 7, 1, 6, 2, 5, 3, 4], [0, 7, 1, 6, 4, 5, 2, 3], [0, 7, 3, 6, 4, 5, 1, 2], [0, 7, 5, 6, 1, 4, 2, 3], [0, 7, 5, 6, 3, 4, 1, 2], [2, 7, 3, 6, 4, 5, 0, 1], [2, 7, 5, 6, 3, 4, 0, 1], [4, 7, 5, 6, 0, 3, 1, 2], [4, 7, 5, 6, 2, 3, 0, 1], [6, 7, 0, 5, 1, 4, 2, 3], [6, 7, 0, 5, 3, 4, 1, 2], [6, 7, 2, 5, 3, 4, 0, 1], [6, 7, 4, 5, 0, 3, 1, 2], [6, 7, 4, 5, 2, 3, 0, 1]]
def z9_2 : List (List Int) := [[0, 8, 1, 7, 2, 6, 3, 5, 4], [0, 8, 1, 7, 2, 6, 4, 5, 3], [0, 8, 1, 7, 3, 6, 4, 5, 2], [0, 8, 1, 7, 5, 6, 2, 4, 3], [0, 8, 1, 7, 5, 6, 3, 4, 2], [0, 8, 2, 7, 3, 6, 4, 5, 1], [0, 8, 2, 7, 5, 6, 3, 4, 1], [0, 8, 4, 7, 5, 6, 1, 3, 2], [0, 8, 4, 7, 5, 6, 2, 3, 1], [0, 8, 6, 7, 1, 5, 2, 4, 3], [0, 8, 6, 7, 1, 5, 3, 4, 2], [0, 8, 6, 7, 2, 5, 3, 4, 1], [0, 8, 6, 7, 4, 5, 1, 3, 2], [0, 8, 6, 7, 4, 5, 2, 3, 1], [1, 8, 2, 7, 3, 6, 4, 5, 0], [1, 8, 2, 7, 5, 6, 3, 4, 0], [1, 8, 4, 7, 5, 6, 2, 3, 0], [1, 8, 6, 7, 2, 5, 3, 4, 0], [1, 8, 6, 7, 4, 5, 2, 3, 0], [3, 8, 4, 7, 5, 6, 0, 2, 1], [3, 8, 4, 7, 5, 6, 1, 2, 0], [3, 8, 6, 7, 4, 5, 0, 2, 1], [3, 8, 6, 7, 4, 5, 1, 2, 0], [5, 8, 6, 7, 0, 4, 1, 3, 2], [5, 8, 6, 7, 0, 4, 2, 3, 1], [5, 8, 6, 7, 1, 4, 2, 3, 0], [5, 8, 6, 7, 3, 4, 0, 2, 1], [5, 8, 6, 7, 3, 4, 1, 2, 0], [7, 8, 0, 6, 1, 5, 2, 4, 3], [7, 8, 0, 6, 1, 5, 3, 4, 2], [7, 8, 0, 6, 2, 5, 3, 4, 1], [7, 8, 0, 6, 4, 5, 1, 3, 2], [7, 8, 0, 6, 4, 5, 2, 3, 1], [7, 8, 1, 6, 2, 5, 3, 4, 0], [7, 8, 1, 6, 4, 5, 2, 3, 0], [7, 8, 3, 6, 4, 5, 0, 2, 1], [7, 8, 3, 6, 4, 5, 1, 2, 0], [7, 8, 5, 6, 0, 4, 1, 3, 2], [7, 8, 5, 6, 0, 4, 2, 3, 1], [7, 8, 5, 6, 1, 4, 2, 3, 0], [7, 8, 5, 6, 3, 4, 0, 2, 1], [7, 8, 5, 6, 3, 4, 1, 2, 0]]
theorem f_turn2 (x1 x4 x5 x6 x7 x8 : Option D) : ((List.range 9).all fun s => isTurn [1, 0, 2] (zrB d_with_last d_is_zigzag (fastW 14) [some (tupI [1, 0, 2]), x1, some (rws (tab2.getD s [])), some (.int (s : Nat)), x4, x5, x6, x7, x8]) (tab2.getD (s + 1) [])) = true := by kernel_rfl
theorem f_srt8_2 : srt (fun s => tab2.getD s []) z8_2 8 = true := by decide +kernel
theorem f_good8_2 : good [1, 0, 2] z8_2 (d__law_number [tupI [1, 0, 2], .int (8 : Nat)]) = true := by decide +kernel
theorem f_srt9_2 : srt (fun s => tab2.getD s []) z9_2 9 = true := by decide +kernel
theorem f_good9_2 : good [1, 0, 2] z9_2 (d__law_number [tupI [1, 0, 2], .int (9 : Nat)]) = true := by decide +kernel
theorem turn2 : ∀ s, s < 9 → ∀ x1 x4 x5 x6 x7 x8, isTurn [1, 0, 2] (zrB d_with_last d_is_zigzag d_is_within [some (tupI [1, 0, 2]), x1, some (rws ((fun s => tab2.getD s []) s)), some (.int (s : Nat)), x4, x5, x6, x7, x8]) ((fun s => tab2.getD s []) (s + 1)) = true := fun s hs x1 x4 x5 x6 x7 x8 => by
  rw [within_fast]
  exact List.all_eq_true.mp (f_turn2 x1 x4 x5 x6 x7 x8) s (List.mem_range.mpr hs)
def tab3 : List (List (List Int)) := [[[]], [[0]], [[0, 1]], [[0, 2, 1]], [[0, 3, 1, 2], [0, 2, 1, 3]], [[0, 4, 1, 3, 2], [0, 2, 1, 4, 3]], [[0, 5, 1, 4, 2, 3], [0, 5, 1, 3, 2, 4], [0, 4, 1, 3, 2, 5], [0, 2, 1, 5, 3, 4], [0, 2, 1, 4, 3, 5]], [[0, 6, 1, 5, 2, 4, 3], [0, 6, 1, 3, 2, 5, 4], [0, 4, 1, 3, 2, 6, 5], [0, 2, 1, 6, 3, 5, 4], [0, 2, 1, 4, 3, 6, 5]], [[0, 7, 1, 6, 2, 5, 3, 4], [0, 7, 1, 6, 2, 4, 3, 5], [0, 7, 1, 5, 2, 4, 3, 6], [0, 6, 1, 5, 2, 4, 3, 7], [0, 7, 1, 3, 2, 6, 4, 5], [0, 7, 1, 3, 2, 5, 4, 6], [0, 6, 1, 3, 2, 5, 4, 7], [0, 4, 1, 3, 2, 7, 5, 6], [0, 4, 1, 3, 2, 6, 5, 7], [0, 2, 1, 7, 3, 6, 4, 5], [0, 2, 1, 7, 3, 5, 4, 6], [0, 2, 1, 6, 3, 5, 4, 7], [0, 2, 1, 4, 3, 7, 5, 6], [0, 2, 1, 4, 3, 6, 5, 7]], [[0, 8, 1, 7, 2, 6, 3, 5, 4], [0, 8, 1, 7, 2, 4, 3, 6, 5], [0, 8, 1, 5, 2, 4, 3, 7, 6], [0, 6, 1, 5, 2, 4, 3, 8, 7], [0, 8, 1, 3, 2, 7, 4, 6, 5], [0, 8, 1, 3, 2, 5, 4, 7, 6], [0, 6, 1, 3, 2, 5, 4, 8, 7], [0, 4, 1, 3, 2, 8, 5, 7, 6], [0, 4, 1, 3, 2, 6, 5, 8, 7], [0, 2, 1, 8, 3, 7, 4, 6, 5], [0, 2, 1, 8, 3, 5, 4, 7, 6], [0, 2, 1, 6, 3, 5, 4, 8, 7], [0, 2, 1, 4, 3, 8, 5, 7, 6], [0, 2, 1, 4, 3, 6, 5, 8, 7]]]
def z8_3 : List (List Int) := [[0, 2, 1, 4, 3, 6, 5, 7], [0, 2, 1, 4, 3, 7, 5, 6], [0, 2, 1, 6, 3, 5, 4, 7], [0, 2, 1, 7, 3, 5, 4, 6], [0, 2, 1, 7, 3, 6, 4, 5], [0, 4, 1, 3, 2, 6, 5, 7], [0, 4, 1, 3, 2, 7, 5, 6], [0, 6, 1, 3, 2, 5, 4, 7], [0, 6, 1, 5, 2, 4, 3, 7], [0, 7, 1, 3, 2, 5, 4, 6], [0, 7, 1, 3, 2, 6, 4, 5], [0, 7, 1, 5, 2, 4, 3, 6], [0, 7, 1, 6, 2, 4, 3, 5], [0, 7, 1, 6, 2, 5, 3, 4]]
def z9_3 : List (List Int) := [[0, 2, 1, 4, 3, 6, 5, 8, 7], [0, 2, 1, 4, 3, 8, 5, 7, 6], [0, 2, 1, 6, 3, 5, 4, 8, 7], [0, 2, 1, 8, 3, 5, 4, 7, 6], [0, 2, 1, 8, 3, 7, 4, 6, 5], [0, 4, 1, 3, 2, 6, 5, 8, 7], [0, 4, 1, 3, 2, 8, 5, 7, 6], [0, 6, 1, 3, 2, 5, 4, 8, 7], [0, 6, 1, 5, 2, 4, 3, 8, 7], [0, 8, 1, 3, 2, 5, 4, 7, 6], [0, 8, 1, 3, 2, 7, 4, 6, 5], [0, 8, 1, 5, 2, 4, 3, 7, 6], [0, 8, 1, 7, 2, 4, 3, 6, 5], [0, 8, 1, 7, 2, 6, 3, 5, 4]]
theorem f_turn3 (x1 x4 x5 x6 x7 x8 : Option D) : ((List.range 9).all fun s => isTurn [1, 2, 0] (zrB d_with_last d_is_zigzag (fastW 14) [some (tupI [1, 2, 0]), x1, some (rws (tab3.getD s [])), some (.int (s : Nat)), x4, x5, x6, x7, x8]) (tab3.getD (s + 1) [])) = true := by kernel_rfl
theorem f_srt8_3 : srt (fun s => tab3.getD s []) z8_3 8 = true := by decide +kernel
theorem f_good8_3 : good [1, 2, 0] z8_3 (d__law_number [tupI [1, 2, 0], .int (8 : Nat)]) = true := by decide +kernel
theorem f_srt9_3 : srt (fun s => tab3.getD s []) z9_3 9 = true := by decide +kernel
theorem f_good9_3 : good [1, 2, 0] z9_3 (d__law_number [tupI [1, 2, 0], .int (9 : Nat)]) = true := by decide +kernel
theorem turn3 : ∀ s, s < 9 → ∀ x1 x4 x5 x6 x7 x8, isTurn [1, 2, 0] (zrB d_with_last d_is_zigzag d_is_within [some (tupI [1, 2, 0]), x1, some (rws ((fun s => tab3.getD s []) s)), some (.int (s : Nat)), x4, x5, x6, x7, x8]) ((fun s => tab3.getD s []) (s + 1)) = true := fun s hs x1 x4 x5 x6 x7 x8 => by
  rw [within_fast]
  exact List.all_eq_true.mp (f_turn3 x1 x4 x5 x6 x7 x8) s (List.mem_range.mpr hs)
def tab4 : List (List (List Int)) := [[[]], [[0]], [[0, 1]], [[1, 2, 0], [0, 2, 1]], [[1, 2, 0, 3], [0, 2, 1, 3]], [[2, 3, 1, 4, 0], [1, 2, 0, 4, 3], [1, 3, 2, 4, 0], [0, 3, 2, 4, 1], [0, 2, 1, 4, 3]], [[2, 3, 1, 4, 0, 5], [1, 2, 0, 4, 3, 5], [1, 3, 2, 4, 0, 5], [0, 3, 2, 4, 1, 5], [0, 2, 1, 4, 3, 5]], [[3, 4, 2, 5, 1, 6, 0], [2, 3, 1, 4, 0, 6, 5], [2, 3, 1, 5, 4, 6, 0], [1, 2, 0, 5, 4, 6, 3], [1, 2, 0, 4, 3, 6, 5], [2, 4, 3, 5, 1, 6, 0], [1, 3, 2, 4, 0, 6, 5], [1, 4, 3, 5, 2, 6, 0], [0, 4, 3, 5, 2, 6, 1], [0, 3, 2, 4, 1, 6, 5], [1, 3, 2, 5, 4, 6, 0], [0, 3, 2, 5, 4, 6, 1], [0, 2, 1, 5, 4, 6, 3], [0, 2, 1, 4, 3, 6, 5]], [[3, 4, 2, 5, 1, 6, 0, 7], [2, 3, 1, 4, 0, 6, 5, 7], [2, 3, 1, 5, 4, 6, 0, 7], [1, 2, 0, 5, 4, 6, 3, 7], [1, 2, 0, 4, 3, 6, 5, 7], [2, 4, 3, 5, 1, 6, 0, 7], [1, 3, 2, 4, 0, 6, 5, 7], [1, 4, 3, 5, 2, 6, 0, 7], [0, 4, 3, 5, 2, 6, 1, 7], [0, 3, 2, 4, 1, 6, 5, 7], [1, 3, 2, 5, 4, 6, 0, 7], [0, 3, 2, 5, 4, 6, 1, 7], [0, 2, 1, 5, 4, 6, 3, 7], [0, 2, 1, 4, 3, 6, 5, 7]], [[4, 5, 3, 6, 2, 7, 1, 8, 0], [3, 4, 2, 5, 1, 6, 0, 8, 7], [3, 4, 2, 5, 1, 7, 6, 8, 0], [2, 3, 1, 4, 0, 7, 6, 8, 5], [2, 3, 1, 4, 0, 6, 5, 8, 7], [3, 4, 2, 6, 5, 7, 1, 8, 0], [2, 3, 1, 5, 4, 6, 0, 8, 7], [2, 3, 1, 6, 5, 7, 4, 8, 0], [1, 2, 0, 6, 5, 7, 4, 8, 3], [1, 2, 0, 5, 4, 6, 3, 8, 7], [2, 3, 1, 5, 4, 7, 6, 8, 0], [1, 2, 0, 5, 4, 7, 6, 8, 3], [1, 2, 0, 4, 3, 7, 6, 8, 5], [1, 2, 0, 4, 3, 6, 5, 8, 7], [3, 5, 4, 6, 2, 7, 1, 8, 0], [2, 4, 3, 5, 1, 6, 0, 8, 7], [2, 4, 3, 5, 1, 7, 6, 8, 0], [1, 3, 2, 4, 0, 7, 6, 8, 5], [1, 3, 2, 4, 0, 6, 5, 8, 7], [2, 5, 4, 6, 3, 7, 1, 8, 0], [1, 4, 3, 5, 2, 6, 0, 8, 7], [1, 5, 4, 6, 3, 7, 2, 8, 0], [0, 5, 4, 6, 3, 7, 2, 8, 1], [0, 4, 3, 5, 2, 6, 1, 8, 7], [1, 4, 3, 5, 2, 7, 6, 8, 0], [0, 4, 3, 5, 2, 7, 6, 8, 1], [0, 3, 2, 4, 1, 7, 6, 8, 5], [0, 3, 2, 4, 1, 6, 5, 8, 7], [2, 4, 3, 6, 5, 7, 1, 8, 0], [1, 3, 2, 5, 4, 6, 0, 8, 7], [1, 4, 3, 6, 5, 7, 2, 8, 0], [0, 4, 3, 6, 5, 7, 2, 8, 1], [0, 3, 2, 5, 4, 6, 1, 8, 7], [1, 3, 2, 6, 5, 7, 4, 8, 0], [0, 3, 2, 6, 5, 7, 4, 8, 1], [0, 2, 1, 6, 5, 7, 4, 8, 3], [0, 2, 1, 5, 4, 6, 3, 8, 7], [1, 3, 2, 5, 4, 7, 6, 8, 0], [0, 3, 2, 5, 4, 7, 6, 8, 1], [0, 2, 1, 5, 4, 7, 6, 8, 3], [0, 2, 1, 4, 3, 7, 6, 8, 5], [0, 2, 1, 4, 3, 6, 5, 8, 7]]]
def z8_4 : List (List Int) := [[0, 2, 1, 4, 3, 6, 5, 7], [0, 2, 1, 5, 4, 6, 3, 7], [0, 3, 2, 4, 1, 6, 5, 7], [0, 3, 2, 5, 4, 6, 1, 7], [0, 4, 3, 5, 2, 6, 1, 7], [1, 2, 0, 4, 3, 6, 5, 7], [1, 2, 0, 5, 4, 6, 3, 7], [1, 3, 2, 4, 0, 6, 5, 7], [1, 3, 2, 5, 4, 6, 0, 7], [1, 4, 3, 5, 2, 6, 0, 7], [2, 3, 1, 4, 0, 6, 5, 7], [2, 3, 1, 5, 4, 6, 0, 7], [2, 4, 3, 5, 1, 6, 0, 7], [3, 4, 2, 5, 1, 6, 0, 7]]
def z9_4 : List (List Int) := [[0, 2, 1, 4, 3, 6, 5, 8, 7], [0, 2, 1, 4, 3, 7, 6, 8, 5], [0, 2, 1, 5, 4, 6, 3, 8, 7], [0, 2, 1, 5, 4, 7, 6, 8, 3], [0, 2, 1, 6, 5, 7, 4, 8, 3], [0, 3, 2, 4, 1, 6, 5, 8, 7], [0, 3, 2, 4, 1, 7, 6, 8, 5], [0, 3, 2, 5, 4, 6, 1, 8, 7], [0, 3, 2, 5, 4, 7, 6, 8, 1], [0, 3, 2, 6, 5, 7, 4, 8, 1], [0, 4, 3, 5, 2, 6, 1, 8, 7], [0, 4, 3, 5, 2, 7, 6, 8, 1], [0, 4, 3, 6, 5, 7, 2, 8, 1], [0, 5, 4, 6, 3, 7, 2, 8, 1], [1, 2, 0, 4, 3, 6, 5, 8, 7], [1, 2, 0, 4, 3, 7, 6, 8, 5], [1, 2, 0, 5, 4, 6, 3, 8, 7], [1, 2, 0, 5, 4, 7, 6, 8, 3], [1, 2, 0, 6, 5, 7, 4, 8, 3], [1, 3, 2, 4, 0, 6, 5, 8, 7], [1, 3, 2, 4, 0, 7, 6, 8, 5], [1, 3, 2, 5, 4, 6, 0, 8, 7], [1, 3, 2, 5, 4, 7, 6, 8, 0], [1, 3, 2, 6, 5, 7, 4, 8, 0], [1, 4, 3, 5, 2, 6, 0, 8, 7], [1, 4, 3, 5, 2, 7, 6, 8, 0], [1, 4, 3, 6, 5, 7, 2, 8, 0], [1, 5, 4, 6, 3, 7, 2, 8, 0], [2, 3, 1, 4, 0, 6, 5, 8, 7], [2, 3, 1, 4, 0, 7, 6, 8, 5], [2, 3, 1, 5, 4, 6, 0, 8, 7], [2, 3, 1, 5, 4, 7, 6, 8, 0], [2, 3, 1, 6, 5, 7, 4, 8, 0], [2, 4, 3, 5, 1, 6, 0, 8, 7], [2, 4, 3, 5, 1, 7, 6, 8, 0], [2, 4, 3, 6, 5, 7, 1, 8, 0], [2, 5, 4, 6, 3, 7, 1, 8, 0], [3, 4, 2, 5, 1, 6, 0, 8, 7], [3, 4, 2, 5, 1, 7, 6, 8, 0], [3, 4, 2, 6, 5, 7, 1, 8, 0], [3, 5, 4, 6, 2, 7, 1, 8, 0], [4, 5, 3, 6, 2, 7, 1, 8, 0]]
theorem f_turn4 (x1 x4 x5 x6 x7 x8 : Option D) : ((List.range 9).all fun s => isTurn [2, 0, 1] (zrB d_with_last d_is_zigzag (fastW 14) [some (tupI [2, 0, 1]), x1, some (rws (tab4.getD s [])), some (.int (s : Nat)), x4, x5, x6, x7, x8]) (tab4.getD (s + 1) [])) = true := by kernel_rfl
theorem f_srt8_4 : srt (fun s => tab4.getD s []) z8_4 8 = true := by decide +kernel
theorem f_good8_4 : good [2, 0, 1] z8_4 (d__law_number [tupI [2, 0, 1], .int (8 : Nat)]) = true := by decide +kernel
theorem f_srt9_4 : srt (fun s => tab4.getD s []) z9_4 9 = true := by decide +kernel
theorem f_good9_4 : good [2, 0, 1] z9_4 (d__law_number [tupI [2, 0, 1], .int (9 : Nat)]) = true := by decide +kernel
theorem turn4 : ∀ s, s < 9 → ∀ x1 x4 x5 x6 x7 x8, isTurn [2, 0, 1] (zrB d_with_last d_is_zigzag d_is_within [some (tupI [2, 0, 1]), x1, some (rws ((fun s => tab4.getD s []) s)), some (.int (s : Nat)), x4, x5, x6, x7, x8]) ((fun s => tab4.getD s []) (s + 1)) = true := fun s hs x1 x4 x5 x6 x7 x8 => by
  rw [within_fast]
  exact List.all_eq_true.mp (f_turn4 x1 x4 x5 x6 x7 x8) s (List.mem_range.mpr hs)
def tab5 : List (List (List Int)) := [[[]], [[0]], [[0, 1]], [[1, 2, 0], [0, 2, 1]], [[2, 3, 0, 1], [1, 3, 0, 2], [1, 2, 0, 3], [0, 3, 1, 2], [0, 2, 1, 3]], [[2, 3, 0, 4, 1], [1, 3, 0, 4, 2], [1, 2, 0, 4, 3], [0, 3, 1, 4, 2], [0, 2, 1, 4, 3]], [[3, 4, 0, 5, 1, 2], [2, 4, 0, 5, 1, 3], [2, 3, 0, 5, 1, 4], [2, 3, 0, 4, 1, 5], [1, 4, 0, 5, 2, 3], [1, 3, 0, 5, 2, 4], [1, 3, 0, 4, 2, 5], [1, 2, 0, 5, 3, 4], [1, 2, 0, 4, 3, 5], [0, 4, 1, 5, 2, 3], [0, 3, 1, 5, 2, 4], [0, 3, 1, 4, 2, 5], [0, 2, 1, 5, 3, 4], [0, 2, 1, 4, 3, 5]], [[3, 4, 0, 5, 1, 6, 2], [2, 4, 0, 5, 1, 6, 3], [2, 3, 0, 5, 1, 6, 4], [2, 3, 0, 4, 1, 6, 5], [1, 4, 0, 5, 2, 6, 3], [1, 3, 0, 5, 2, 6, 4], [1, 3, 0, 4, 2, 6, 5], [1, 2, 0, 5, 3, 6, 4], [1, 2, 0, 4, 3, 6, 5], [0, 4, 1, 5, 2, 6, 3], [0, 3, 1, 5, 2, 6, 4], [0, 3, 1, 4, 2, 6, 5], [0, 2, 1, 5, 3, 6, 4], [0, 2, 1, 4, 3, 6, 5]], [[4, 5, 0, 6, 1, 7, 2, 3], [3, 5, 0, 6, 1, 7, 2, 4], [3, 4, 0, 6, 1, 7, 2, 5], [3, 4, 0, 5, 1, 7, 2, 6], [3, 4, 0, 5, 1, 6, 2, 7], [2, 5, 0, 6, 1, 7, 3, 4], [2, 4, 0, 6, 1, 7, 3, 5], [2, 4, 0, 5, 1, 7, 3, 6], [2, 4, 0, 5, 1, 6, 3, 7], [2, 3, 0, 6, 1, 7, 4, 5], [2, 3, 0, 5, 1, 7, 4, 6], [2, 3, 0, 5, 1, 6, 4, 7], [2, 3, 0, 4, 1, 7, 5, 6], [2, 3, 0, 4, 1, 6, 5, 7], [1, 5, 0, 6, 2, 7, 3, 4], [1, 4, 0, 6, 2, 7, 3, 5], [1, 4, 0, 5, 2, 7, 3, 6], [1, 4, 0, 5, 2, 6, 3, 7], [1, 3, 0, 6, 2, 7, 4, 5], [1, 3, 0, 5, 2, 7, 4, 6], [1, 3, 0, 5, 2, 6, 4, 7], [1, 3, 0, 4, 2, 7, 5, 6], [1, 3, 0, 4, 2, 6, 5, 7], [1, 2, 0, 6, 3, 7, 4, 5], [1, 2, 0, 5, 3, 7, 4, 6], [1, 2, 0, 5, 3, 6, 4, 7], [1, 2, 0, 4, 3, 7, 5, 6], [1, 2, 0, 4, 3, 6, 5, 7], [0, 5, 1, 6, 2, 7, 3, 4], [0, 4, 1, 6, 2, 7, 3, 5], [0, 4, 1, 5, 2, 7, 3, 6], [0, 4, 1, 5, 2, 6, 3, 7], [0, 3, 1, 6, 2, 7, 4, 5], [0, 3, 1, 5, 2, 7, 4, 6], [0, 3, 1, 5, 2, 6, 4, 7], [0, 3, 1, 4, 2, 7, 5, 6], [0, 3, 1, 4, 2, 6, 5, 7], [0, 2, 1, 6, 3, 7, 4, 5], [0, 2, 1, 5, 3, 7, 4, 6], [0, 2, 1, 5, 3, 6, 4, 7], [0, 2, 1, 4, 3, 7, 5, 6], [0, 2, 1, 4, 3, 6, 5, 7]], [[4, 5, 0, 6, 1, 7, 2, 8, 3], [3, 5, 0, 6, 1, 7, 2, 8, 4], [3, 4, 0, 6, 1, 7, 2, 8, 5], [3, 4, 0, 5, 1, 7, 2, 8, 6], [3, 4, 0, 5, 1, 6, 2, 8, 7], [2, 5, 0, 6, 1, 7, 3, 8, 4], [2, 4, 0, 6, 1, 7, 3, 8, 5], [2, 4, 0, 5, 1, 7, 3, 8, 6], [2, 4, 0, 5, 1, 6, 3, 8, 7], [2, 3, 0, 6, 1, 7, 4, 8, 5], [2, 3, 0, 5, 1, 7, 4, 8, 6], [2, 3, 0, 5, 1, 6, 4, 8, 7], [2, 3, 0, 4, 1, 7, 5, 8, 6], [2, 3, 0, 4, 1, 6, 5, 8, 7], [1, 5, 0, 6, 2, 7, 3, 8, 4], [1, 4, 0, 6, 2, 7, 3, 8, 5], [1, 4, 0, 5, 2, 7, 3, 8, 6], [1, 4, 0, 5, 2, 6, 3, 8, 7], [1, 3, 0, 6, 2, 7, 4, 8, 5], [1, 3, 0, 5, 2, 7, 4, 8, 6], [1, 3, 0, 5, 2, 6, 4, 8, 7], [1, 3, 0, 4, 2, 7, 5, 8, 6], [1, 3, 0, 4, 2, 6, 5, 8, 7], [1, 2, 0, 6, 3, 7, 4, 8, 5], [1, 2, 0, 5, 3, 7, 4, 8, 6], [1, 2, 0, 5, 3, 6, 4, 8, 7], [1, 2, 0, 4, 3, 7, 5, 8, 6], [1, 2, 0, 4, 3, 6, 5, 8, 7], [0, 5, 1, 6, 2, 7, 3, 8, 4], [0, 4, 1, 6, 2, 7, 3, 8, 5], [0, 4, 1, 5, 2, 7, 3, 8, 6], [0, 4, 1, 5, 2, 6, 3, 8, 7], [0, 3, 1, 6, 2, 7, 4, 8, 5], [0, 3, 1, 5, 2, 7, 4, 8, 6], [0, 3, 1, 5, 2, 6, 4, 8, 7], [0, 3, 1, 4, 2, 7, 5, 8, 6], [0, 3, 1, 4, 2, 6, 5, 8, 7], [0, 2, 1, 6, 3, 7, 4, 8, 5], [0, 2, 1, 5, 3, 7, 4, 8, 6], [0, 2, 1, 5, 3, 6, 4, 8, 7], [0, 2, 1, 4, 3, 7, 5, 8, 6], [0, 2, 1, 4, 3, 6, 5, 8, 7]]]
def z8_5 : List (List Int) := [[0, 2, 1, 4, 3, 6, 5, 7], [0, 2, 1, 4, 3, 7, 5, 6], [0, 2, 1, 5, 3, 6, 4, 7], [0, 2, 1, 5, 3, 7, 4, 6], [0, 2, 1, 6, 3, 7, 4, 5], [0, 3, 1, 4, 2, 6, 5, 7], [0, 3, 1, 4, 2, 7, 5, 6], [0, 3, 1, 5, 2, 6, 4, 7], [0, 3, 1, 5, 2, 7, 4, 6], [0, 3, 1, 6, 2, 7, 4, 5], [0, 4, 1, 5, 2, 6, 3, 7], [0, 4, 1, 5, 2, 7, 3, 6], [0, 4, 1, 6, 2, 7, 3, 5], [0, 5, 1, 6, 2, 7, 3, 4], [1, 2, 0, 4, 3, 6, 5, 7], [1, 2, 0, 4, 3, 7, 5, 6], [1, 2, 0, 5, 3, 6, 4, 7], [1, 2, 0, 5, 3, 7, 4, 6], [1, 2, 0, 6, 3, 7, 4, 5], [1, 3, 0, 4, 2, 6, 5, 7], [1, 3, 0, 4, 2, 7, 5, 6], [1, 3, 0, 5, 2, 6, 4, 7], [1, 3, 0, 5, 2, 7, 4, 6], [1, 3, 0, 6, 2, 7, 4, 5], [1, 4, 0, 5, 2, 6, 3, 7], [1, 4, 0, 5, 2, 7, 3, 6], [1, 4, 0, 6, 2, 7, 3, 5], [1, 5, 0, 6, 2, 7, 3, 4], [2, 3, 0, 4, 1, 6, 5, 7], [2, 3, 0, 4, 1, 7, 5, 6], [2, 3, 0, 5, 1, 6, 4, 7], [2, 3, 0, 5, 1, 7, 4, 6], [2, 3, 0, 6, 1, 7, 4, 5], [2, 4, 0, 5, 1, 6, 3, 7], [2, 4, 0, 5, 1, 7, 3, 6], [2, 4, 0, 6, 1, 7, 3, 5], [2, 5, 0, 6, 1, 7, 3, 4], [3, 4, 0, 5, 1, 6, 2, 7], [3, 4, 0, 5, 1, 7, 2, 6], [3, 4, 0, 6, 1, 7, 2, 5], [3, 5, 0, 6, 1, 7, 2, 4], [4, 5, 0, 6, 1, 7, 2, 3]]
def z9_5 : List (List Int) := [[0, 2, 1, 4, 3, 6, 5, 8, 7], [0, 2, 1, 4, 3, 7, 5, 8, 6], [0, 2, 1, 5, 3, 6, 4, 8, 7], [0, 2, 1, 5, 3, 7, 4, 8, 6], [0, 2, 1, 6, 3, 7, 4, 8, 5], [0, 3, 1, 4, 2, 6, 5, 8, 7], [0, 3, 1, 4, 2, 7, 5, 8, 6], [0, 3, 1, 5, 2, 6, 4, 8, 7], [0, 3, 1, 5, 2, 7, 4, 8, 6], [0, 3, 1, 6, 2, 7, 4, 8, 5], [0, 4, 1, 5, 2, 6, 3, 8, 7], [0, 4, 1, 5, 2, 7, 3, 8, 6], [0, 4, 1, 6, 2, 7, 3, 8, 5], [0, 5, 1, 6, 2, 7, 3, 8, 4], [1, 2, 0, 4, 3, 6, 5, 8, 7], [1, 2, 0, 4, 3, 7, 5, 8, 6], [1, 2, 0, 5, 3, 6, 4, 8, 7], [1, 2, 0, 5, 3, 7, 4, 8, 6], [1, 2, 0, 6, 3, 7, 4, 8, 5], [1, 3, 0, 4, 2, 6, 5, 8, 7], [1, 3, 0, 4, 2, 7, 5, 8, 6], [1, 3, 0, 5, 2, 6, 4, 8, 7], [1, 3, 0, 5, 2, 7, 4, 8, 6], [1, 3, 0, 6, 2, 7, 4, 8, 5], [1, 4, 0, 5, 2, 6, 3, 8, 7], [1, 4, 0, 5, 2, 7, 3, 8, 6], [1, 4, 0, 6, 2, 7, 3, 8, 5], [1, 5, 0, 6, 2, 7, 3, 8, 4], [2, 3, 0, 4, 1, 6, 5, 8, 7], [2, 3, 0, 4, 1, 7, 5, 8, 6], [2, 3, 0, 5, 1, 6, 4, 8, 7], [2, 3, 0, 5, 1, 7, 4, 8, 6], [2, 3, 0, 6, 1, 7, 4, 8, 5], [2, 4, 0, 5, 1, 6, 3, 8, 7], [2, 4, 0, 5, 1, 7, 3, 8, 6], [2, 4, 0, 6, 1, 7, 3, 8, 5], [2, 5, 0, 6, 1, 7, 3, 8, 4], [3, 4, 0, 5, 1, 6, 2, 8, 7], [3, 4, 0, 5, 1, 7, 2, 8, 6], [3, 4, 0, 6, 1, 7, 2, 8, 5], [3, 5, 0, 6, 1, 7, 2, 8, 4], [4, 5, 0, 6, 1, 7, 2, 8, 3]]
theorem f_turn5 (x1 x4 x5 x6 x7 x8 : Option D) : ((List.range 9).all fun s => isTurn [2, 1, 0] (zrB d_with_last d_is_zigzag (fastW 14) [some (tupI [2, 1, 0]), x1, some (rws (tab5.getD s [])), some (.int (s : Nat)), x4, x5, x6, x7, x8]) (tab5.getD (s + 1) [])) = true := by kernel_rfl
theorem f_srt8_5 : srt (fun s => tab5.getD s []) z8_5 8 = true := by decide +kernel
theorem f_good8_5 : good [2, 1, 0] z8_5 (d__law_number [tupI [2, 1, 0], .int (8 : Nat)]) = true := by decide +kernel
theorem f_srt9_5 : srt (fun s => tab5.getD s []) z9_5 9 = true := by decide +kernel
theorem f_good9_5 : good [2, 1, 0] z9_5 (d__law_number [tupI [2, 1, 0], .int (9 : Nat)]) = true := by decide +kernel
theorem turn5 : ∀ s, s < 9 → ∀ x1 x4 x5 x6 x7 x8, isTurn [2, 1, 0] (zrB d_with_last d_is_zigzag d_is_within [some (tupI [2, 1, 0]), x1, some (rws ((fun s => tab5.getD s []) s)), some (.int (s : Nat)), x4, x5, x6, x7, x8]) ((fun s => tab5.getD s []) (s + 1)) = true := fun s hs x1 x4 x5 x6 x7 x8 => by
  rw [within_fast]
  exact List.all_eq_true.mp (f_turn5 x1 x4 x5 x6 x7 x8) s (List.mem_range.mpr hs)
theorem big_of (hc : ∀ p ∈ P6, ∀ m : Nat, m ≤ 60 → ∃ v : Int, d_zigzag_three_count [tupI p, .int (m : Nat)] = .ret (.int v) ∧ d__law_number [tupI p, .int (m : Nat)] = .ret (.int v) ∧ v.natAbs < 2 ^ 512) : ∀ p ∈ P6, ∀ m : Nat, m = 8 ∨ m = 9 → ∃ xs : List D, d_zigzag_three_rows [tupI p, .int (m : Nat)] = .ret (.tuple xs) ∧ d__law_number [tupI p, .int (m : Nat)] = .ret (.int xs.length) ∧ xs.length ≤ 1000 ∧ (∀ d ∈ xs, rowOK d_is_zigzag d__law_bars p d = true) ∧ pairsOK (zipD xs (DL.cutD xs (some 1) none)) = true := fun p hp m hm => by
  have hc := hc p hp m (by omega)
  have hp2 := hp
  simp only [P6, List.mem_cons, List.not_mem_nil, or_false] at hp2
  rcases hp2 with rfl | rfl | rfl | rfl | rfl | rfl
  · rcases hm with rfl | rfl
    · exact big_gen (by omega) hp rfl turn0 f_srt8_0 f_good8_0 hc
    · exact big_gen (by omega) hp rfl turn0 f_srt9_0 f_good9_0 hc
  · rcases hm with rfl | rfl
    · exact big_gen (by omega) hp rfl turn1 f_srt8_1 f_good8_1 hc
    · exact big_gen (by omega) hp rfl turn1 f_srt9_1 f_good9_1 hc
  · rcases hm with rfl | rfl
    · exact big_gen (by omega) hp rfl turn2 f_srt8_2 f_good8_2 hc
    · exact big_gen (by omega) hp rfl turn2 f_srt9_2 f_good9_2 hc
  · rcases hm with rfl | rfl
    · exact big_gen (by omega) hp rfl turn3 f_srt8_3 f_good8_3 hc
    · exact big_gen (by omega) hp rfl turn3 f_srt9_3 f_good9_3 hc
  · rcases hm with rfl | rfl
    · exact big_gen (by omega) hp rfl turn4 f_srt8_4 f_good8_4 hc
    · exact big_gen (by omega) hp rfl turn4 f_srt9_4 f_good9_4 hc
  · rcases hm with rfl | rfl
    · exact big_gen (by omega) hp rfl turn5 f_srt8_5 f_good8_5 hc
    · exact big_gen (by omega) hp rfl turn5 f_srt9_5 f_good9_5 hc
end Lk78

set_option Elab.async false
set_option linter.all false
set_option maxRecDepth 100000
set_option maxHeartbeats 4000000
/-! the law of k78 -/
namespace Lk78
open PySem PySem.Spec PyProof.Rows L2 DL
theorem f_counts : sameM (d__law_counts [.int 60]) csD = true := by decide +kernel
theorem f_t3 (a2 a3 a4 a5 a6 a7 : Option D) : ((List.range 20).all fun n => isF (t3 (EV a2 a3 a4 a5 a6 a7 (some csD) (some (.int (1 + (n : Nat)))) none none none none none))) = true := by kernel_rfl
theorem f_cnt : (P6.all fun p => (List.range 61).all fun m => cnt p (m : Nat)) = true := by decide +kernel
theorem f_row : (d__law_row [.none, .int 3]).chk (fun d => P6.any fun p => sameD d (tupI p)) = true := by decide +kernel

theorem f_own0 : (P6.all fun p => own p 0) = true := by
  unfold own d_zigzag_three_rows
  rw [within_fast]
  decide +kernel
theorem f_own1 : (P6.all fun p => own p 1) = true := by
  unfold own d_zigzag_three_rows
  rw [within_fast]
  decide +kernel
theorem f_own2 : (P6.all fun p => own p 2) = true := by
  unfold own d_zigzag_three_rows
  rw [within_fast]
  decide +kernel
theorem f_own3 : (P6.all fun p => own p 3) = true := by
  unfold own d_zigzag_three_rows
  rw [within_fast]
  decide +kernel
theorem f_own4 : (P6.all fun p => own p 4) = true := by
  unfold own d_zigzag_three_rows
  rw [within_fast]
  decide +kernel
theorem f_own5 : (P6.all fun p => own p 5) = true := by
  unfold own d_zigzag_three_rows
  rw [within_fast]
  decide +kernel
theorem f_own6 : (P6.all fun p => own p 6) = true := by
  unfold own d_zigzag_three_rows
  rw [within_fast]
  decide +kernel
end Lk78

set_option Elab.async false
set_option linter.all false
set_option maxRecDepth 100000
set_option maxHeartbeats 4000000
/-! the law of k78 -/
namespace Lk78
open PySem PySem.Spec PyProof.Rows L2 DL
theorem all6 {f : List Int → Bool} (h : P6.all f = true) {p : List Int} (hp : p ∈ P6) : f p = true := List.all_eq_true.mp h p hp
theorem cnt_of {p : List Int} (hp : p ∈ P6) {m : Nat} (h1 : m ≤ 60) : ∃ v : Int, d_zigzag_three_count [tupI p, .int (m : Nat)] = .ret (.int v) ∧ d__law_number [tupI p, .int (m : Nat)] = .ret (.int v) ∧ v.natAbs < 2 ^ 512 := by
  have h := List.all_eq_true.mp (all6 f_cnt hp) m (List.mem_range.mpr (by omega))
  unfold cnt at h
  split at h
  · rename_i v u e1 e2
    simp only [Bool.and_eq_true, decide_eq_true_eq] at h
    obtain ⟨rfl, h⟩ := h
    exact ⟨v, e1, e2, h⟩
  · cases h
theorem own_get {p : List Int} {m : Int} (h : own p m = true) : ∃ xs : List D, d__law_zigzags [.int m, tupI p] = .ret (.list xs) ∧ d_zigzag_three_rows [tupI p, .int m] = .ret (.tuple xs) ∧ d__law_number [tupI p, .int m] = .ret (.int xs.length) ∧ reprOk (.list [.tuple xs, .tuple xs]) = true := by
  unfold own at h
  split at h
  · rename_i xs ys c e1 e2 e3
    simp only [Bool.and_eq_true, decide_eq_true_eq] at h
    obtain ⟨⟨h1, h2⟩, h3⟩ := h
    have h1 := sameL_eq _ _ h1
    subst h1 h3
    exact ⟨xs, e1, e2, e3, h2⟩
  · cases h
theorem own_cast {p : List Int} {m : Nat} {k : Int} (h : own p k = true) (e : ((m : Nat) : Int) = k) : own p (m : Nat) = true := by rw [e]; exact h
theorem own_all {p : List Int} (hp : p ∈ P6) {m : Nat} (hm : m < 7) : own p (m : Nat) = true := by
  have h : m = 0 ∨ m = 1 ∨ m = 2 ∨ m = 3 ∨ m = 4 ∨ m = 5 ∨ m = 6 := by omega
  rcases h with h | h | h | h | h | h | h
  · exact own_cast (all6 f_own0 hp) (by omega)
  · exact own_cast (all6 f_own1 hp) (by omega)
  · exact own_cast (all6 f_own2 hp) (by omega)
  · exact own_cast (all6 f_own3 hp) (by omega)
  · exact own_cast (all6 f_own4 hp) (by omega)
  · exact own_cast (all6 f_own5 hp) (by omega)
  · exact own_cast (all6 f_own6 hp) (by omega)
theorem ix_all {cs : List Int} {xs : List D} {m : Nat} (hm : m < cs.length) (h : (xs.length : Int) = cs.getD m 0) : ixD (lstI cs) (.int (m : Nat)) = .ret (.int xs.length) := by
  rw [h]
  exact ixL hm
def all0A (c : M D) (k : Int) : Bool := match c with
  | .ret (.list xs) => decide ((xs.length : Int) = k)
  | _ => false
theorem all0_abs {c : M D} {k : Int} (h : all0A c k = true) : ∃ xs : List D, c = .ret (.list xs) ∧ (xs.length : Int) = k := by
  unfold all0A at h
  split at h
  · rename_i xs
    rw [decide_eq_true_eq] at h
    exact ⟨xs, rfl, h⟩
  · cases h
def all0B (m : Nat) : Bool := all0A (d__law_zigzags [.int (m : Nat), .none]) (csI.getD m 0)
theorem f_all0B : ((List.range 6).all all0B) = true := by decide +kernel
theorem all0_cut (m : Nat) : all0B m = all0A (d__law_zigzags [.int (m : Nat), .none]) (csI.getD m 0) := by delta all0B; exact Eq.refl _
theorem all0_gen {Z : List D → M D} {cs : List Int} {m : Nat} (h : all0A (Z [.int (m : Nat), .none]) (cs.getD m 0) = true) (hl : m < cs.length) : ∃ xs : List D, Z [.int (m : Nat), .none] = .ret (.list xs) ∧ ixD (lstI cs) (.int (m : Nat)) = .ret (.int xs.length) := by
  obtain ⟨xs, e, h⟩ := all0_abs h
  exact ⟨xs, e, ix_all hl h⟩
theorem all0_get (m : Nat) (hm : m < 6) : ∃ xs : List D, d__law_zigzags [.int (m : Nat), .none] = .ret (.list xs) ∧ ixD csD (.int (m : Nat)) = .ret (.int xs.length) := by
  have h := List.all_eq_true.mp f_all0B m (List.mem_range.mpr hm)
  rw [all0_cut] at h
  have hl : m < csI.length := by rw [csI_len]; omega
  exact @all0_gen d__law_zigzags csI m h hl
theorem row_wp : (d__law_row [.none, .int 3]).wp (fun d => ∃ p ∈ P6, d = tupI p) noE := M.wp_mono (fun d hd => by
  obtain ⟨p, hp, e⟩ := List.any_eq_true.mp hd
  exact ⟨p, hp, sameD_eq d (tupI p) e⟩) (fun _ z => z) (chk_wp f_row)
theorem pick_any {PK : List D → M D} (e : PK = runR (pickG drawD) 0) (s : List Int) (h : s ≠ []) (hl : s.length ≤ 1000) : (PK [.none, lstI s]).wp (fun d => ∃ i ∈ s, d = .int i) noE := by
  rw [e]
  exact pick_gen (W := drawD) (drawD_len .none s.length (List.length_pos_iff.mpr h) (by omega)) h
theorem row_any {RW : List D → M D} (e : RW = runR rowG 2) (n : Nat) (hn : n < 12) : (RW [.none, .int (n : Nat)]).wp (fun d => ∃ r : List Int, r.Perm (DL.upTo n) ∧ d = tupI r) noE := by
  rw [e, rowG_eq]
  have h1 := row_hp (d0 := .none) hn
  have h2 := row_hw (d0 := .none) hn
  generalize gPar 2 3 (eLstRg (rg1 (eVar 1))) (eLst aNil) = P at h1 ⊢
  generalize whileN (eTest (eBin neD (eVar 2) (eLst aNil))) rowBody 12 = W at h2 ⊢
  exact row_end (row_ent _ _) h1 h2 fun r => row_fin _ _ _ r
theorem pick_eq : d__law_pick = runR (pickG drawD) 0 := rfl
theorem row_eq : d__law_row = runR rowG 2 := rfl
theorem like_wp (r : List Int) (h : r.length ≤ 100) : ∃ r' : List Int, r'.length = r.length ∧ d__law_like [tupI r] = .ret (tupI r') := ⟨likeF r, likeF_len r, like_eqT (by omega)⟩
theorem t3_ok (n : Nat) (hn : n < 20) (x2 x3 x4 x5 x6 x7 : Option D) : t3 (EV x2 x3 x4 x5 x6 x7 (some csD) (some (.int (1 + (n : Nat)))) none none none none none) = .ret false :=
  isF_eq (List.all_eq_true.mp (f_t3 x2 x3 x4 x5 x6 x7) n (List.mem_range.mpr hn))
theorem law_true (ns : List Int) (h : ns.length ≤ 63) : (d_law ns [.none]).wp (fun d => d = .bool true) noE := by
  have e := p_law_eq ns
  rw [p3_eq] at e
  rw [e]
  exact law_gen (ROW := d__law_row) (DR := d__law_draw) (PK := d__law_pick) (LK := d__law_like) (ZZ := d_is_zigzag) (CT := d__law_counts) (T := t3) (ZC := d_zigzag_count) (NU := d__law_number) (ZT := d_zigzag_three_count) (ZS := d__law_zigzags) (R := d_zigzag_three_rows) (B := d__law_bars) (CS := csD)
    (@row_any d__law_row row_eq) (fun n h0 h1 => drawD_len .none n h0 h1) (@pick_any d__law_pick pick_eq) like_wp (fun r hr => zigzag_ok hr) (sameM_eq f_counts) t3_ok (fun m hm => zcount_ok hm) row_wp (fun p hp m hm => cnt_of hp hm) (fun p hp m hm => own_get (own_all hp hm)) all0_get (big_of fun p hp m hm => cnt_of hp hm)
end Lk78

open PySem PySem.W PyProof.Rows
set_option maxRecDepth 100000 in
set_option maxHeartbeats 0 in
theorem PySem.Challenge.cw_rowswithin_k78_whole_zigzags_holds : PySem.Challenge.rw_rowswithin_k78_whole_zigzags.Holds := by
  w_on; o_law; k_head; (case hw => w_witness2)
  k_fill
  refine DL.law_walk (l := PySem.Challenge.rw_rowswithin_k78_whole_zigzags) (n := 63) (k := 19) (lawD := Lk78.d_law) rfl (by decide) rfl ⟨rfl, by decide, by decide⟩ (fun w h Y => PySem.W.kIn_of Y) ?F (fun ns h => Lk78.law_true ns h)
  case F =>
    intro w mg fa h KX G hmg
    refine' Lk78.all_mk KX G hmg ?a0 ?l0 ?c0 ?k0 ?a1 ?l1 ?c1 ?k1 ?a2 ?l2 ?c2 ?k2 ?a3 ?l3 ?c3 ?k3 ?a4 ?l4 ?c4 ?k4 ?a5 ?l5 ?c5 ?k5 ?a6 ?l6 ?c6 ?k6 ?a7 ?l7 ?c7 ?k7 ?a8 ?l8 ?c8 ?k8 ?a9 ?l9 ?c9 ?k9 ?a10 ?l10 ?c10 ?k10 ?a11 ?l11 ?c11 ?k11 ?a12 ?l12 ?c12 ?k12 ?a13 ?l13 ?c13 ?k13 ?a14 ?l14 ?c14 ?k14 ?a15 ?l15 ?c15 ?k15 ?a16 ?l16 ?c16 ?k16 ?a17 ?l17 ?c17 ?k17 ?a18 ?l18 ?c18 ?k18 ?a19 ?l19 ?c19 ?k19 ?a20 ?l20 ?c20 ?k20 ?a21 ?l21 ?c21 ?k21 ?a22 ?l22 ?c22 ?k22 ?a23 ?l23 ?c23 ?k23 ?z_abs ?z_all ?z_any ?z_enumerate ?z_int ?z_len ?z_list ?z_max ?z_min ?z_range ?z_repr ?z_sorted ?z_sum ?z_tuple ?z_zip ?g_MAX_LISTED
    (case a0 => k_is); (case l0 => k_is); (case c0 => k_is); (case k0 => k_is); (case a1 => k_is); (case l1 => k_is); (case c1 => k_is); (case k1 => k_is); (case a2 => k_is); (case l2 => k_is); (case c2 => k_is); (case k2 => k_is); (case a3 => k_is); (case l3 => k_is); (case c3 => k_is); (case k3 => k_is); (case a4 => k_is); (case l4 => k_is); (case c4 => k_is); (case k4 => k_is); (case a5 => k_is); (case l5 => k_is); (case c5 => k_is); (case k5 => k_is); (case a6 => k_is); (case l6 => k_is); (case c6 => k_is); (case k6 => k_is); (case a7 => k_is); (case l7 => k_is); (case c7 => k_is); (case k7 => k_is); (case a8 => k_is); (case l8 => k_is); (case c8 => k_is); (case k8 => k_is); (case a9 => k_is); (case l9 => k_is); (case c9 => k_is); (case k9 => k_is); (case a10 => k_is); (case l10 => k_is); (case c10 => k_is); (case k10 => k_is); (case a11 => k_is); (case l11 => k_is); (case c11 => k_is); (case k11 => k_is); (case a12 => k_is); (case l12 => k_is); (case c12 => k_is); (case k12 => k_is); (case a13 => k_is); (case l13 => k_is); (case c13 => k_is); (case k13 => k_is); (case a14 => k_is); (case l14 => k_is); (case c14 => k_is); (case k14 => k_is); (case a15 => k_is); (case l15 => k_is); (case c15 => k_is); (case k15 => k_is); (case a16 => k_is); (case l16 => k_is); (case c16 => k_is); (case k16 => k_is); (case a17 => k_is); (case l17 => k_is); (case c17 => k_is); (case k17 => k_is); (case a18 => k_is); (case l18 => k_is); (case c18 => k_is); (case k18 => k_is); (case a19 => k_is); (case l19 => k_is); (case c19 => k_is); (case k19 => k_is); (case a20 => k_is); (case l20 => k_is); (case c20 => k_is); (case k20 => k_is); (case a21 => k_is); (case l21 => k_is); (case c21 => k_is); (case k21 => k_is); (case a22 => k_is); (case l22 => k_is); (case c22 => k_is); (case k22 => k_is); (case a23 => k_is); (case l23 => k_is); (case c23 => k_is); (case k23 => k_is); (case z_abs => k_is); (case z_all => k_is); (case z_any => k_is); (case z_enumerate => k_is); (case z_int => k_is); (case z_len => k_is); (case z_list => k_is); (case z_max => k_is); (case z_min => k_is); (case z_range => k_is); (case z_repr => k_is); (case z_sorted => k_is); (case z_sum => k_is); (case z_tuple => k_is); (case z_zip => k_is); (case g_MAX_LISTED => k_is)

