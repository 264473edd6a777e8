import PyProof.Rows.All
import Wide.All
import OpenK.AllK
import Wide.FinOn
import HandS.ForMost
import HandS.ForSpec
import HandS.Wide
import HandS.IsInst
import HandS.Defaults
import HandS.MakeKwOnly
import HandS.Style
import HandS.More
import HandS.Words
import HandS.WordsExc
import HandS.Head0
import HandS.Head1
import HandS.Head2
import HandS.HeadEnd
import HandS.HeadHook1
import HandS.HeadHook2
import HandS.SortInts
import KE.KStateDown
import PySem.Challenge.RW_throughline_k39_phases
set_option Elab.async false
set_option linter.all false
set_option maxRecDepth 100000
set_option Elab.async false
set_option linter.all false
set_option maxRecDepth 100000
set_option maxHeartbeats 2000000
/-! ML: typed values over the layer: what a reading does, by a plain function of typed data. -/
namespace ML
open PySem PySem.Spec PyProof.Rows L2

/-! ### types: how a datum lies in a heap that only grows -/
structure Ty (α : Type) where
  rp : Hp → V → α → Prop
  mono : ∀ {F F' : Hp} {v : V} {x : α}, Same F F' → rp F v x → rp F' v x
def tInt : Ty Int := ⟨fun _ v x => v = .int x, fun _ h => h⟩
def tBool : Ty Bool := ⟨fun _ v x => v = .bl x, fun _ h => h⟩
def tStr : Ty Str := ⟨fun _ v x => v = .str x, fun _ h => h⟩
def tNon : Ty Unit := ⟨fun _ v _ => v = .non, fun _ h => h⟩
/-- a scalar whose kind is not told -/
def tDyn : Ty V := ⟨fun _ v x => v = x, fun _ h => h⟩
def tOpt {α : Type} (T : Ty α) : Ty (Option α) := ⟨fun F v x => match x with
  | none => v = .non
  | some y => T.rp F v y, fun {F F' v x} s h => by
    cases x with
    | none => exact h
    | some y => exact T.mono s h⟩
theorem Paired.mono {α β : Type} {f g : α → β → Prop} : ∀ {l : List α} {m : List β}, Paired f l m → (∀ a b, f a b → g a b) → Paired g l m
  | _, _, .nil, _ => .nil
  | _, _, .cons r t, h => .cons (h _ _ r) (Paired.mono t h)
/-- a tracked list -/
def tL {α : Type} (T : Ty α) : Ty (List α) := ⟨fun F v xs => ∃ a vs, v = .ref a ∧ F a = some (.lst vs) ∧ Paired (T.rp F) vs xs, fun s ⟨a, vs, e, h, p⟩ => ⟨a, vs, e, s _ _ h, Paired.mono p fun _ _ => T.mono s⟩⟩
/-- a list that is read: also the script, a constant -/
def tS {α : Type} (K : PySem.W.Frag) (T : Ty α) : Ty (List α) := ⟨fun F v xs => ∃ a vs, v = .ref a ∧ SqL K F a vs ∧ Paired (T.rp F) vs xs, fun s ⟨a, vs, e, h, p⟩ => ⟨a, vs, e, s.seq h, Paired.mono p fun _ _ => T.mono s⟩⟩
/-- a tuple of any length, one kind -/
def tU {α : Type} (T : Ty α) : Ty (List α) := ⟨fun F v xs => ∃ a vs, v = .ref a ∧ F a = some (.tup vs) ∧ Paired (T.rp F) vs xs, fun s ⟨a, vs, e, h, p⟩ => ⟨a, vs, e, s _ _ h, Paired.mono p fun _ _ => T.mono s⟩⟩
def tP {α β : Type} (T : Ty α) (U : Ty β) : Ty (α × β) := ⟨fun F v p => ∃ a x y, v = .ref a ∧ F a = some (.tup [x, y]) ∧ T.rp F x p.1 ∧ U.rp F y p.2, fun s ⟨a, x, y, e, h, p, q⟩ => ⟨a, x, y, e, s _ _ h, T.mono s p, U.mono s q⟩⟩

/-! ### slots -/
structure SP where
  ok : Hp → Hp → (Addr → Prop) → V → Prop
  mono : ∀ {F F' H H' : Hp} {o : Addr → Prop} {v : V}, ok F H o v → Same F F' → (∀ a, o a → H' a = H a) → ok F' H' o v
structure VP where
  p : Hp → V → Prop
  mono : ∀ {F F' : Hp} {v : V}, Same F F' → p F v → p F' v
def VP.sp (q : VP) : SP := ⟨fun F _ _ v => q.p F v, fun h s _ => q.mono s h⟩
def vp {α : Type} (T : Ty α) (x : α) : VP := ⟨fun F v => T.rp F v x, fun s h => T.mono s h⟩
/-- a value -/
def val {α : Type} (T : Ty α) (x : α) : SP := (vp T x).sp
/-- anything -/
def anyS : SP := ⟨fun _ _ _ _ => True, fun _ _ _ => trivial⟩
/-- a list of one's own: nothing else knows it -/
def muL {α : Type} (φ : V → Prop) (T : Ty α) (xs : List α) : SP := ⟨fun F H o v => ∃ a vs, v = .ref a ∧ φ v ∧ (∀ b, o b ↔ b = a) ∧ H a = some (.lst vs) ∧ Paired (T.rp F) vs xs,
  fun ⟨a, vs, e, f, ho, h, p⟩ s k => ⟨a, vs, e, f, ho, (k a ((ho a).mpr rfl)).trans h, Paired.mono p fun _ _ => T.mono s⟩⟩
def yes : V → Prop := fun _ => True
abbrev own {α : Type} (T : Ty α) (xs : List α) : SP := muL yes T xs

inductive Lb where
  | e (i : Nat) | s (i : Nat)
  deriving DecidableEq
abbrev Ow := Addr → Option Lb
def Ow.of (w : Ow) (l : Lb) : Addr → Prop := fun a => w a = some l
abbrev En := List (Option SP)
def StOk (F H : Hp) (w : Ow) : List SP → List V → Prop
  | [], [] => True
  | S :: st, v :: vs => S.ok F H (w.of (.s st.length)) v ∧ StOk F H w st vs
  | _, _ => False
def EnvOk (F H : Hp) (w : Ow) (env : En) (σ : L2.St) : Prop := env.length ≤ σ.length ∧ ∀ (i : Nat) (S : SP), env[i]? = some (some S) → ∃ v, σ[i]? = some (some v) ∧ S.ok F H (w.of (.e i)) v

/-- from (F0, H0) to (F, H): what F holds is held, only what P owns has changed -/
structure Ext (F0 H0 : Hp) (P : Addr → Prop) (F H : Hp) : Prop where
  f : Same F0 F
  s : Same F H
  h : ∀ b o, ¬ P b → H0 b = some o → H b = some o
  n : ∀ b, H0 b ≠ none → F b = F0 b
  t : ∀ b, H b = none → H0 b = none
theorem Ext.refl {F H : Hp} {P : Addr → Prop} (s : Same F H) : Ext F H P F H := ⟨Same.refl F, s, fun _ _ _ h => h, fun _ _ => rfl, fun _ h => h⟩
/-- the same from an entry: what P owned may have been given away -/
structure ExtE (F0 H0 : Hp) (P : Addr → Prop) (F H : Hp) : Prop where
  f : Same F0 F
  s : Same F H
  h : ∀ b o, ¬ P b → H0 b = some o → H b = some o
  n : ∀ b, ¬ P b → H0 b ≠ none → F b = F0 b
  t : ∀ b, H b = none → H0 b = none
theorem ExtE.refl {F H : Hp} {P : Addr → Prop} (s : Same F H) : ExtE F H P F H := ⟨Same.refl F, s, fun _ _ _ h => h, fun _ _ _ => rfl, fun _ h => h⟩
theorem ExtE.to {F0 H0 F H : Hp} {P : Addr → Prop} (e : ExtE F0 H0 P F H) (h : ∀ b, ¬ P b) : Ext F0 H0 P F H := ⟨e.f, e.s, e.h, fun b hb => e.n b (h b) hb, e.t⟩
theorem ExtE.to0 {F0 H0 F H : Hp} (e : ExtE F0 H0 (fun _ => False) F H) : Ext F0 H0 (fun _ => False) F H := e.to fun _ z => z
theorem Ext.toE {F0 H0 F H : Hp} {P : Addr → Prop} (e : Ext F0 H0 P F H) : ExtE F0 H0 P F H := ⟨e.f, e.s, e.h, fun b _ hb => e.n b hb, e.t⟩
theorem some_ne {α : Type} {x : Option α} {y : α} (h : x = some y) : x ≠ none := by rw [h]; intro z; cases z
theorem ne_some {α : Type} {x : Option α} (h : x ≠ none) : ∃ y, x = some y := by
  cases x with
  | none => exact absurd rfl h
  | some y => exact ⟨y, rfl⟩
theorem ExtE.tr {F0 H0 F H F' H' : Hp} {P M : Addr → Prop} (e : ExtE F0 H0 P F H) (u : ExtE F H M F' H') (hm : ∀ b, M b → H0 b = none ∨ P b) : ExtE F0 H0 P F' H' where
  f := e.f.trans u.f
  s := u.s
  h := fun b o np h0 => u.h b o (fun m => by
    rcases hm b m with z | z
    · rw [h0] at z; cases z
    · exact np z) (e.h b o np h0)
  n := fun b np h0 => by
    have hb : H b ≠ none := fun z => h0 (e.t b z)
    rw [u.n b (fun m => by
      rcases hm b m with z | z
      · exact h0 z
      · exact np z) hb, e.n b np h0]
  t := fun b hb => e.t b (u.t b hb)

/-- the entry: its heaps; what it may change -/
structure Ent where
  F : Hp
  H : Hp
  P : Addr → Prop
abbrev Ent.mk0 (F H : Hp) : Ent := ⟨F, H, fun _ => False⟩
structure GG (E : Ent) (env : En) (st : List SP) (σ : L2.St) (vs : List V) (H : Hp) (F : Hp) (w : Ow) : Prop where
  ext : ExtE E.F E.H E.P F H
  env : EnvOk F H w env σ
  st : StOk F H w st vs
  own : ∀ a l, w a = some l → F a = none ∧ H a ≠ none ∧ (E.H a = none ∨ E.P a)
def G (E : Ent) (env : En) (st : List SP) (σ : L2.St) (vs : List V) (H : Hp) : Prop := ∃ F w, GG E env st σ vs H F w

theorem StOk.len {F H : Hp} {w : Ow} : ∀ {st : List SP} {vs : List V}, StOk F H w st vs → st.length = vs.length
  | [], [], _ => rfl
  | _ :: st, _ :: vs, h => by
    have := StOk.len (st := st) (vs := vs) h.2
    simp [this]
  | [], _ :: _, h => h.elim
  | _ :: _, [], h => h.elim
theorem ofq {w w' : Ow} {l : Lb} (h : ∀ a, w' a = some l ↔ w a = some l) : w'.of l = w.of l := funext fun a => propext (h a)
/-- slots whose ownership stays, behind a step that changed M -/
theorem SP.step {S : SP} {F H F' H' : Hp} {M : Addr → Prop} {w w' : Ow} {l : Lb} {v : V} (u : Ext F H M F' H') (h : S.ok F H (w.of l) v) (hl : ∀ a, w' a = some l ↔ w a = some l) (hM : ∀ a, w a = some l → ¬ M a ∧ H a ≠ none) : S.ok F' H' (w'.of l) v := by
  rw [ofq hl]
  refine S.mono h u.f fun a ha => ?_
  obtain ⟨nm, hn⟩ := hM a ha
  obtain ⟨o, e⟩ := ne_some hn
  rw [e]
  exact u.h a o nm e
theorem StOk.step {F H F' H' : Hp} {M : Addr → Prop} {w w' : Ow} (u : Ext F H M F' H') : ∀ {st : List SP} {vs : List V}, StOk F H w st vs → (∀ i, i < st.length → ∀ a, (w' a = some (.s i) ↔ w a = some (.s i)) ∧ (w a = some (.s i) → ¬ M a ∧ H a ≠ none)) → StOk F' H' w' st vs
  | [], [], _, _ => trivial
  | S :: st, v :: vs, h, k => by
    have k0 := k st.length (by simp)
    exact ⟨SP.step u h.1 (fun a => (k0 a).1) (fun a => (k0 a).2), StOk.step u h.2 fun i hi => k i (by simp; omega)⟩
  | [], _ :: _, h, _ => h.elim
  | _ :: _, [], h, _ => h.elim
theorem EnvOk.step {F H F' H' : Hp} {M : Addr → Prop} {w w' : Ow} {env : En} {σ : L2.St} (u : Ext F H M F' H') (h : EnvOk F H w env σ) (k : ∀ (i : Nat) (S : SP), env[i]? = some (some S) → ∀ a, (w' a = some (.e i) ↔ w a = some (.e i)) ∧ (w a = some (.e i) → ¬ M a ∧ H a ≠ none)) : EnvOk F' H' w' env σ :=
  ⟨h.1, fun i S e => by
    obtain ⟨v, e1, e2⟩ := h.2 i S e
    exact ⟨v, e1, SP.step u e2 (fun a => (k i S e a).1) (fun a => (k i S e a).2)⟩⟩

/-- the one step lemma: F', H', w' behind a change of M (owned), env and st as told -/
theorem GG.step {E : Ent} {env env' : En} {st st' : List SP} {σ σ' : L2.St} {vs vs' : List V} {H F F' H' : Hp} {w w' : Ow} {M : Addr → Prop} (g : GG E env st σ vs H F w) (u : Ext F H M F' H') (hM : ∀ b, M b → ∃ l, w b = some l)
    (hw : ∀ a l, w' a = some l → (∃ l0, w a = some l0) ∨ (H a = none ∧ F' a = none ∧ H' a ≠ none)) (he : EnvOk F' H' w' env' σ') (hs : StOk F' H' w' st' vs') : GG E env' st' σ' vs' H' F' w' where
  ext := g.ext.tr u.toE fun b m => by
    obtain ⟨l, e⟩ := hM b m
    exact (g.own b l e).2.2
  env := he
  st := hs
  own := fun a l e => by
    rcases hw a l e with ⟨l0, e0⟩ | ⟨h1, h2, h3⟩
    · obtain ⟨q1, q2, q3⟩ := g.own a l0 e0
      exact ⟨(u.n a q2).trans q1, fun z => q2 (u.t a z), q3⟩
    · exact ⟨h2, h3, .inl (g.ext.t a h1)⟩
/-- no change of the heap -/
theorem GG.re {E : Ent} {env env' : En} {st st' : List SP} {σ σ' : L2.St} {vs vs' : List V} {H F : Hp} {w w' : Ow} (g : GG E env st σ vs H F w) (hw : ∀ a l, w' a = some l → ∃ l0, w a = some l0) (he : EnvOk F H w' env' σ') (hs : StOk F H w' st' vs') : GG E env' st' σ' vs' H F w' :=
  g.step (M := fun _ => False) (Ext.refl g.ext.s) (fun _ z => z.elim) (fun a l e => .inl (hw a l e)) he hs
theorem GG.pushV {E : Ent} {env : En} {st : List SP} {σ : L2.St} {vs : List V} {H F : Hp} {w : Ow} {α : Type} {T : Ty α} {x : α} {v : V} (g : GG E env st σ vs H F w) (h : T.rp F v x) : GG E env (val T x :: st) σ (v :: vs) H F w :=
  g.re (fun a l e => ⟨l, e⟩) g.env ⟨h, g.st⟩
theorem GG.pop {E : Ent} {env : En} {S : SP} {st : List SP} {σ : L2.St} {v : V} {vs : List V} {H F : Hp} {w : Ow} (g : GG E env (S :: st) σ (v :: vs) H F w) : GG E env st σ vs H F w :=
  g.re (fun a l e => ⟨l, e⟩) g.env g.st.2
theorem GG.mid {E : Ent} {env : En} {α : Type} {T : Ty α} {x : α} {st : List SP} {σ : L2.St} {v : V} {vs : List V} {H F : Hp} {w : Ow} : ∀ {st1 : List SP} {vs1 : List V}, st1.length = vs1.length → GG E env (st1 ++ val T x :: st) σ (vs1 ++ v :: vs) H F w → T.rp F v x
  | [], [], _, g => g.st.1
  | _ :: st1, _ :: vs1, e, g => GG.mid (st1 := st1) (vs1 := vs1) (by simpa using e) g.pop
  | [], _ :: _, e, _ => by simp at e
  | _ :: _, [], e, _ => by simp at e
theorem GG.top {E : Ent} {env : En} {α : Type} {T : Ty α} {x : α} {st : List SP} {σ : L2.St} {v : V} {vs : List V} {H F : Hp} {w : Ow} (g : GG E env (val T x :: st) σ (v :: vs) H F w) : T.rp F v x := g.st.1
/-- a new object that all may know: F grows by it -/
theorem Ext.newF {F H : Hp} {p : Addr} {o : HO} (s : Same F H) (hp : H p = none) : Ext F H (fun _ => False) (upd F p o) (upd H p o) where
  f := fun b u e => by
    have hb : b ≠ p := fun z => by
      rw [z] at e
      have := s p u e
      rw [hp] at this; cases this
    rw [upd_ne hb]; exact e
  s := fun b u e => by
    by_cases hb : b = p
    · subst hb; rw [upd_same] at e ⊢; exact e
    · rw [upd_ne hb] at e ⊢; exact s b u e
  h := fun b u _ e => by rw [upd_ne (ne_of_none e hp)]; exact e
  n := fun b h => upd_ne fun z => h (by rw [z]; exact hp)
  t := fun b h => by
    by_cases hb : b = p
    · rw [hb, upd_same] at h; cases h
    · rw [upd_ne hb] at h; exact h
/-- a new object of one's own -/
theorem Ext.newO {F H : Hp} {p : Addr} {o : HO} (s : Same F H) (hp : H p = none) : Ext F H (fun _ => False) F (upd H p o) where
  f := Same.refl F
  s := fun b u e => by
    have := s b u e
    rw [upd_ne (ne_of_none this hp)]; exact this
  h := fun b u _ e => by rw [upd_ne (ne_of_none e hp)]; exact e
  n := fun _ _ => rfl
  t := fun b h => by
    by_cases hb : b = p
    · rw [hb, upd_same] at h; cases h
    · rw [upd_ne hb] at h; exact h
/-- an own object changed -/
theorem Ext.chg {F H : Hp} {p : Addr} {o : HO} (s : Same F H) (hf : F p = none) : Ext F H (fun b => b = p) F (upd H p o) where
  f := Same.refl F
  s := fun b u e => by
    rw [upd_ne (ne_of_none e hf)]; exact s b u e
  h := fun b u nb e => by rw [upd_ne nb]; exact e
  n := fun _ _ => rfl
  t := fun b h => by
    by_cases hb : b = p
    · rw [hb, upd_same] at h; cases h
    · rw [upd_ne hb] at h; exact h
/-- behind a step that changed nothing that is owned: the same slots -/
theorem GG.grow {E : Ent} {env : En} {st : List SP} {σ : L2.St} {vs : List V} {H F F' H' : Hp} {w : Ow} (g : GG E env st σ vs H F w) (u : Ext F H (fun _ => False) F' H') : GG E env st σ vs H' F' w :=
  g.step u (fun _ z => z.elim) (fun a l e => .inl ⟨l, e⟩)
    (g.env.step u fun i S _ a => ⟨Iff.rfl, fun e => ⟨fun z => z, (g.own a _ e).2.1⟩⟩)
    (g.st.step u fun i _ a => ⟨Iff.rfl, fun e => ⟨fun z => z, (g.own a _ e).2.1⟩⟩)
/-- w with the label l's set made N -/
noncomputable def Ow.put (w : Ow) (l : Lb) (N : Addr → Prop) : Ow := fun a => by
  classical
  exact if N a then some l else if w a = some l then none else w a
theorem Ow.put_of {w : Ow} {l : Lb} {N : Addr → Prop} : (w.put l N).of l = N := by
  classical
  funext a
  unfold Ow.of Ow.put
  by_cases h : N a
  · simp [h]
  · by_cases h2 : w a = some l
    · simp [h, h2]
    · simp [h, h2]
theorem Ow.put_ne {w : Ow} {l k : Lb} {N : Addr → Prop} (hk : k ≠ l) (hN : ∀ a, N a → w a = none ∨ w a = some l) (a : Addr) : (w.put l N) a = some k ↔ w a = some k := by
  classical
  unfold Ow.put
  by_cases h : N a
  · simp only [h, if_true]
    constructor
    · intro e; exact absurd (Option.some.inj e).symm hk
    · intro e
      rcases hN a h with z | z
      · rw [z] at e; cases e
      · rw [z] at e; exact absurd (Option.some.inj e).symm hk
  · by_cases h2 : w a = some l
    · simp only [h, if_false, h2, if_true]
      constructor
      · intro e; cases e
      · intro e; exact absurd (Option.some.inj e).symm hk
    · simp [h, h2]
theorem Ow.put_sub {w : Ow} {l k : Lb} {N : Addr → Prop} {a : Addr} (h : (w.put l N) a = some k) : N a ∨ w a = some k := by
  classical
  unfold Ow.put at h
  by_cases hN : N a
  · exact .inl hN
  · by_cases h2 : w a = some l
    · simp [hN, h2] at h
    · simp [hN, h2] at h
      exact .inr h
/-- a new object of one's own comes to the top -/
theorem GG.pushO {E : Ent} {env : En} {st : List SP} {σ : L2.St} {vs : List V} {H F : Hp} {w : Ow} {p : Addr} {o : HO} {S : SP} (g : GG E env st σ vs H F w) (hp : H p = none) (h : S.ok F (upd H p o) (fun b => b = p) (.ref p)) :
    GG E env (S :: st) σ (.ref p :: vs) (upd H p o) F (w.put (.s st.length) fun b => b = p) := by
  have u : Ext F H (fun _ => False) F (upd H p o) := Ext.newO (o := o) g.ext.s hp
  have wp : w p = none := by
    cases e : w p with
    | none => rfl
    | some l => exact absurd hp (g.own p l e).2.1
  have hN : ∀ a, a = p → w a = none ∨ w a = some (Lb.s st.length) := fun a z => .inl (by rw [z]; exact wp)
  refine g.step u (fun _ z => z.elim) (fun a l e => ?_) ?_ ⟨?_, ?_⟩
  · rcases Ow.put_sub e with z | z
    · refine .inr ?_
      rw [z]
      refine ⟨hp, ?_, by rw [upd_same]; intro q; cases q⟩
      cases q : F p with
      | none => rfl
      | some x => have := g.ext.s p x q; rw [hp] at this; cases this
    · exact .inl ⟨l, z⟩
  · exact g.env.step u fun i S _ a => ⟨Ow.put_ne (by intro z; cases z) hN a, fun e => ⟨fun z => z, (g.own a _ e).2.1⟩⟩
  · rw [Ow.put_of]; exact h
  · exact g.st.step u fun i hi a => ⟨Ow.put_ne (by intro z; cases z; omega) hN a, fun e => ⟨fun z => z, (g.own a _ e).2.1⟩⟩
/-- the top's slot goes to the name i -/
theorem GG.store {E : Ent} {env : En} {S : SP} {st : List SP} {σ : L2.St} {v : V} {vs : List V} {H F : Hp} {w : Ow} {i : Nat} (g : GG E env (S :: st) σ (v :: vs) H F w) (hi : i < env.length) :
    ∃ w', GG E (env.set i (some S)) st (σ.set i (some v)) vs H F w' := by
  classical
  refine ⟨fun a => if w a = some (.s st.length) then some (.e i) else if w a = some (.e i) then none else w a, g.re (fun a l e => ?_) ⟨by simpa using g.env.1, fun j S' e => ?_⟩ ?_⟩
  · by_cases h : w a = some (.s st.length)
    · exact ⟨_, h⟩
    · by_cases h2 : w a = some (.e i)
      · simp [h2] at e
      · simp [h, h2] at e; exact ⟨_, e⟩
  · by_cases hj : i = j
    · subst hj
      have e1 : S = S' := by
        rw [List.getElem?_set_self hi] at e
        exact Option.some.inj (Option.some.inj e)
      subst e1
      refine ⟨v, by rw [List.getElem?_set_self (Nat.lt_of_lt_of_le hi g.env.1)], ?_⟩
      have hq := g.st.1
      have ee : Ow.of (fun a => if w a = some (.s st.length) then some (.e i) else if w a = some (.e i) then none else w a) (.e i) = w.of (.s st.length) := by
        funext a
        unfold Ow.of
        by_cases h : w a = some (.s st.length)
        · simp [h]
        · by_cases h2 : w a = some (.e i)
          · simp [h, h2]
          · simp [h, h2]
      rw [ee]
      exact hq
    · rw [List.getElem?_set_ne hj] at e
      obtain ⟨u, e1, e2⟩ := g.env.2 j S' e
      refine ⟨u, by rw [List.getElem?_set_ne hj]; exact e1, ?_⟩
      have ee : Ow.of (fun a => if w a = some (.s st.length) then some (.e i) else if w a = some (.e i) then none else w a) (.e j) = w.of (.e j) := by
        funext a
        unfold Ow.of
        by_cases h : w a = some (.s st.length)
        · simp [h]; exact fun z => hj z
        · by_cases h2 : w a = some (.e i)
          · simp [h, h2]; exact fun z => hj z
          · simp [h, h2]
      rw [ee]
      exact e2
  · refine g.st.2.step (M := fun _ => False) (Ext.refl g.ext.s) fun k hk a => ⟨?_, fun e => ⟨fun z => z, (g.own a _ e).2.1⟩⟩
    show (if w a = some (.s st.length) then some (.e i) else if w a = some (.e i) then none else w a) = some (.s k) ↔ w a = some (.s k)
    by_cases h : w a = some (.s st.length)
    · simp [h]; omega
    · by_cases h2 : w a = some (.e i)
      · simp [h, h2]
      · simp [h, h2]
/-- names may be forgotten, slots weakened -/
def Fgt (env env' : En) : Prop := env'.length ≤ env.length ∧ ∀ (i : Nat) (S : SP), env'[i]? = some (some S) → ∃ S0, env[i]? = some (some S0) ∧ ∀ F H o v, S0.ok F H o v → S.ok F H o v
theorem Fgt.refl (env : En) : Fgt env env := ⟨Nat.le_refl _, fun _ S h => ⟨S, h, fun _ _ _ _ h => h⟩⟩
theorem G.fgt {E : Ent} {env env' : En} {st : List SP} {σ : L2.St} {vs : List V} {H : Hp} (g : G E env st σ vs H) (h : Fgt env env') : G E env' st σ vs H := by
  obtain ⟨F, w, g⟩ := g
  exact ⟨F, w, g.re (fun a l e => ⟨l, e⟩) ⟨Nat.le_trans h.1 g.env.1, fun i S e => by
    obtain ⟨S0, e0, k⟩ := h.2 i S e
    obtain ⟨v, e1, e2⟩ := g.env.2 i S0 e0
    exact ⟨v, e1, k _ _ _ _ e2⟩⟩ g.st⟩
/-- the slot below the top goes -/
theorem GG.nip {E : Ent} {env : En} {S Z : SP} {st : List SP} {σ : L2.St} {v z : V} {vs : List V} {H F : Hp} {w : Ow} (g : GG E env (S :: Z :: st) σ (v :: z :: vs) H F w) : ∃ w', GG E env (S :: st) σ (v :: vs) H F w' := by
  have hq := g.st.1
  have hS : ∀ a, w a = some (.s (Z :: st).length) → a = a := fun _ _ => rfl
  classical
  refine ⟨fun a => if w a = some (.s (st.length + 1)) then some (.s st.length) else if w a = some (.s st.length) then none else w a, g.re (fun a l e => ?_) (g.env.step (M := fun _ => False) (Ext.refl g.ext.s) fun i S' _ a => ⟨?_, fun e => ⟨fun z => z, (g.own a _ e).2.1⟩⟩) ⟨?_, g.st.2.2.step (M := fun _ => False) (Ext.refl g.ext.s) fun k hk a => ⟨?_, fun e => ⟨fun z => z, (g.own a _ e).2.1⟩⟩⟩⟩
  · by_cases h : w a = some (.s (st.length + 1))
    · exact ⟨_, h⟩
    · by_cases h2 : w a = some (.s st.length)
      · simp [h2] at e
      · simp [h, h2] at e; exact ⟨_, e⟩
  · show (if w a = some (.s (st.length + 1)) then some (.s st.length) else if w a = some (.s st.length) then none else w a) = some (.e i) ↔ w a = some (.e i)
    by_cases h : w a = some (.s (st.length + 1))
    · simp [h]
    · by_cases h2 : w a = some (.s st.length)
      · simp [h, h2]
      · simp [h, h2]
  · have ee : Ow.of (fun a => if w a = some (.s (st.length + 1)) then some (.s st.length) else if w a = some (.s st.length) then none else w a) (.s st.length) = w.of (.s (st.length + 1)) := by
      funext a
      unfold Ow.of
      by_cases h : w a = some (.s (st.length + 1))
      · simp [h]
      · by_cases h2 : w a = some (.s st.length)
        · simp [h, h2]
        · simp [h, h2]
    rw [ee]
    simpa using hq
  · show (if w a = some (.s (st.length + 1)) then some (.s st.length) else if w a = some (.s st.length) then none else w a) = some (.s k) ↔ w a = some (.s k)
    by_cases h : w a = some (.s (st.length + 1))
    · simp [h]; omega
    · by_cases h2 : w a = some (.s st.length)
      · simp [h, h2]; omega
      · simp [h, h2]
/-! ### what is owned becomes a value that all may know -/
def Fz (S : SP) (q : VP) : Prop := ∀ (F H : Hp) (o : Addr → Prop) (v : V), S.ok F H o v → (∀ a, o a → F a = none) → ∀ F', Same F F' → (∀ a, o a → F' a = H a) → q.p F' v
theorem fz_v {q : VP} : Fz q.sp q := fun F H o v h _ F' s _ => q.mono s h
theorem fz_val {α : Type} {T : Ty α} {x : α} : Fz (val T x) (vp T x) := fz_v
theorem fz_mu {α : Type} {φ : V → Prop} {T : Ty α} {xs : List α} : Fz (muL φ T xs) (vp (tL T) xs) := fun F H o v ⟨a, us, e, f, ho, h, p⟩ _ F' s k => ⟨a, us, e, (k a ((ho a).mpr rfl)).trans h, Paired.mono p fun _ _ => T.mono s⟩
/-- what l owns goes to F -/
theorem GG.frzL {E : Ent} {env : En} {st : List SP} {σ : L2.St} {vs : List V} {H F : Hp} {w : Ow} (g : GG E env st σ vs H F w) (l : Lb) : ∃ (F' : Hp) (w' : Ow), Same F F' ∧ (∀ a, w a = some l → F' a = H a) ∧ (∀ k, k ≠ l → w'.of k = w.of k) ∧ ExtE E.F E.H E.P F' H ∧ (∀ a k, w' a = some k → F' a = none ∧ H a ≠ none ∧ (E.H a = none ∨ E.P a)) := by
  classical
  have sF : Same F (fun a => if w a = some l then H a else F a) := fun b o e => by
    have hb : ¬ w b = some l := fun z => by
      rw [(g.own b l z).1] at e; cases e
    show (if w b = some l then H b else F b) = some o
    rw [if_neg hb]; exact e
  have sH : Same (fun a => if w a = some l then H a else F a) H := fun b o e => by
    have e' : (if w b = some l then H b else F b) = some o := e
    by_cases hb : w b = some l
    · rw [if_pos hb] at e'; exact e'
    · rw [if_neg hb] at e'; exact g.ext.s b o e'
  refine ⟨fun a => if w a = some l then H a else F a, w.put l (fun _ => False), sF, fun a h => if_pos h, fun k hk => ofq (Ow.put_ne (N := fun _ => False) hk (fun _ z => False.elim z)), ⟨g.ext.f.trans sF, sH, g.ext.h, fun b nb hb => ?_, g.ext.t⟩, fun b k e => ?_⟩
  · have hl : ¬ w b = some l := fun z => by
      rcases (g.own b l z).2.2 with y | y
      · exact hb y
      · exact nb y
    show (if w b = some l then H b else F b) = E.F b
    rw [if_neg hl]
    exact g.ext.n b nb hb
  · have hl : ¬ w b = some l := fun z => by
      have : (w.put l fun _ => False) b = none := by
        unfold Ow.put
        simp [z]
      rw [this] at e; cases e
    rcases Ow.put_sub e with z | z
    · exact z.elim
    · obtain ⟨r1, r2, r3⟩ := g.own b k z
      exact ⟨by show (if w b = some l then H b else F b) = none; rw [if_neg hl]; exact r1, r2, r3⟩
theorem StOk.reF {F F' H : Hp} {w w' : Ow} (s : Same F F') : ∀ {st : List SP} {vs : List V}, StOk F H w st vs → (∀ i, i < st.length → w'.of (.s i) = w.of (.s i)) → StOk F' H w' st vs
  | [], [], _, _ => trivial
  | S :: st, v :: vs, h, k => ⟨by rw [k st.length (by simp)]; exact S.mono h.1 s fun _ _ => rfl, StOk.reF s h.2 fun i hi => k i (by simp; omega)⟩
  | [], _ :: _, h, _ => h.elim
  | _ :: _, [], h, _ => h.elim
theorem GG.freezeS {E : Ent} {env : En} {S : SP} {q : VP} {st : List SP} {σ : L2.St} {v : V} {vs : List V} {H F : Hp} {w : Ow} (g : GG E env (S :: st) σ (v :: vs) H F w) (z : Fz S q) :
    ∃ F' w', GG E env (q.sp :: st) σ (v :: vs) H F' w' := by
  obtain ⟨F', w', s, hl, hk, e, o⟩ := g.frzL (.s st.length)
  refine ⟨F', w', e, ⟨g.env.1, fun i S' h => ?_⟩, ⟨z F H _ v g.st.1 (fun a ha => (g.own a _ ha).1) F' s hl, g.st.2.reF s fun i hi => hk _ (by intro y; injection y with y; omega)⟩, o⟩
  obtain ⟨u, e1, e2⟩ := g.env.2 i S' h
  refine ⟨u, e1, ?_⟩
  rw [hk _ (by intro y; cases y)]
  exact S'.mono e2 s fun _ _ => rfl
theorem GG.frzE {E : Ent} {env : En} {S : SP} {q : VP} {i : Nat} {st : List SP} {σ : L2.St} {vs : List V} {H F : Hp} {w : Ow} (g : GG E env st σ vs H F w) (h : env[i]? = some (some S)) (z : Fz S q) : ∃ F' w', GG E (env.set i (some q.sp)) st σ vs H F' w' := by
  obtain ⟨F', w', s, hl, hk, e, o⟩ := g.frzL (.e i)
  have hi : i < env.length := (List.getElem?_eq_some_iff.mp h).1
  refine ⟨F', w', e, ⟨by simpa using g.env.1, fun j S' h' => ?_⟩, g.st.reF s fun k hk' => hk _ (by intro y; cases y), o⟩
  by_cases hj : i = j
  · subst hj
    rw [List.getElem?_set_self hi] at h'
    cases h'
    obtain ⟨u, e1, e2⟩ := g.env.2 i S h
    exact ⟨u, e1, z F H _ u e2 (fun a ha => (g.own a _ ha).1) F' s hl⟩
  · rw [List.getElem?_set_ne hj] at h'
    obtain ⟨u, e1, e2⟩ := g.env.2 j S' h'
    refine ⟨u, e1, ?_⟩
    rw [hk _ (by intro y; injection y with y; exact hj y.symm)]
    exact S'.mono e2 s fun _ _ => rfl
/-- the top's own list becomes a value -/
theorem GG.freeze {E : Ent} {env : En} {α : Type} {φ : V → Prop} {T : Ty α} {xs : List α} {st : List SP} {σ : L2.St} {v : V} {vs : List V} {H F : Hp} {w : Ow} (g : GG E env (muL φ T xs :: st) σ (v :: vs) H F w) :
    ∃ F' w', GG E env (val (tL T) xs :: st) σ (v :: vs) H F' w' := g.freezeS fz_mu
end ML

set_option Elab.async false
set_option linter.all false
set_option maxRecDepth 100000
set_option maxHeartbeats 2000000
namespace ML
open PySem PySem.Spec PyProof.Rows L2

/-! ### judgements -/
/-- an expression: m its value, if some; S its slot; env' the names behind it -/
def EX {α : Type} (E : Ent) (env : En) (te : TE) (m : Option α) (S : α → SP) (env' : α → En) : Prop :=
  ∀ (st : List SP) (vs : List V) (σ : L2.St) (H : Hp) (Q : VK) (x : α), G E env st σ vs H → m = some x → (∀ v H', G E (env' x) (S x :: st) σ (v :: vs) H' → Q v H') → te σ H Q
abbrev EV {α : Type} (E : Ent) (env : En) (te : TE) (m : Option α) (S : α → SP) : Prop := EX E env te m S fun _ => env
/-- a test -/
def TX (E : Ent) (env : En) (tt : TT) (m : Option Bool) : Prop :=
  ∀ (st : List SP) (vs : List V) (σ : L2.St) (H : Hp) (Q : Bool → Hp → Prop) (b : Bool), G E env st σ vs H → m = some b → (∀ H', G E env st σ vs H' → Q b H') → tt σ H Q
/-- an argument list: acc what has come; Pc what is told of all -/
def AX {γ : Type} (E : Ent) (env : En) (ta : TA) (acc : List SP) (m : Option γ) (Pc : γ → List SP → Prop) : Prop :=
  ∀ (st : List SP) (vs us0 : List V) (σ : L2.St) (H : Hp) (Q : List V → Hp → Prop) (c : γ), G E env (acc ++ st) σ (us0 ++ vs) H → us0.length = acc.length → m = some c → (∀ us H' Ss, Pc c Ss → Ss.length = (us0 ++ us).length → G E env (Ss ++ st) σ (us.reverse ++ us0 ++ vs) H' → Q us H') → ta σ H Q
/-- one value to one; two to one -/
def O1 {γ : Type} (r : V → Hp → VK → Prop) (Sa : SP) (m : Option γ) (S : γ → SP) : Prop :=
  ∀ (E : Ent) (env : En) (st : List SP) (σ : L2.St) (vs : List V) (H : Hp) (Q : VK) (va : V) (c : γ), G E env (Sa :: st) σ (va :: vs) H → m = some c → (∀ v H', G E env (S c :: st) σ (v :: vs) H' → Q v H') → r va H Q
def O2 {γ : Type} (r : R2) (Sa Sb : SP) (m : Option γ) (S : γ → SP) : Prop :=
  ∀ (E : Ent) (env : En) (st : List SP) (σ : L2.St) (vs : List V) (H : Hp) (Q : VK) (va vb : V) (c : γ), G E env (Sb :: Sa :: st) σ (vb :: va :: vs) H → m = some c → (∀ v H', G E env (S c :: st) σ (v :: vs) H' → Q v H') → r va vb H Q

section
variable {α β γ δ : Type} {E : Ent} {env : En} {te ta tb tc : TE} {tt tu : TT}
theorem G.popV {S : SP} {st : List SP} {σ : L2.St} {v : V} {vs : List V} {H : Hp} (g : G E env (S :: st) σ (v :: vs) H) : G E env st σ vs H := by
  obtain ⟨F, w, g⟩ := g
  exact ⟨F, w, g.pop⟩

/-! ### expressions -/
theorem ev_var {i : Nat} {T : Ty α} {x : α} (h : env[i]? = some (some (val T x))) : EV E env (tVar i) (some x) (val T) := by
  intro st vs σ H Q y g hm hq
  cases hm
  obtain ⟨F, w, g⟩ := g
  obtain ⟨v, e1, e2⟩ := g.env.2 i _ h
  exact ⟨v, e1, hq v H ⟨F, w, g.pushV e2⟩⟩
theorem ev_c {T : Ty α} {x : α} {v : V} (h : ∀ F, T.rp F v x) : EV E env (tC v) (some x) (val T) := by
  intro st vs σ H Q y g hm hq
  cases hm
  obtain ⟨F, w, g⟩ := g
  exact hq v H ⟨F, w, g.pushV (h F)⟩
theorem ev_int {i : Int} : EV E env (tC (.int i)) (some i) (val tInt) := ev_c fun _ => rfl
theorem ev_bl {i : Bool} : EV E env (tC (.bl i)) (some i) (val tBool) := ev_c fun _ => rfl
theorem ev_str {i : Str} : EV E env (tC (.str i)) (some i) (val tStr) := ev_c fun _ => rfl
theorem ev_non : EV E env (tC .non) (some ()) (val tNon) := ev_c fun _ => rfl
theorem ev_none {T : Ty α} : EV E env (tC .non) (some (none : Option α)) (val (tOpt T)) := ev_c fun _ => rfl
theorem ev_op {r : R2} {ma : Option α} {mb : α → Option β} {mc : α → β → Option γ} {Sa : α → SP} {Sb : β → SP} {S : γ → SP} (ha : EV E env ta ma Sa) (hb : ∀ a, EV E env tb (mb a) Sb) (hr : ∀ a b, O2 r (Sa a) (Sb b) (mc a b) S) :
    EV E env (tOp r ta tb) (ma.bind fun a => (mb a).bind fun b => mc a b) S := by
  intro st vs σ H Q c g hm hq
  obtain ⟨a, ea, hm⟩ := Option.bind_eq_some_iff.mp hm
  obtain ⟨b, eb, hm⟩ := Option.bind_eq_some_iff.mp hm
  exact ha st vs σ H _ a g ea fun va H1 g1 => hb a _ _ σ H1 _ b g1 eb fun vb H2 g2 => hr a b E env st σ vs H2 Q va vb c g2 hm hq
theorem ev_un {r : V → Hp → VK → Prop} {ma : Option α} {mc : α → Option γ} {Sa : α → SP} {S : γ → SP} (ha : EV E env ta ma Sa) (hr : ∀ a, O1 r (Sa a) (mc a) S) : EV E env (tUn r ta) (ma.bind mc) S := by
  intro st vs σ H Q c g hm hq
  obtain ⟨a, ea, hm⟩ := Option.bind_eq_some_iff.mp hm
  exact ha st vs σ H _ a g ea fun va H1 g1 => hr a E env st σ vs H1 Q va c g1 hm hq
/-- f(e), f(e, e'), f a built-in -/
theorem ev_cb1 {r : List V → Hp → VK → Prop} {ma : Option α} {mc : α → Option γ} {Sa : α → SP} {S : γ → SP} (ha : EV E env ta ma Sa) (hr : ∀ a, O1 (fun v H Q => r [v] H Q) (Sa a) (mc a) S) : EV E env (tCB r (tCons ta tNil)) (ma.bind mc) S := by
  intro st vs σ H Q c g hm hq
  obtain ⟨a, ea, hm⟩ := Option.bind_eq_some_iff.mp hm
  exact ha st vs σ H _ a g ea fun va H1 g1 => hr a E env st σ vs H1 Q va c g1 hm hq
theorem ev_cb2 {r : List V → Hp → VK → Prop} {ma : Option α} {mb : α → Option β} {mc : α → β → Option γ} {Sa : α → SP} {Sb : β → SP} {S : γ → SP} (ha : EV E env ta ma Sa) (hb : ∀ a, EV E env tb (mb a) Sb) (hr : ∀ a b, O2 (fun v u H Q => r [v, u] H Q) (Sa a) (Sb b) (mc a b) S) :
    EV E env (tCB r (tCons ta (tCons tb tNil))) (ma.bind fun a => (mb a).bind fun b => mc a b) S := by
  intro st vs σ H Q c g hm hq
  obtain ⟨a, ea, hm⟩ := Option.bind_eq_some_iff.mp hm
  obtain ⟨b, eb, hm⟩ := Option.bind_eq_some_iff.mp hm
  exact ha st vs σ H _ a g ea fun va H1 g1 => hb a _ _ σ H1 _ b g1 eb fun vb H2 g2 => hr a b E env st σ vs H2 Q va vb c g2 hm hq
/-- a new list of one's own becomes a value -/
theorem ev_frz {T : Ty α} {φ : V → Prop} {m : Option (List α)} (h : EV E env te m (muL φ T)) : EV E env te m (val (tL T)) := by
  intro st vs σ H Q x g hm hq
  refine h st vs σ H Q x g hm fun v H' ⟨F, w, g'⟩ => ?_
  obtain ⟨F', w', g2⟩ := g'.freeze
  exact hq v H' ⟨F', w', g2⟩
/-- another view of the same slot -/
theorem ev_as {m : Option α} {f : α → β} {S : α → SP} {S' : β → SP} (h : EV E env te m S) (k : ∀ x F H o v, (S x).ok F H o v → (S' (f x)).ok F H o v) : EV E env te (m.map f) S' := by
  intro st vs σ H Q y g hm hq
  obtain ⟨x, ex, rfl⟩ := Option.map_eq_some_iff.mp hm
  refine h st vs σ H Q x g ex fun v H' ⟨F, w, g'⟩ => hq v H' ⟨F, w, g'.re (fun a l e => ⟨l, e⟩) g'.env ⟨k x _ _ _ _ g'.st.1, g'.st.2⟩⟩
theorem ev_to {m : Option α} {S S' : α → SP} (h : EV E env te m S) (k : ∀ x F H o v, (S x).ok F H o v → (S' x).ok F H o v) : EV E env te m S' := by
  intro st vs σ H Q x g hm hq
  refine h st vs σ H Q x g hm fun v H' ⟨F, w, g'⟩ => hq v H' ⟨F, w, g'.re (fun a l e => ⟨l, e⟩) g'.env ⟨k x _ _ _ _ g'.st.1, g'.st.2⟩⟩
/-- t ? a : b -/
theorem ev_if {mt : Option Bool} {ma mb : Option γ} {S : γ → SP} (ht : TX E env tt mt) (ha : EV E env ta ma S) (hb : EV E env tb mb S) : EV E env (tIf tt ta tb) (mt.bind fun b => if b = true then ma else mb) S := by
  intro st vs σ H Q c g hm hq
  obtain ⟨b, eb, hm⟩ := Option.bind_eq_some_iff.mp hm
  refine ht st vs σ H _ b g eb fun H1 g1 => ?_
  cases b with
  | true => exact ha st vs σ H1 Q c g1 hm hq
  | false => exact hb st vs σ H1 Q c g1 hm hq
/-- and, or, not as values -/
theorem ev_and {ma mb : Option Bool} (ha : EV E env ta ma (val tBool)) (hb : EV E env tb mb (val tBool)) : EV E env (tAndV ta tb) (ma.bind fun b => if b = true then mb else some false) (val tBool) := by
  intro st vs σ H Q c g hm hq
  obtain ⟨b, eb, hm⟩ := Option.bind_eq_some_iff.mp hm
  refine ha st vs σ H _ b g eb fun v H1 ⟨F, w, g1⟩ => ⟨b, g1.top, ?_⟩
  cases b with
  | true => exact hb st vs σ H1 Q c ⟨F, w, g1.pop⟩ hm hq
  | false =>
    cases hm
    exact hq _ _ ⟨F, w, g1.pop.pushV rfl⟩
theorem ev_or {ma mb : Option Bool} (ha : EV E env ta ma (val tBool)) (hb : EV E env tb mb (val tBool)) : EV E env (tOrV ta tb) (ma.bind fun b => if b = true then some true else mb) (val tBool) := by
  intro st vs σ H Q c g hm hq
  obtain ⟨b, eb, hm⟩ := Option.bind_eq_some_iff.mp hm
  refine ha st vs σ H _ b g eb fun v H1 ⟨F, w, g1⟩ => ⟨b, g1.top, ?_⟩
  cases b with
  | true =>
    cases hm
    exact hq _ _ ⟨F, w, g1.pop.pushV rfl⟩
  | false => exact hb st vs σ H1 Q c ⟨F, w, g1.pop⟩ hm hq
theorem ev_not {ma : Option Bool} (ha : EV E env ta ma (val tBool)) : EV E env (tNotV ta) (ma.bind fun b => some (!b)) (val tBool) := by
  intro st vs σ H Q c g hm hq
  obtain ⟨b, eb, hm⟩ := Option.bind_eq_some_iff.mp hm
  cases hm
  exact ha st vs σ H _ b g eb fun v H1 ⟨F, w, g1⟩ => ⟨b, g1.top, hq _ _ ⟨F, w, g1.pop.pushV rfl⟩⟩
/-! ### tests -/
theorem tx_e {m : Option Bool} (h : EV E env te m (val tBool)) : TX E env (tTest te) m := by
  intro st vs σ H Q b g hm hq
  exact h st vs σ H _ b g hm fun v H1 ⟨F, w, g1⟩ => ⟨b, g1.top, hq H1 ⟨F, w, g1.pop⟩⟩
theorem tx_b {m : Option Bool} (h : EV E env te m (val tBool)) : TX E env (tB te) m := by
  intro st vs σ H Q b g hm hq
  exact h st vs σ H _ b g hm fun v H1 ⟨F, w, g1⟩ => ⟨b, g1.top, hq H1 ⟨F, w, g1.pop⟩⟩
theorem tx_and {ma mb : Option Bool} (ha : TX E env tt ma) (hb : TX E env tu mb) : TX E env (tAnd tt tu) (ma.bind fun b => if b = true then mb else some false) := by
  intro st vs σ H Q c g hm hq
  obtain ⟨b, eb, hm⟩ := Option.bind_eq_some_iff.mp hm
  refine ha st vs σ H _ b g eb fun H1 g1 => ?_
  cases b with
  | true => exact hb st vs σ H1 Q c g1 hm hq
  | false => cases hm; exact hq _ g1
theorem tx_or {ma mb : Option Bool} (ha : TX E env tt ma) (hb : TX E env tu mb) : TX E env (tOr tt tu) (ma.bind fun b => if b = true then some true else mb) := by
  intro st vs σ H Q c g hm hq
  obtain ⟨b, eb, hm⟩ := Option.bind_eq_some_iff.mp hm
  refine ha st vs σ H _ b g eb fun H1 g1 => ?_
  cases b with
  | true => cases hm; exact hq _ g1
  | false => exact hb st vs σ H1 Q c g1 hm hq
theorem tx_not {ma : Option Bool} (ha : TX E env tt ma) : TX E env (tNot tt) (ma.bind fun b => some (!b)) := by
  intro st vs σ H Q c g hm hq
  obtain ⟨b, eb, hm⟩ := Option.bind_eq_some_iff.mp hm
  cases hm
  exact ha st vs σ H _ b g eb fun H1 g1 => hq H1 g1
/-- a op b op' c -/
theorem ev_chain {r r' : R2} {ma : Option α} {mb : Option β} {mc : Option γ} {m1 : α → β → Option Bool} {m2 : β → γ → Option Bool} {T : Ty α} {U : Ty β} {W : Ty γ} (ha : EV E env ta ma (val T)) (hb : EV E env tb mb (val U)) (hc : EV E env tc mc (val W))
    (h1 : ∀ a b, O2 r (val T a) (val U b) (m1 a b) (val tBool)) (h2 : ∀ b c, O2 r' (val U b) (val W c) (m2 b c) (val tBool)) :
    EV E env (tChain r r' ta tb tc) (ma.bind fun a => mb.bind fun b => (m1 a b).bind fun k => if k = true then mc.bind fun c => m2 b c else some false) (val tBool) := by
  intro st vs σ H Q c g hm hq
  obtain ⟨a, ea, hm⟩ := Option.bind_eq_some_iff.mp hm
  obtain ⟨b, eb, hm⟩ := Option.bind_eq_some_iff.mp hm
  obtain ⟨k, ek, hm⟩ := Option.bind_eq_some_iff.mp hm
  refine ha st vs σ H _ a g ea fun va H1 g1 => hb _ _ σ H1 _ b g1 eb fun vb H2 g2 => ?_
  obtain ⟨F2, w2, g2⟩ := g2
  have gb : U.rp F2 vb b := g2.top
  -- keep b's value below
  have g2' : GG E env (val U b :: val T a :: val U b :: st) σ (vb :: va :: vb :: vs) H2 F2 w2 := g2.re (fun a l e => ⟨l, e⟩) g2.env ⟨g2.st.1, g2.st.2.1, gb, g2.st.2.2⟩
  refine h1 a b E env _ σ _ H2 _ va vb k ⟨F2, w2, g2'⟩ ek fun v H3 ⟨F3, w3, g3⟩ => ⟨k, g3.top, ?_⟩
  cases k with
  | true =>
    rw [if_pos rfl]
    obtain ⟨z, ez, hm⟩ := Option.bind_eq_some_iff.mp hm
    exact hc _ _ σ H3 _ z ⟨F3, w3, g3.pop⟩ ez fun vc H4 g4 => h2 b z E env st σ vs H4 Q vb vc c g4 hm hq
  | false =>
    rw [if_neg Bool.false_ne_true] at hm ⊢
    cases hm
    exact hq _ _ ⟨F3, w3, g3.pop.pop.pushV rfl⟩
theorem tx_chain {r r' : R2} {m : Option Bool} (h : EV E env (tChain r r' ta tb tc) m (val tBool)) : TX E env (tTest (tChain r r' ta tb tc)) m := tx_e h
/-! ### arguments -/
theorem ax_nil {acc : List SP} {m : Option γ} {Pc : γ → List SP → Prop} (h : ∀ c, m = some c → Pc c acc) : AX E env tNil acc m Pc := by
  intro st vs us0 σ H Q c g hl hm hq
  exact hq [] H acc (h c hm) (by simp [hl]) g
theorem ax_cons {tr : TA} {acc : List SP} {m1 : Option α} {m2 : α → Option γ} {S : α → SP} {Pc : γ → List SP → Prop} (h1 : EV E env te m1 S) (h2 : ∀ a, AX E env tr (S a :: acc) (m2 a) Pc) : AX E env (tCons te tr) acc (m1.bind m2) Pc := by
  intro st vs us0 σ H Q c g hl hm hq
  obtain ⟨a, ea, hm⟩ := Option.bind_eq_some_iff.mp hm
  refine h1 _ _ σ H _ a g ea fun v H1 g1 => h2 a st vs (v :: us0) σ H1 _ c g1 (by simp [hl]) hm fun us H' Ss hp hz g2 => hq (v :: us) H' Ss hp (by simp at hz ⊢; omega) (by simpa using g2)
/-- a display [..] of values: a new list of one's own -/
theorem vals_of {T : Ty α} {F H : Hp} {w : Ow} : ∀ {st : List SP} {vs : List V} {xs : List α} {us : List V}, StOk F H w ((xs.map (val T)) ++ st) (us ++ vs) → us.length = xs.length → Paired (T.rp F) us xs ∧ StOk F H w st vs
  | _, _, [], [], h, _ => ⟨.nil, h⟩
  | _, _, x :: xs, u :: us, h, e => by
    obtain ⟨p, q⟩ := vals_of (xs := xs) (us := us) h.2 (by simpa using e)
    exact ⟨.cons h.1 p, q⟩
  | _, _, [], _ :: _, _, e => by simp at e
  | _, _, _ :: _, [], _, e => by simp at e
theorem Paired.rev {α β : Type} {f : α → β → Prop} : ∀ {l : List α} {m : List β}, Paired f l m → Paired f l.reverse m.reverse
  | _, _, .nil => .nil
  | _, _, .cons r t => by
    rw [List.reverse_cons, List.reverse_cons]
    exact Paired.snoc (Paired.rev t) r
theorem ev_lst {T : Ty α} {t : TA} {m : Option (List α)} (h : AX E env t [] m fun c Ss => Ss = (c.map (val T)).reverse ∧ c.length ≤ 1000) : EV E env (tLst t) m (own T) := by
  intro st vs σ H Q c g hm hq
  refine h st vs [] σ H _ c g rfl hm fun us H' Ss ⟨hs, hc⟩ hl ⟨F, w, g'⟩ => ?_
  subst hs
  rw [← List.map_reverse] at g'
  have hlen : us.length = c.length := by simpa using hl.symm
  obtain ⟨p, q⟩ := vals_of (xs := c.reverse) (us := us.reverse) (by simpa using g'.st) (by simp [hlen])
  have p2 : Paired (T.rp F) us c := by simpa using Paired.rev p
  refine ⟨Nat.le_of_lt (small1000 (by omega)), fun a ha => hq _ _ ⟨F, _, (g'.re (fun a l e => ⟨l, e⟩) g'.env q : GG E env st σ vs H' F w).pushO ha ⟨a, us, rfl, trivial, fun b => Iff.rfl, upd_same, p2⟩⟩⟩
/-- a pair (a, b) -/
theorem ev_pair {T : Ty α} {U : Ty β} {ma : Option α} {mb : α → Option β} (ha : EV E env ta ma (val T)) (hb : ∀ a, EV E env tb (mb a) (val U)) : EV E env (tTup (tCons ta (tCons tb tNil))) (ma.bind fun a => (mb a).bind fun b => some (a, b)) (val (tP T U)) := by
  intro st vs σ H Q c g hm hq
  obtain ⟨a, ea, hm⟩ := Option.bind_eq_some_iff.mp hm
  obtain ⟨b, eb, hm⟩ := Option.bind_eq_some_iff.mp hm
  cases hm
  refine ha st vs σ H _ a g ea fun va H1 g1 => hb a _ _ σ H1 _ b g1 eb fun vb H2 ⟨F, w, g2⟩ => ⟨by show 2 ≤ sizeLine; decide, fun p hp => ?_⟩
  have u := Ext.newF (F := F) (o := .tup [va, vb]) g2.ext.s hp
  exact hq _ _ ⟨_, w, (g2.pop.pop.grow u).pushV ⟨p, va, vb, rfl, upd_same, T.mono u.f g2.st.2.1, U.mono u.f g2.st.1⟩⟩
/-! ### the operators -/
/-- nothing is made -/
theorem o2_mk {r : R2} {T : Ty α} {U : Ty β} {W : Ty γ} {a : α} {b : β} {m : Option γ} (hr : ∀ c, m = some c → ∀ (F H : Hp) (Q : VK) (va vb : V), Same F H → T.rp F va a → U.rp F vb b → (∀ v, W.rp F v c → Q v H) → r va vb H Q) : O2 r (val T a) (val U b) m (val W) := by
  intro E env st σ vs H Q va vb c ⟨F, w, g⟩ hm hq
  exact hr c hm F H Q va vb g.ext.s g.st.2.1 g.st.1 fun v hv => hq v H ⟨F, w, g.pop.pop.pushV hv⟩
theorem o1_mk {r : V → Hp → VK → Prop} {T : Ty α} {W : Ty γ} {a : α} {m : Option γ} (hr : ∀ c, m = some c → ∀ (F H : Hp) (Q : VK) (va : V), Same F H → T.rp F va a → (∀ v, W.rp F v c → Q v H) → r va H Q) : O1 r (val T a) m (val W) := by
  intro E env st σ vs H Q va c ⟨F, w, g⟩ hm hq
  exact hr c hm F H Q va g.ext.s g.st.1 fun v hv => hq v H ⟨F, w, g.pop.pushV hv⟩
theorem o2_int {C : Int → Int → Prop} {f : Int → Int → Int} {a b : Int} (hc : C a b) : O2 (rI C fun i j => .int (f i j)) (val tInt a) (val tInt b) (some (f a b)) (val tInt) := o2_mk fun c hm F H Q va vb s ha hb hq => by
  cases hm
  exact ⟨a, b, ha, hb, hc, hq _ rfl⟩
theorem o2_int0 {f : Int → Int → Int} {a b : Int} : O2 (rI0 fun i j => .int (f i j)) (val tInt a) (val tInt b) (some (f a b)) (val tInt) := o2_mk fun c hm F H Q va vb s ha hb hq => by
  cases hm
  exact ⟨a, b, ha, hb, hq _ rfl⟩
theorem o2_cmp {f : Int → Int → Bool} {a b : Int} : O2 (rI0 fun i j => .bl (f i j)) (val tInt a) (val tInt b) (some (f a b)) (val tBool) := o2_mk fun c hm F H Q va vb s ha hb hq => by
  cases hm
  exact ⟨a, b, ha, hb, hq _ rfl⟩
/-- guards -/
def grd (p : Prop) [Decidable p] {γ : Type} (k : Option γ) : Option γ := if p then k else none
theorem grd_some {p : Prop} [Decidable p] {k : Option γ} {c : γ} (h : grd p k = some c) : p ∧ k = some c := by
  unfold grd at h
  split at h
  · exact ⟨‹_›, h⟩
  · cases h
theorem grd_pos {p : Prop} [Decidable p] {k : Option γ} (h : p) : grd p k = k := if_pos h
theorem o2_intG {C : Int → Int → Prop} {f : Int → Int → Int} {p : Int → Int → Prop} [∀ i j, Decidable (p i j)] {a b : Int} (hp : ∀ i j, p i j → C i j) : O2 (rI C fun i j => .int (f i j)) (val tInt a) (val tInt b) (grd (p a b) (some (f a b))) (val tInt) := o2_mk fun c hm F H Q va vb s ha hb hq => by
  obtain ⟨q, hm⟩ := grd_some hm
  cases hm
  exact ⟨a, b, ha, hb, hp _ _ q, hq _ rfl⟩
theorem o2_mulW {a b : Int} : O2 (rI CMulW fun i j => .int (i * j)) (val tInt a) (val tInt b) (grd (a.natAbs.log2 + b.natAbs.log2 < 1000000) (some (a * b))) (val tInt) := o2_intG (f := fun i j => i * j) (p := fun a b => a.natAbs.log2 + b.natAbs.log2 < 1000000) fun _ _ h => h
theorem o2_divW {a b : Int} : O2 (rI CDivW fun i j => .int (i / j)) (val tInt a) (val tInt b) (grd (0 < b ∧ b.natAbs.log2 < 9000) (some (a / b))) (val tInt) := o2_intG (f := fun i j => i / j) (p := fun a b => 0 < b ∧ b.natAbs.log2 < 9000) fun _ _ h => h
theorem o2_mod {a b : Int} : O2 (rI (fun _ j => 0 < j) fun i j => .int (i % j)) (val tInt a) (val tInt b) (grd (0 < b) (some (a % b))) (val tInt) := o2_intG (f := fun i j => i % j) (p := fun a b => 0 < b) fun _ _ h => h
theorem o2_eqI {a b : Int} : O2 rEq (val tInt a) (val tInt b) (some (decide (a = b))) (val tBool) := o2_mk fun c hm F H Q va vb s ha hb hq => by
  cases hm
  cases ha
  cases hb
  refine ⟨rfl, hq _ ?_⟩
  show V.bl _ = V.bl _
  congr 1
  exact decide_eq_decide.mpr ⟨fun e => by injection e, fun e => by rw [e]⟩
theorem o2_neI {a b : Int} : O2 rNe (val tInt a) (val tInt b) (some (!decide (a = b))) (val tBool) := o2_mk fun c hm F H Q va vb s ha hb hq => by
  cases hm
  cases ha
  cases hb
  refine ⟨rfl, hq _ ?_⟩
  show V.bl _ = V.bl _
  congr 2
  exact decide_eq_decide.mpr ⟨fun e => by injection e, fun e => by rw [e]⟩
theorem o2_eqB {a b : Bool} : O2 rEq (val tBool a) (val tBool b) (some (decide (a = b))) (val tBool) := o2_mk fun c hm F H Q va vb s ha hb hq => by
  cases hm
  cases ha
  cases hb
  refine ⟨rfl, hq _ ?_⟩
  show V.bl _ = V.bl _
  congr 1
  exact decide_eq_decide.mpr ⟨fun e => by injection e, fun e => by rw [e]⟩
theorem o2_neB {a b : Bool} : O2 rNe (val tBool a) (val tBool b) (some (!decide (a = b))) (val tBool) := o2_mk fun c hm F H Q va vb s ha hb hq => by
  cases hm
  cases ha
  cases hb
  refine ⟨rfl, hq _ ?_⟩
  show V.bl _ = V.bl _
  congr 2
  exact decide_eq_decide.mpr ⟨fun e => by injection e, fun e => by rw [e]⟩
theorem o2_eqS {a b : Str} : O2 rEq (val tStr a) (val tStr b) (some (decide (a = b))) (val tBool) := o2_mk fun c hm F H Q va vb s ha hb hq => by
  cases hm
  cases ha
  cases hb
  refine ⟨rfl, hq _ ?_⟩
  show V.bl _ = V.bl _
  congr 1
  exact decide_eq_decide.mpr ⟨fun e => by injection e, fun e => by rw [e]⟩
theorem o2_neS {a b : Str} : O2 rNe (val tStr a) (val tStr b) (some (!decide (a = b))) (val tBool) := o2_mk fun c hm F H Q va vb s ha hb hq => by
  cases hm
  cases ha
  cases hb
  refine ⟨rfl, hq _ ?_⟩
  show V.bl _ = V.bl _
  congr 2
  exact decide_eq_decide.mpr ⟨fun e => by injection e, fun e => by rw [e]⟩
/-- scalars of any kind -/
theorem o2_eqD {a b : V} : O2 rEq (val tDyn a) (val tDyn b) (grd (scal a b = true) (some (decide (a = b)))) (val tBool) := o2_mk fun c hm F H Q va vb s ha hb hq => by
  obtain ⟨q, hm⟩ := grd_some hm
  cases hm
  cases ha
  cases hb
  exact ⟨q, hq _ rfl⟩
theorem o2_neD {a b : V} : O2 rNe (val tDyn a) (val tDyn b) (grd (scal a b = true) (some (!decide (a = b)))) (val tBool) := o2_mk fun c hm F H Q va vb s ha hb hq => by
  obtain ⟨q, hm⟩ := grd_some hm
  cases hm
  cases ha
  cases hb
  exact ⟨q, hq _ rfl⟩
theorem o1_neg {a : Int} : O1 (rU fun i => .int (-i)) (val tInt a) (some (-a)) (val tInt) := o1_mk fun c hm F H Q va s ha hq => by
  cases hm
  exact ⟨a, ha, hq _ rfl⟩
/-! ### lists -/
theorem Paired.get {α β : Type} {f : α → β → Prop} : ∀ {l : List α} {m : List β}, Paired f l m → ∀ {i : Nat} {y : β}, m[i]? = some y → ∃ x, l[i]? = some x ∧ f x y
  | _, _, .nil, i, y, h => by simp at h
  | _, _, .cons r t, 0, y, h => by
    have e := Option.some.inj (by simpa using h)
    exact ⟨_, rfl, by rw [← e]; exact r⟩
  | _, _, .cons r t, i + 1, y, h => by
    obtain ⟨x, e1, e2⟩ := ML.Paired.get t (i := i) (y := y) (by simpa using h)
    exact ⟨x, by simpa using e1, e2⟩
theorem atI_paired {f : V → α → Prop} {vs : List V} {xs : List α} (p : Paired f vs xs) {i : Int} {y : α} (h : atI xs i = some y) : ∃ v, atI vs i = some v ∧ f v y := by
  unfold atI at h ⊢
  obtain ⟨j, e1, e2⟩ := Option.bind_eq_some_iff.mp h
  obtain ⟨v, e3, e4⟩ := ML.Paired.get p e2
  refine ⟨v, ?_, e4⟩
  rw [show vs.length = xs.length from p.length, e1]
  exact e3
theorem o2_ixL {K : PySem.W.Frag} {T : Ty α} {xs : List α} {i : Int} : O2 (rIxL K) (val (tL T) xs) (val tInt i) (atI xs i) (val T) := o2_mk fun c hm F H Q va vb s ⟨a, vs, e, h, p⟩ hb hq => by
  obtain ⟨v, e1, e2⟩ := atI_paired p hm
  exact ⟨a, vs, i, v, e, hb, .of (s _ _ h), e1, hq v e2⟩
theorem o2_ixS {K : PySem.W.Frag} {T : Ty α} {xs : List α} {i : Int} : O2 (rIxL K) (val (tS K T) xs) (val tInt i) (atI xs i) (val T) := o2_mk fun c hm F H Q va vb s ⟨a, vs, e, h, p⟩ hb hq => by
  obtain ⟨v, e1, e2⟩ := atI_paired p hm
  exact ⟨a, vs, i, v, e, hb, s.seq h, e1, hq v e2⟩
theorem o1_lenL {K : PySem.W.Frag} {T : Ty α} {xs : List α} : O1 (fun v H Q => ∃ p ys, [v] = [V.ref p] ∧ (SqL K H p ys ∨ SqT K H p ys) ∧ Q (.int ys.length) H) (val (tL T) xs) (some (xs.length : Int)) (val tInt) := o1_mk fun c hm F H Q va s ⟨a, vs, e, h, p⟩ hq => by
  cases hm
  exact ⟨a, vs, by rw [e], .inl (.of (s _ _ h)), hq _ (by show V.int _ = V.int _; rw [p.length])⟩
theorem o1_lenS {K : PySem.W.Frag} {T : Ty α} {xs : List α} : O1 (fun v H Q => ∃ p ys, [v] = [V.ref p] ∧ (SqL K H p ys ∨ SqT K H p ys) ∧ Q (.int ys.length) H) (val (tS K T) xs) (some (xs.length : Int)) (val tInt) := o1_mk fun c hm F H Q va s ⟨a, vs, e, h, p⟩ hq => by
  cases hm
  exact ⟨a, vs, by rw [e], .inl (s.seq h), hq _ (by show V.int _ = V.int _; rw [p.length])⟩
/-- list(xs): a new list of one's own -/
theorem o1_listL {K : PySem.W.Frag} {T : Ty α} {xs : List α} : O1 (fun v H Q => ∃ p ys, [v] = [V.ref p] ∧ (SqL K H p ys ∨ SqT K H p ys) ∧ ∀ l, H l = none → Q (.ref l) (upd H l (.lst ys))) (val (tL T) xs) (some xs) (own T) := by
  intro E env st σ vs H Q va c ⟨F, w, g⟩ hm hq
  cases hm
  obtain ⟨a, us, e, h, p⟩ := g.top
  exact ⟨a, us, by rw [e], .inl (.of (g.ext.s _ _ h)), fun l hl => hq _ _ ⟨F, _, g.pop.pushO hl ⟨l, us, rfl, trivial, fun b => Iff.rfl, upd_same, p⟩⟩⟩
theorem o1_listS {K : PySem.W.Frag} {T : Ty α} {xs : List α} : O1 (fun v H Q => ∃ p ys, [v] = [V.ref p] ∧ (SqL K H p ys ∨ SqT K H p ys) ∧ ∀ l, H l = none → Q (.ref l) (upd H l (.lst ys))) (val (tS K T) xs) (some xs) (own T) := by
  intro E env st σ vs H Q va c ⟨F, w, g⟩ hm hq
  cases hm
  obtain ⟨a, us, e, h, p⟩ := g.top
  exact ⟨a, us, by rw [e], .inl (g.ext.s.seq h), fun l hl => hq _ _ ⟨F, _, g.pop.pushO hl ⟨l, us, rfl, trivial, fun b => Iff.rfl, upd_same, p⟩⟩⟩
end
end ML

set_option Elab.async false
set_option linter.all false
set_option maxRecDepth 100000
set_option maxHeartbeats 2000000
namespace ML
open PySem PySem.Spec PyProof.Rows L2

/-! ### blocks -/
inductive Out (α β ρ : Type) where
  | nx (a : α) | brk (b : β) | ret (r : ρ)
abbrev Post (γ : Type) := γ → List SP → List V → Ends → Prop
def BK {γ : Type} (E : Ent) (env : En) (t : TS) (m : Option γ) (post : Post γ) : Prop :=
  ∀ (st : List SP) (vs : List V) (σ : L2.St) (H : Hp) (D : Ends) (g : γ), G E env st σ vs H → m = some g → post g st vs D → t D σ H
def pN {α : Type} (E : Ent) (eN : α → En) : Post α := fun a st vs D => ∀ σ' H', G E (eN a) st σ' vs H' → D.nx σ' H'
def pR {ρ : Type} (E : Ent) (R : ρ → SP) (eR : ρ → En) : Post ρ := fun r st vs D => ∀ v σ' H', G E (eR r) (R r :: st) σ' (v :: vs) H' → D.rt v H'
def pL {α β ρ : Type} (E : Ent) (eN : α → En) (eB : β → En) (R : ρ → SP) (eR : ρ → En) : Post (Out α β ρ) := fun o st vs D => match o with
  | .nx a => ∀ σ' H', G E (eN a) st σ' vs H' → D.nx σ' H'
  | .brk b => ∀ σ' H', G E (eB b) st σ' vs H' → D.bk σ' H'
  | .ret r => ∀ v σ' H', G E (eR r) (R r :: st) σ' (v :: vs) H' → D.rt v H'

section
variable {α β γ δ ρ τ : Type} {E : Ent} {env : En} {te ta tb tc : TE} {tt : TT} {u t t1 t2 : TS} {post : Post γ}
/-- post does not ask what follows -/
def NoNx (post : Post γ) : Prop := ∀ g st vs (D : Ends) x, post g st vs D → post g st vs { D with nx := x }
theorem bk_asg {m : Option α} {S : α → SP} {e1 : α → En} {k : α → Option γ} {i : Nat} (h : EX E env te m S e1) (hk : ∀ x, BK E ((e1 x).set i (some (S x))) u (k x) post) (hi : ∀ x, Nat.ble (i + 1) (e1 x).length = true := by intro _; rfl)
    (hp : ∀ g st vs D x, post g st vs D → post g st vs { D with nx := x } ∨ True := by intros; exact Or.inr trivial) : BK E env (tSeq (tAsg te (gName i)) u) (m.bind k) post := by
  intro st vs σ H D g gg hm hq
  obtain ⟨x, ex, hm⟩ := Option.bind_eq_some_iff.mp hm
  refine h st vs σ H _ x gg ex fun v H1 ⟨F, w, g1⟩ => ?_
  obtain ⟨w', g2⟩ := g1.store (Nat.le_of_ble_eq_true (hi x))
  exact hk x st vs _ H1 D g ⟨F, w', g2⟩ hm hq
theorem bk_expr {m : Option α} {S : α → SP} {e1 : α → En} {k : α → Option γ} (h : EX E env te m S e1) (hk : ∀ x, BK E (e1 x) u (k x) post) : BK E env (tSeq (tDrop te) u) (m.bind k) post := by
  intro st vs σ H D g gg hm hq
  obtain ⟨x, ex, hm⟩ := Option.bind_eq_some_iff.mp hm
  exact h st vs σ H _ x gg ex fun v H1 g1 => hk x st vs _ H1 D g g1.popV hm hq
theorem bk_pass (hk : ∀ {m : Option γ}, True) {m : Option γ} (h : BK E env u m post) : BK E env (tSeq tNext u) m post := fun st vs σ H D g gg hm hq => h st vs σ H D g gg hm hq
/-- fall through -/
theorem bn_nx {a : α} {eN : α → En} (h : Fgt env (eN a)) : BK E env tNext (some a) (pN E eN) := by
  intro st vs σ H D g gg hm hq
  cases hm
  exact hq σ H (gg.fgt h)
theorem bl_nx {a : α} {eN : α → En} {eB : β → En} {R : ρ → SP} {eR : ρ → En} (h : Fgt env (eN a)) : BK E env tNext (some (.nx a)) (pL E eN eB R eR) := by
  intro st vs σ H D g gg hm hq
  cases hm
  exact hq σ H (gg.fgt h)
theorem bl_brk {b : β} {eN : α → En} {eB : β → En} {R : ρ → SP} {eR : ρ → En} (h : Fgt env (eB b)) : BK E env tBreak (some (.brk b)) (pL E eN eB R eR) := by
  intro st vs σ H D g gg hm hq
  cases hm
  exact hq σ H (gg.fgt h)
theorem br_ret {m : Option ρ} {R : ρ → SP} {eR : ρ → En} {e1 : ρ → En} (h : EX E env te m R e1) (hf : ∀ r, Fgt (e1 r) (eR r)) : BK E env (tRet te) m (pR E R eR) := by
  intro st vs σ H D g gg hm hq
  exact h st vs σ H _ g gg hm fun v H1 g1 => hq v σ H1 (g1.fgt (hf g))
theorem bl_ret {m : Option ρ} {R : ρ → SP} {eR : ρ → En} {e1 : ρ → En} {eN : α → En} {eB : β → En} (h : EX E env te m R e1) (hf : ∀ r, Fgt (e1 r) (eR r)) : BK E env (tRet te) (m.bind fun r => some (.ret r)) (pL E eN eB R eR) := by
  intro st vs σ H D g gg hm hq
  obtain ⟨r, er, hm⟩ := Option.bind_eq_some_iff.mp hm
  cases hm
  exact h st vs σ H _ r gg er fun v H1 g1 => hq v σ H1 (g1.fgt (hf r))
/-- a returning block among others -/
theorem bl_ofR {m : Option ρ} {R : ρ → SP} {eR : ρ → En} {eN : α → En} {eB : β → En} (h : BK E env t m (pR E R eR)) : BK E env t (m.bind fun r => some (.ret r)) (pL E eN eB R eR) := by
  intro st vs σ H D g gg hm hq
  obtain ⟨r, er, hm⟩ := Option.bind_eq_some_iff.mp hm
  cases hm
  exact h st vs σ H D r gg er hq
theorem bl_ofN {m : Option α} {R : ρ → SP} {eR : ρ → En} {eN : α → En} {eB : β → En} (h : BK E env t m (pN E eN)) : BK E env t (m.bind fun r => some (.nx r)) (pL E eN eB R eR) := by
  intro st vs σ H D g gg hm hq
  obtain ⟨r, er, hm⟩ := Option.bind_eq_some_iff.mp hm
  cases hm
  exact h st vs σ H D r gg er hq
/-- how a returned value stands in the wish -/
def Emb (E : Ent) (post : Post γ) (R : ρ → SP) (eR : ρ → En) (emb : ρ → γ) : Prop := ∀ r st vs D, post (emb r) st vs D → pR E R eR r st vs D
theorem emb_R {R : ρ → SP} {eR : ρ → En} : Emb E (pR E R eR) R eR id := fun _ _ _ _ h => h
theorem emb_L {R : ρ → SP} {eR : ρ → En} {eN : α → En} {eB : β → En} : Emb E (pL E eN eB R eR) R eR Out.ret := fun _ _ _ _ h => h
/-- if, both ways the same kind of end (last in its block) -/
theorem bk_if {mt : Option Bool} {ma mb : Option γ} (ht : TX E env tt mt) (ha : BK E env t1 ma post) (hb : BK E env t2 mb post) : BK E env (tIfS tt t1 t2) (mt.bind fun b => if b = true then ma else mb) post := by
  intro st vs σ H D g gg hm hq
  obtain ⟨b, eb, hm⟩ := Option.bind_eq_some_iff.mp hm
  refine ht st vs σ H _ b gg eb fun H1 g1 => ?_
  cases b with
  | true => exact ha st vs σ H1 D g g1 hm hq
  | false => exact hb st vs σ H1 D g g1 hm hq
/-- if whose first way returns, the second is empty -/
theorem bk_ifr {mt : Option Bool} {ma : Option ρ} {mb : Option γ} {R : ρ → SP} {eR : ρ → En} {emb : ρ → γ} (he : Emb E post R eR emb) (ht : TX E env tt mt) (ha : BK E env t1 ma (pR E R eR)) (hb : BK E env u mb post) :
    BK E env (tSeq (tIfS tt t1 tNext) u) (mt.bind fun b => if b = true then ma.bind fun r => some (emb r) else mb) post := by
  intro st vs σ H D g gg hm hq
  obtain ⟨b, eb, hm⟩ := Option.bind_eq_some_iff.mp hm
  refine ht st vs σ H _ b gg eb fun H1 g1 => ?_
  cases b with
  | true =>
    obtain ⟨r, er, hm⟩ := Option.bind_eq_some_iff.mp hm
    cases hm
    exact ha st vs σ H1 _ r g1 er (he r st vs D hq)
  | false => exact hb st vs σ H1 D g g1 hm hq
/-- the same where all of it returns -/
theorem br_ifr {mt : Option Bool} {ma mb : Option ρ} {R : ρ → SP} {eR : ρ → En} (ht : TX E env tt mt) (ha : BK E env t1 ma (pR E R eR)) (hb : BK E env u mb (pR E R eR)) :
    BK E env (tSeq (tIfS tt t1 tNext) u) (mt.bind fun b => if b = true then ma else mb) (pR E R eR) := by
  intro st vs σ H D g gg hm hq
  obtain ⟨b, eb, hm⟩ := Option.bind_eq_some_iff.mp hm
  refine ht st vs σ H _ b gg eb fun H1 g1 => ?_
  cases b with
  | true => exact ha st vs σ H1 _ g g1 hm hq
  | false => exact hb st vs σ H1 D g g1 hm hq
/-- if, both ways fall through to J -/
theorem bk_ifj {mt : Option Bool} {ma mb : Option α} {k : α → Option γ} {eJ : α → En} (ht : TX E env tt mt) (ha : BK E env t1 ma (pN E eJ)) (hb : BK E env t2 mb (pN E eJ)) (hk : ∀ x, BK E (eJ x) u (k x) post) :
    BK E env (tSeq (tIfS tt t1 t2) u) (mt.bind fun b => (if b = true then ma else mb).bind k) post := by
  intro st vs σ H D g gg hm hq
  obtain ⟨b, eb, hm⟩ := Option.bind_eq_some_iff.mp hm
  obtain ⟨x, ex, hm2⟩ := Option.bind_eq_some_iff.mp hm
  refine ht st vs σ H _ b gg eb fun H1 g1 => ?_
  cases b with
  | true => exact ha st vs σ H1 _ x g1 ex fun σ' H' g2 => hk x st vs σ' H' D g g2 hm2 hq
  | false => exact hb st vs σ H1 _ x g1 ex fun σ' H' g2 => hk x st vs σ' H' D g g2 hm2 hq
/-- if, some ways return or break, the others fall through to J -/
def thenO {α β ρ γ : Type} (o : Option (Out α β ρ)) (k : α → Option γ) (hb : β → Option γ) (hr : ρ → Option γ) : Option γ := o.bind fun o => match o with
  | .nx a => k a
  | .brk b => hb b
  | .ret r => hr r
theorem bk_ifm {mt : Option Bool} {ma mb : Option (Out α β ρ)} {k : α → Option γ} {eJ : α → En} {eB : β → En} {R : ρ → SP} {eR : ρ → En} {emb : ρ → γ} {embB : β → γ} (he : Emb E post R eR emb) (heB : ∀ b st vs D, post (embB b) st vs D → ∀ σ' H', G E (eB b) st σ' vs H' → D.bk σ' H')
    (ht : TX E env tt mt) (ha : BK E env t1 ma (pL E eJ eB R eR)) (hb : BK E env t2 mb (pL E eJ eB R eR)) (hk : ∀ x, BK E (eJ x) u (k x) post) :
    BK E env (tSeq (tIfS tt t1 t2) u) (mt.bind fun b => thenO (if b = true then ma else mb) k (fun b => some (embB b)) fun r => some (emb r)) post := by
  intro st vs σ H D g gg hm hq
  obtain ⟨b, eb, hm⟩ := Option.bind_eq_some_iff.mp hm
  unfold thenO at hm
  obtain ⟨x, ex, hm⟩ := Option.bind_eq_some_iff.mp hm
  refine ht st vs σ H _ b gg eb fun H1 g1 => ?_
  have fin : pL E eJ eB R eR x st vs { D with nx := u D } := by
    cases x with
    | nx a => exact fun σ' H' g2 => hk a st vs σ' H' D g g2 hm hq
    | brk b =>
      cases hm
      exact heB b st vs D hq
    | ret r =>
      cases hm
      exact he r st vs D hq
  cases b with
  | true => exact ha st vs σ H1 _ x g1 ex fin
  | false => exact hb st vs σ H1 _ x g1 ex fin

/-! ### targets -/
/-- the top goes to a target -/
def AS (E : Ent) (env : En) (g : TG) (S : SP) (env' : En) : Prop :=
  ∀ (st : List SP) (vs : List V) (σ : L2.St) (H : Hp) (Q : L2.St → Hp → Prop) (v : V), G E env (S :: st) σ (v :: vs) H → (∀ σ' H', G E env' st σ' vs H' → Q σ' H') → g v σ H Q
theorem as_name {i : Nat} {S : SP} (hi : Nat.ble (i + 1) env.length = true := by rfl) : AS E env (gName i) S (env.set i (some S)) := by
  intro st vs σ H Q v ⟨F, w, g⟩ hq
  obtain ⟨w', g2⟩ := g.store (Nat.le_of_ble_eq_true hi)
  exact hq _ H ⟨F, w', g2⟩
/-- a, b = pair -/
theorem as_pair {K : PySem.W.Frag} {i j : Nat} {T : Ty α} {U : Ty β} {p : α × β} (hi : Nat.ble (i + 1) env.length = true := by rfl) (hj : Nat.ble (j + 1) env.length = true := by rfl) :
    AS E env (gTup K 2 (gCons (gName i) (gCons (gName j) gNil))) (val (tP T U) p) ((env.set i (some (val T p.1))).set j (some (val U p.2))) := by
  intro st vs σ H Q v ⟨F, w, g⟩ hq
  obtain ⟨a, x, y, e, h, h1, h2⟩ := g.top
  refine ⟨a, [x, y], e, .of (g.ext.s _ _ h), rfl, x, [y], rfl, y, [], rfl, rfl, ?_⟩
  obtain ⟨w1, g1⟩ := (g.pop.pushV h1).store (i := i) (Nat.le_of_ble_eq_true hi)
  obtain ⟨w2, g2⟩ := (g1.pushV h2).store (i := j) (by rw [List.length_set]; exact Nat.le_of_ble_eq_true hj)
  exact hq _ H ⟨F, w2, g2⟩
theorem bk_asgT {m : Option α} {S : α → SP} {e1 e2 : α → En} {k : α → Option γ} {g : TG} (h : EX E env te m S e1) (ha : ∀ x, AS E (e1 x) g (S x) (e2 x)) (hk : ∀ x, BK E (e2 x) u (k x) post) : BK E env (tSeq (tAsg te g) u) (m.bind k) post := by
  intro st vs σ H D y gg hm hq
  obtain ⟨x, ex, hm⟩ := Option.bind_eq_some_iff.mp hm
  exact h st vs σ H _ x gg ex fun v H1 g1 => ha x st vs σ H1 _ v g1 fun σ' H' g2 => hk x st vs σ' H' D y g2 hm hq

/-! ### what is walked -/
/-- J gives the items xs, one a turn, as slots S, while Z (at v) stands on top -/
def Wk {α : Type} (J : It) (xs : List α) (S : α → SP) (Z : SP) (v : V) : Prop :=
  ∀ (E : Ent) (env : En) (st1 st : List SP) (σ : L2.St) (vs1 vs : List V) (H : Hp) (i : Nat), st1.length = vs1.length → G E env (st1 ++ Z :: st) σ (vs1 ++ v :: vs) H →
    (∀ y, xs[i]? = some y → J.go i H ∧ ∀ x H', J.yld i H x H' → G E env (S y :: (st1 ++ Z :: st)) σ (x :: (vs1 ++ v :: vs)) H') ∧ (xs.length ≤ i → J.stop i H)
def IX {α : Type} (E : Ent) (env : En) (wi : TI) (m : Option (List α)) (S : α → SP) : Prop :=
  ∀ (st : List SP) (vs : List V) (σ : L2.St) (H : Hp) (R : It → Hp → Prop) (xs : List α), G E env st σ vs H → m = some xs → (∀ J Z v H', Wk J xs S Z v → G E env (Z :: st) σ (v :: vs) H' → R J H') → wi σ H R
theorem wk_L {K : PySem.W.Frag} {T : Ty α} {xs : List α} {a : Addr} : Wk (Itl K a) xs (val T) (val (tL T) xs) (.ref a) := by
  intro E env st1 st σ vs1 vs H i hl1 ⟨F, w, g⟩
  obtain ⟨a', us, e, h, p⟩ := GG.mid hl1 g
  cases e
  have hs : SqL K H a us := .of (g.ext.s _ _ h)
  refine ⟨fun y hy => ?_, fun hl => ⟨us, hs, by rw [p.length]; exact hl⟩⟩
  obtain ⟨x, e1, e2⟩ := ML.Paired.get p hy
  refine ⟨⟨us, x, hs, e1⟩, fun x' H' ⟨eH, hx⟩ => ?_⟩
  cases eH
  have := hx us hs
  rw [e1] at this
  cases this
  exact ⟨F, w, g.pushV e2⟩
theorem wk_U {K : PySem.W.Frag} {T : Ty α} {xs : List α} {a : Addr} : Wk (Itt K a) xs (val T) (val (tU T) xs) (.ref a) := by
  intro E env st1 st σ vs1 vs H i hl1 ⟨F, w, g⟩
  obtain ⟨a', us, e, h, p⟩ := GG.mid hl1 g
  cases e
  have hs : SqT K H a us := .of (g.ext.s _ _ h)
  refine ⟨fun y hy => ?_, fun hl => ⟨us, hs, by rw [p.length]; exact hl⟩⟩
  obtain ⟨x, e1, e2⟩ := ML.Paired.get p hy
  refine ⟨⟨us, x, hs, e1⟩, fun x' H' ⟨eH, hx⟩ => ?_⟩
  cases eH
  have := hx us hs
  rw [e1] at this
  cases this
  exact ⟨F, w, g.pushV e2⟩
theorem ix_L {K : PySem.W.Frag} {T : Ty α} {m : Option (List α)} (h : EV E env te m (val (tL T))) : IX E env (iList K te) m (val T) := by
  intro st vs σ H R xs gg hm hq
  refine h st vs σ H _ xs gg hm fun v H1 ⟨F, w, g1⟩ => ?_
  obtain ⟨a, us, e, hh, p⟩ := g1.top
  cases e
  exact ⟨a, rfl, ⟨us, .of (g1.ext.s _ _ hh)⟩, hq _ _ _ _ wk_L ⟨F, w, g1⟩⟩
theorem ix_U {K : PySem.W.Frag} {T : Ty α} {m : Option (List α)} (h : EV E env te m (val (tU T))) : IX E env (iTup K te) m (val T) := by
  intro st vs σ H R xs gg hm hq
  refine h st vs σ H _ xs gg hm fun v H1 ⟨F, w, g1⟩ => ?_
  obtain ⟨a, us, e, hh, p⟩ := g1.top
  cases e
  exact ⟨a, rfl, ⟨us, .of (g1.ext.s _ _ hh)⟩, hq _ _ _ _ wk_U ⟨F, w, g1⟩⟩
theorem wk_S {K : PySem.W.Frag} {T : Ty α} {xs : List α} {a : Addr} (one : ∀ (F : Hp) (us us' : List V), SqL K F a us → SqL K F a us' → us = us') : Wk (Itl K a) xs (val T) (val (tS K T) xs) (.ref a) := by
  intro E env st1 st σ vs1 vs H i hl1 ⟨F, w, g⟩
  obtain ⟨a', us, e, h, p⟩ := GG.mid hl1 g
  cases e
  have hs : SqL K H a us := g.ext.s.seq h
  refine ⟨fun y hy => ?_, fun hl => ⟨us, hs, by rw [p.length]; exact hl⟩⟩
  obtain ⟨x, e1, e2⟩ := ML.Paired.get p hy
  refine ⟨⟨us, x, hs, e1⟩, fun x' H' ⟨eH, hx⟩ => ?_⟩
  cases eH
  have := hx us hs
  rw [e1] at this
  cases this
  exact ⟨F, w, g.pushV e2⟩
/-- a range -/
def rangeL (a : Int) (n : Nat) : List Int := (List.range n).map fun i => a + (i : Nat)
theorem rangeL_get {a : Int} {n i : Nat} {y : Int} (h : (rangeL a n)[i]? = some y) : i < n ∧ y = a + (i : Nat) := by
  unfold rangeL at h
  rw [List.getElem?_map] at h
  obtain ⟨j, e1, e2⟩ := Option.map_eq_some_iff.mp h
  have hi : i < n := by
    have := (List.getElem?_eq_some_iff.mp e1).1
    simpa using this
  rw [List.getElem?_range hi] at e1
  cases e1
  exact ⟨hi, e2.symm⟩
theorem rangeL_len {a : Int} {n : Nat} : (rangeL a n).length = n := by simp [rangeL]
theorem wk_R {a : Int} {n : Nat} : Wk (Itr a n) (rangeL a n) (val tInt) anyS .non := by
  intro E env st1 st σ vs1 vs H i hl1 ⟨F, w, g⟩
  refine ⟨fun y hy => ?_, fun hl => by rw [rangeL_len] at hl; exact hl⟩
  obtain ⟨hi, ey⟩ := rangeL_get hy
  refine ⟨hi, fun x H' ⟨eH, hx⟩ => ?_⟩
  cases eH
  exact ⟨F, w, g.pushV (by rw [hx, ey]; rfl)⟩
theorem G.pushAny {st : List SP} {σ : L2.St} {vs : List V} {H : Hp} {v : V} (g : G E env st σ vs H) : G E env (anyS :: st) σ (v :: vs) H := by
  obtain ⟨F, w, g⟩ := g
  exact ⟨F, w, g.re (fun a l e => ⟨l, e⟩) g.env ⟨trivial, g.st⟩⟩
def range1 (n : Int) : Option (List Int) := grd (n < 4611686018427387904 ∧ -4611686018427387904 ≤ n) (some (rangeL 0 n.toNat))
def range2 (a b : Int) : Option (List Int) := grd (-4611686018427387904 ≤ a ∧ a < 4611686018427387904 ∧ -4611686018427387904 ≤ b ∧ b < 4611686018427387904) (some (rangeL a (b - a).toNat))
theorem ix_R1 {m : Option Int} (h : EV E env te m (val tInt)) : IX E env (iRng1 (tCons te tNil)) (m.bind range1) (val tInt) := by
  intro st vs σ H R xs gg hm hq
  obtain ⟨n, en, hm⟩ := Option.bind_eq_some_iff.mp hm
  obtain ⟨⟨h1, h2⟩, hm⟩ := grd_some hm
  cases hm
  refine h st vs σ H _ n gg en fun v H1 ⟨F, w, g1⟩ => ⟨n, by rw [show v = V.int n from g1.top], h2, h1, hq _ anyS .non _ wk_R (G.pushAny ⟨F, w, g1.pop⟩)⟩
theorem ix_R2 {ma : Option Int} {mb : Int → Option Int} (ha : EV E env ta ma (val tInt)) (hb : ∀ a, EV E env tb (mb a) (val tInt)) : IX E env (iRng2 (tCons ta (tCons tb tNil))) (ma.bind fun a => (mb a).bind fun b => range2 a b) (val tInt) := by
  intro st vs σ H R xs gg hm hq
  obtain ⟨a, ea, hm⟩ := Option.bind_eq_some_iff.mp hm
  obtain ⟨b, eb, hm⟩ := Option.bind_eq_some_iff.mp hm
  obtain ⟨hc, hm⟩ := grd_some hm
  cases hm
  refine ha st vs σ H _ a gg ea fun v H1 g1 => hb a _ _ σ H1 _ b g1 eb fun u H2 ⟨F, w, g2⟩ => ⟨a, b, ?_, hc, hq _ anyS .non _ wk_R (G.pushAny ⟨F, w, g2.pop.pop⟩)⟩
  rw [show u = V.int b from g2.top, show v = V.int a from g2.st.2.1]

/-! ### for -/
def forN {α σ : Type} : List α → σ → (α → σ → Option σ) → Option σ
  | [], s, _ => some s
  | x :: xs, s, f => (f x s).bind fun s' => forN xs s' f
def forK {σ ρ : Type} (k : σ → Option (Sum σ ρ)) : Out σ σ ρ → Option (Sum σ ρ)
  | .nx s => k s
  | .brk s => some (.inl s)
  | .ret r => some (.inr r)
def forL {α σ ρ : Type} : List α → σ → (α → σ → Option (Out σ σ ρ)) → Option (Sum σ ρ)
  | [], s, _ => some (.inl s)
  | x :: xs, s, f => (f x s).bind (forK fun s' => forL xs s' f)
theorem drop_cons {α : Type} {xs : List α} {i : Nat} {y : α} {r : List α} (h : xs.drop i = y :: r) : xs[i]? = some y ∧ xs.drop (i + 1) = r := by
  constructor
  · have := congrArg (fun l : List α => l[0]?) h
    simpa using this
  · have := congrArg List.tail h
    simpa using this
theorem drop_nil {α : Type} {xs : List α} {i : Nat} (h : xs.drop i = []) : xs.length ≤ i := List.drop_eq_nil_iff.mp h
/-- the body always falls through -/
theorem bk_forN {σs : Type} {wi : TI} {g : TG} {tb : TS} {mx : Option (List α)} {S : α → SP} {eL : σs → En} {eX : α → σs → En} {s0 : σs} {f : α → σs → Option σs} {k : σs → Option γ} (hi : IX E env wi mx S) (h0 : Fgt env (eL s0)) (hg : ∀ x s, AS E (eL s) g (S x) (eX x s))
    (hb : ∀ x s, BK E (eX x s) tb (f x s) (pN E eL)) (hk : ∀ s, BK E (eL s) u (k s) post) : BK E env (tSeq (tFor wi g tb) u) (mx.bind fun xs => (forN xs s0 f).bind k) post := by
  intro st vs σ H D y gg hm hq
  obtain ⟨xs, exs, hm⟩ := Option.bind_eq_some_iff.mp hm
  obtain ⟨s1, es, hm⟩ := Option.bind_eq_some_iff.mp hm
  refine hi st vs σ H _ xs gg exs fun J Z v H1 wk g1 => ?_
  refine ⟨fun i m σ' H' => m = xs.length - i ∧ ∃ s, G E (eL s) (Z :: st) σ' (v :: vs) H' ∧ forN (xs.drop i) s f = some s1, ⟨_, rfl, s0, g1.fgt h0, by simpa using es⟩, ?_⟩
  rintro i m σ' H' ⟨rfl, s, g2, e⟩
  obtain ⟨w1, w2⟩ := wk E (eL s) [] st σ' [] vs H' i rfl g2
  cases hd : xs.drop i with
  | nil =>
    rw [hd] at e
    cases e
    exact .inl ⟨w2 (drop_nil hd), hk s1 st vs σ' H' D y g2.popV hm hq⟩
  | cons x r =>
    rw [hd] at e
    obtain ⟨d1, d2⟩ := drop_cons hd
    obtain ⟨s', e1, e2⟩ := Option.bind_eq_some_iff.mp (show ((f x s).bind fun s' => forN r s' f) = some s1 from e)
    obtain ⟨w3, w4⟩ := w1 x d1
    have hlt : i < xs.length := (List.getElem?_eq_some_iff.mp d1).1
    refine .inr ⟨w3, fun σ'' H'' => ∃ m', m' < xs.length - i ∧ m' = xs.length - (i + 1) ∧ ∃ s, G E (eL s) (Z :: st) σ'' (v :: vs) H'' ∧ forN (xs.drop (i + 1)) s f = some s1, fun σ'' H'' ⟨m', h1, h2, h3⟩ => ⟨m', h1, h2, h3⟩, fun xv H'' hy => ?_⟩
    refine hg x s _ _ σ' H'' _ xv (w4 xv H'' hy) fun σ2 H2 g3 => ?_
    exact hb x s _ _ σ2 H2 _ s' g3 e1 fun σ3 H3 g4 => ⟨_, by omega, rfl, s', g4, by rw [d2]; exact e2⟩
def thenS {σ ρ γ : Type} (o : Option (Sum σ ρ)) (k : σ → Option γ) (h : ρ → Option γ) : Option γ := o.bind fun o => match o with
  | .inl s => k s
  | .inr r => h r
theorem G.nip {S Z : SP} {st : List SP} {σ : L2.St} {v z : V} {vs : List V} {H : Hp} (g : G E env (S :: Z :: st) σ (v :: z :: vs) H) : G E env (S :: st) σ (v :: vs) H := by
  obtain ⟨F, w, g⟩ := g
  obtain ⟨w', g'⟩ := g.nip
  exact ⟨F, w', g'⟩
/-- the body may return, break -/
theorem bk_forL {σs : Type} {wi : TI} {g : TG} {tb : TS} {mx : Option (List α)} {S : α → SP} {eL : σs → En} {eX : α → σs → En} {s0 : σs} {f : α → σs → Option (Out σs σs ρ)} {k : σs → Option γ} {R : ρ → SP} {eR : ρ → En} {emb : ρ → γ} (he : Emb E post R eR emb)
    (hi : IX E env wi mx S) (h0 : Fgt env (eL s0)) (hg : ∀ x s, AS E (eL s) g (S x) (eX x s)) (hb : ∀ x s, BK E (eX x s) tb (f x s) (pL E eL eL R eR)) (hk : ∀ s, BK E (eL s) u (k s) post) :
    BK E env (tSeq (tFor wi g tb) u) (mx.bind fun xs => thenS (forL xs s0 f) k fun r => some (emb r)) post := by
  intro st vs σ H D y gg hm hq
  obtain ⟨xs, exs, hm⟩ := Option.bind_eq_some_iff.mp hm
  unfold thenS at hm
  obtain ⟨s1, es, hm⟩ := Option.bind_eq_some_iff.mp hm
  refine hi st vs σ H _ xs gg exs fun J Z v H1 wk g1 => ?_
  have nxt : ∀ s, s1 = .inl s → ∀ σ' H', G E (eL s) (Z :: st) σ' (v :: vs) H' → u D σ' H' := fun s e σ' H' g2 => by
    subst e
    exact hk s st vs σ' H' D y g2.popV hm hq
  refine ⟨fun i m σ' H' => m = xs.length - i ∧ ∃ s, G E (eL s) (Z :: st) σ' (v :: vs) H' ∧ forL (xs.drop i) s f = some s1, ⟨_, rfl, s0, g1.fgt h0, by simpa using es⟩, ?_⟩
  rintro i m σ' H' ⟨rfl, s, g2, e⟩
  obtain ⟨w1, w2⟩ := wk E (eL s) [] st σ' [] vs H' i rfl g2
  cases hd : xs.drop i with
  | nil =>
    rw [hd] at e
    have e' : s1 = .inl s := (Option.some.inj e).symm
    exact .inl ⟨w2 (drop_nil hd), nxt s e' σ' H' g2⟩
  | cons x r =>
    rw [hd] at e
    obtain ⟨d1, d2⟩ := drop_cons hd
    obtain ⟨o, e1, e2⟩ := Option.bind_eq_some_iff.mp (show ((f x s).bind (forK fun s' => forL r s' f)) = some s1 from e)
    obtain ⟨w3, w4⟩ := w1 x d1
    have hlt : i < xs.length := (List.getElem?_eq_some_iff.mp d1).1
    refine .inr ⟨w3, fun σ'' H'' => ∃ m', m' < xs.length - i ∧ m' = xs.length - (i + 1) ∧ ∃ s, G E (eL s) (Z :: st) σ'' (v :: vs) H'' ∧ forL (xs.drop (i + 1)) s f = some s1, fun σ'' H'' ⟨m', h1, h2, h3⟩ => ⟨m', h1, h2, h3⟩, fun xv H'' hy => ?_⟩
    refine hg x s _ _ σ' H'' _ xv (w4 xv H'' hy) fun σ2 H2 g3 => ?_
    refine hb x s _ _ σ2 H2 _ o g3 e1 ?_
    cases o with
    | nx s' => exact fun σ3 H3 g4 => ⟨_, by omega, rfl, s', g4, by rw [d2]; exact e2⟩
    | brk s' => exact fun σ3 H3 g4 => nxt s' (Option.some.inj e2).symm σ3 H3 g4
    | ret r' =>
      have e3 : s1 = .inr r' := (Option.some.inj e2).symm
      subst e3
      cases hm
      exact fun v' σ3 H3 g4 => he r' st vs D hq v' σ3 H3 g4.nip
/-! ### while -/
def whileN {σ : Type} : Nat → σ → (σ → Option Bool) → (σ → Option σ) → Option σ
  | 0, _, _, _ => none
  | n + 1, s, c, f => (c s).bind fun b => if b = true then (f s).bind fun s' => whileN n s' c f else some s
theorem bk_whileN {σs : Type} {tc : TT} {tb : TS} {eL : σs → En} {s0 : σs} {c : σs → Option Bool} {f : σs → Option σs} {k : σs → Option γ} (n : Nat) (h0 : Fgt env (eL s0)) (hc : ∀ s, TX E (eL s) tc (c s)) (hb : ∀ s, BK E (eL s) tb (f s) (pN E eL)) (hk : ∀ s, BK E (eL s) u (k s) post) :
    BK E env (tSeq (tWhile tc tb) u) ((whileN n s0 c f).bind k) post := by
  intro st vs σ H D y gg hm hq
  obtain ⟨s1, es, hm⟩ := Option.bind_eq_some_iff.mp hm
  refine ⟨fun m σ' H' => ∃ s, G E (eL s) st σ' vs H' ∧ whileN m s c f = some s1, ⟨n, s0, gg.fgt h0, es⟩, ?_⟩
  rintro m σ' H' ⟨s, g2, e⟩
  rcases m with _ | m
  · cases e
  · obtain ⟨b, eb, e⟩ := Option.bind_eq_some_iff.mp (show ((c s).bind fun b => if b = true then (f s).bind fun s' => whileN m s' c f else some s) = some s1 from e)
    refine hc s st vs σ' H' _ b g2 eb fun H2 g3 => ?_
    cases b with
    | true =>
      obtain ⟨s', e1, e2⟩ := Option.bind_eq_some_iff.mp e
      exact ⟨fun σ'' H'' => ∃ s, G E (eL s) st σ'' vs H'' ∧ whileN m s c f = some s1, fun σ'' H'' h => ⟨m, Nat.lt_succ_self m, h⟩, hb s st vs σ' H2 _ s' g3 e1 fun σ3 H3 g4 => ⟨s', g4, e2⟩⟩
    | false =>
      have e3 : some s = some s1 := e
      rw [← Option.some.inj e3] at hm
      exact hk s st vs σ' H2 D y g3 hm hq
end
end ML

set_option Elab.async false
set_option linter.all false
set_option maxRecDepth 100000
set_option maxHeartbeats 2000000
namespace ML
open PySem PySem.Spec PyProof.Rows L2

section
variable {α β γ δ ρ τ : Type} {E : Ent} {env : En} {te ta tb tc ti : TE} {tt : TT} {u t t1 t2 : TS} {post : Post γ}
/-! ### a name that holds a list of one's own -/
theorem GG.mutE {φ : V → Prop} {T : Ty α} {xs : List α} {i : Nat} {st : List SP} {σ : L2.St} {vs : List V} {H F : Hp} {w : Ow} (g : GG E env st σ vs H F w) (h : env[i]? = some (some (muL φ T xs))) :
    ∃ a us, σ[i]? = some (some (.ref a)) ∧ H a = some (.lst us) ∧ Paired (T.rp F) us xs ∧ ∀ us' ys, Paired (T.rp F) us' ys → GG E (env.set i (some (muL φ T ys))) st σ vs (upd H a (.lst us')) F w := by
  obtain ⟨v, e1, a, us, rfl, hf, ho, hh, p⟩ := g.env.2 i _ h
  have wa : w a = some (.e i) := (ho a).mpr rfl
  obtain ⟨q1, q2, q3⟩ := g.own a _ wa
  have hi : i < env.length := (List.getElem?_eq_some_iff.mp h).1
  refine ⟨a, us, e1, hh, p, fun us' ys p' => ?_⟩
  have u := Ext.chg (o := .lst us') g.ext.s q1
  refine g.step u (fun b hb => ⟨.e i, by rw [hb]; exact wa⟩) (fun b l e => .inl ⟨l, e⟩) ⟨by simpa using g.env.1, fun j S e => ?_⟩ (g.st.step u fun k hk b => ⟨Iff.rfl, fun e => ⟨fun z => ?_, (g.own b _ e).2.1⟩⟩)
  · by_cases hj : i = j
    · subst hj
      rw [List.getElem?_set_self hi] at e
      cases e
      exact ⟨_, e1, a, us', rfl, hf, ho, upd_same, p'⟩
    · rw [List.getElem?_set_ne hj] at e
      obtain ⟨v, e2, e3⟩ := g.env.2 j S e
      refine ⟨v, e2, SP.step u e3 (fun _ => Iff.rfl) fun b eb => ⟨fun z => ?_, (g.own b _ eb).2.1⟩⟩
      rw [z, wa] at eb
      cases eb
      exact hj rfl
  · rw [z, wa] at e
    cases e
theorem tyV_lst {K : PySem.W.Frag} {a : Addr} {us : List V} {H : Hp} (h : H a = some (.lst us)) : tyV K "list" (.ref a) H := .inl ⟨rfl, us, .of h⟩
/-- x.append(e) -/
theorem ex_append {K : PySem.W.Frag} {φ : V → Prop} {T : Ty α} {xs : List α} {i : Nat} {m : Option α} (h : env[i]? = some (some (muL φ T xs))) (he : EV E env te m (val T)) :
    EX E env (tBM K "list" rAppend (tVar i) (tCons te tNil)) (m.bind fun x => grd (xs.length < 16777216) (some (xs ++ [x]))) (fun _ => val tNon ()) fun ys => env.set i (some (muL φ T ys)) := by
  intro st vs σ H Q c gg hm hq
  obtain ⟨x, ex, hm⟩ := Option.bind_eq_some_iff.mp hm
  obtain ⟨hlen, hm⟩ := grd_some hm
  cases hm
  obtain ⟨F, w, g⟩ := id gg
  obtain ⟨a, us, e1, hh, p, _⟩ := g.mutE h
  refine ⟨_, e1, tyV_lst hh, he st vs σ H _ x gg ex fun v H2 ⟨F2, w2, g2⟩ => ?_⟩
  obtain ⟨a', us2, e2, hh2, p2, k⟩ := g2.pop.mutE h
  rw [e1] at e2
  cases e2
  refine ⟨a, us2, v, rfl, rfl, hh2, by rw [p2.length, sizeLine_eq]; exact hlen, hq _ _ ⟨F2, w2, (k (us2 ++ [v]) (xs ++ [x]) (Paired.snoc p2 g2.top)).pushV (T := tNon) rfl⟩⟩
/-- x.reverse(), x.clear() -/
theorem ex_reverse {K : PySem.W.Frag} {φ : V → Prop} {T : Ty α} {xs : List α} {i : Nat} (h : env[i]? = some (some (muL φ T xs))) :
    EX E env (tBM0 K "list" rReverse (tVar i)) (some xs.reverse) (fun _ => val tNon ()) fun ys => env.set i (some (muL φ T ys)) := by
  intro st vs σ H Q c ⟨F, w, g⟩ hm hq
  cases hm
  obtain ⟨a, us, e1, hh, p, k⟩ := g.mutE h
  exact ⟨_, e1, tyV_lst hh, a, us, rfl, rfl, hh, hq _ _ ⟨F, w, (k us.reverse xs.reverse (Paired.rev p)).pushV (T := tNon) rfl⟩⟩
theorem ex_clear {K : PySem.W.Frag} {φ : V → Prop} {T : Ty α} {xs : List α} {i : Nat} (h : env[i]? = some (some (muL φ T xs))) :
    EX E env (tBM0 K "list" rClear (tVar i)) (some []) (fun _ => val tNon ()) fun ys => env.set i (some (muL φ T ys)) := by
  intro st vs σ H Q c ⟨F, w, g⟩ hm hq
  cases hm
  obtain ⟨a, us, e1, hh, p, k⟩ := g.mutE h
  exact ⟨_, e1, tyV_lst hh, a, us, rfl, rfl, hh, hq _ _ ⟨F, w, (k [] [] .nil).pushV (T := tNon) rfl⟩⟩
/-- x[i] = e -/
theorem Paired.set {α β : Type} {f : α → β → Prop} {a : α} {b : β} (r : f a b) : ∀ {l : List α} {m : List β} (j : Nat), Paired f l m → Paired f (l.set j a) (m.set j b)
  | _, _, _, .nil => .nil
  | _, _, 0, .cons _ t => .cons r t
  | _, _, j + 1, .cons q t => .cons q (Paired.set r j t)
def setI (xs : List α) (i : Int) (x : α) : Option (List α) := (ixN xs.length i).map fun j => xs.set j x
theorem bk_setI {φ : V → Prop} {T : Ty α} {xs : List α} {j : Nat} {m : Option α} {mi : Option Int} {k : List α → Option γ} (h : env[j]? = some (some (muL φ T xs))) (he : EV E env te m (val T)) (hi : EV E env ti mi (val tInt))
    (hk : ∀ ys, BK E (env.set j (some (muL φ T ys))) u (k ys) post) : BK E env (tSeq (tAsg te (gSub (tVar j) ti rSetL)) u) (m.bind fun x => mi.bind fun i => (setI xs i x).bind k) post := by
  intro st vs σ H D y gg hm hq
  obtain ⟨x, ex, hm⟩ := Option.bind_eq_some_iff.mp hm
  obtain ⟨i, ei, hm⟩ := Option.bind_eq_some_iff.mp hm
  obtain ⟨ys, ey, hm⟩ := Option.bind_eq_some_iff.mp hm
  obtain ⟨j', ej, rfl⟩ := Option.map_eq_some_iff.mp ey
  refine he st vs σ H _ x gg ex fun v H2 gg2 => ?_
  obtain ⟨F2, w2, g2⟩ := id gg2
  obtain ⟨a, us, e1, hh, p, _⟩ := g2.mutE h
  refine ⟨_, e1, hi _ _ σ H2 _ i gg2 ei fun iv H3 ⟨F3, w3, g3⟩ => ?_⟩
  obtain ⟨a', us3, e2, hh3, p3, k3⟩ := g3.pop.pop.mutE h
  rw [e1] at e2
  cases e2
  refine ⟨a, us3, i, j', rfl, g3.top, hh3, by rw [p3.length]; exact ej, ?_⟩
  exact hk _ st vs σ _ D y ⟨F3, w3, k3 _ _ (ML.Paired.set (f := T.rp F3) (show T.rp F3 v x from g3.st.2.1) j' p3)⟩ hm hq
/-! ### from now on all may know it -/
theorem bk_frzS {S : SP} {q : VP} (i : Nat) {m : Option γ} (h : env[i]? = some (some S)) (z : Fz S q) (hk : BK E (env.set i (some q.sp)) u m post) : BK E env u m post := by
  intro st vs σ H D y ⟨F, w, g⟩ hm hq
  obtain ⟨F', w', g'⟩ := g.frzE h z
  exact hk st vs σ H D y ⟨F', w', g'⟩ hm hq
theorem bk_frz {φ : V → Prop} {T : Ty α} {xs : List α} (i : Nat) {m : Option γ} (h : env[i]? = some (some (muL φ T xs))) (hk : BK E (env.set i (some (val (tL T) xs))) u m post) : BK E env u m post := bk_frzS i h fz_mu hk
/-! ### read only: what is one's own is a value for one expression -/
/-- the value does not lie in the heap -/
def Flat (T : Ty α) : Prop := ∀ F F' v x, T.rp F v x → T.rp F' v x
theorem flat_int : Flat tInt := fun _ _ _ _ h => h
theorem flat_bool : Flat tBool := fun _ _ _ _ h => h
theorem flat_str : Flat tStr := fun _ _ _ _ h => h
theorem flat_non : Flat tNon := fun _ _ _ _ h => h
theorem flat_dyn : Flat tDyn := fun _ _ _ _ h => h
/-- values that hold no objects but tuples may come out of a borrow -/
def Nb (T : Ty α) : Prop := ∀ (F F2 : Hp) (v : V) (x : α), (∀ a us, F a = some (.tup us) → F2 a = some (.tup us)) → T.rp F v x → T.rp F2 v x
theorem nb_fl {T : Ty α} (h : Flat T) : Nb T := fun F F2 v x _ r => h F F2 v x r
theorem nb_int : Nb tInt := nb_fl flat_int
theorem nb_bool : Nb tBool := nb_fl flat_bool
theorem nb_str : Nb tStr := nb_fl flat_str
theorem nb_non : Nb tNon := nb_fl flat_non
theorem nb_dyn : Nb tDyn := nb_fl flat_dyn
theorem nb_P {T : Ty α} {U : Ty β} (h : Nb T) (k : Nb U) : Nb (tP T U) := fun F F2 v x s ⟨a, p, q, e, hf, h1, h2⟩ => ⟨a, p, q, e, s _ _ hf, h F F2 _ _ s h1, k F F2 _ _ s h2⟩
theorem nb_U {T : Ty α} (h : Nb T) : Nb (tU T) := fun F F2 v x s ⟨a, us, e, hf, p⟩ => ⟨a, us, e, s _ _ hf, Paired.mono p fun _ _ => h F F2 _ _ s⟩
theorem nb_O {T : Ty α} (h : Nb T) : Nb (tOpt T) := fun F F2 v x s r => by
  cases x with
  | none => exact r
  | some y => exact h F F2 v y s r
/-- it owns no tuples -/
def NT (S : SP) : Prop := ∀ (F H : Hp) (o : Addr → Prop) (v : V), S.ok F H o v → ∀ a, o a → ∀ us, H a ≠ some (.tup us)
theorem nt_mu {φ : V → Prop} {T : Ty α} {xs : List α} : NT (muL φ T xs) := fun F H o v ⟨a, us, e, f, ho, h, p⟩ b hb ts z => by
  rw [(ho b).mp hb, h] at z; cases z
def Brw (env env' : En) : Prop := env'.length ≤ env.length ∧ ∀ (i : Nat) (S' : SP), env'[i]? = some (some S') → (∃ q : VP, S' = q.sp ∧ env[i]? = some (some q.sp)) ∨ ∃ (S : SP) (q : VP), S' = q.sp ∧ env[i]? = some (some S) ∧ Fz S q ∧ NT S
theorem GG.brw {env' : En} {st : List SP} {σ : L2.St} {vs : List V} {H F : Hp} {w : Ow} (g : GG E env st σ vs H F w) (b : Brw env env') :
    ∃ Fp, Same F Fp ∧ Same Fp H ∧ (∀ a, w a = none → Fp a = F a) ∧ (∀ a us, w a ≠ none → Fp a ≠ some (.tup us)) ∧ GG (.mk0 Fp H) env' [] σ [] H Fp (fun _ => none) := by
  classical
  let L : Addr → Prop := fun a => ∃ i S, env[i]? = some (some S) ∧ NT S ∧ w a = some (.e i)
  let Fp : Hp := fun a => if L a then H a else F a
  have s1 : Same F Fp := fun a o e => by
    show (if L a then H a else F a) = some o
    by_cases h : L a
    · rw [if_pos h]; exact g.ext.s a o e
    · rw [if_neg h]; exact e
  have s2 : Same Fp H := fun a o e => by
    have e' : (if L a then H a else F a) = some o := e
    by_cases h : L a
    · rw [if_pos h] at e'; exact e'
    · rw [if_neg h] at e'; exact g.ext.s a o e'
  refine ⟨Fp, s1, s2, fun a h => ?_, fun a us hw e => ?_, ExtE.refl s2, ⟨Nat.le_trans b.1 g.env.1, fun i S' e => ?_⟩, trivial, fun a l e => by cases e⟩
  · show (if L a then H a else F a) = F a
    rw [if_neg]
    rintro ⟨i, S, _, _, e⟩
    rw [h] at e; cases e
  · have e' : (if L a then H a else F a) = some (.tup us) := e
    by_cases h : L a
    · rw [if_pos h] at e'
      obtain ⟨i, S, e1, n, e2⟩ := h
      obtain ⟨v, _, hS⟩ := g.env.2 i S e1
      exact n F H _ v hS a e2 us e'
    · rw [if_neg h] at e'
      obtain ⟨l, el⟩ := ne_some hw
      rw [(g.own a l el).1] at e'; cases e'
  · rcases b.2 i S' e with ⟨q, rfl, e2⟩ | ⟨S, q, rfl, e2, z, n⟩
    · obtain ⟨v, e3, e4⟩ := g.env.2 i _ e2
      exact ⟨v, e3, q.mono s1 e4⟩
    · obtain ⟨v, e3, e4⟩ := g.env.2 i _ e2
      refine ⟨v, e3, z F H _ v e4 (fun a ha => (g.own a _ ha).1) Fp s1 fun a ha => ?_⟩
      show (if L a then H a else F a) = H a
      rw [if_pos ⟨i, S, e2, n, ha⟩]
theorem GG.unbrw {st : List SP} {σ : L2.St} {vs : List V} {H F H' Fp F' : Hp} {w : Ow} (g : GG E env st σ vs H F w) (s1 : Same F Fp) (h1 : ∀ a, w a = none → Fp a = F a) (h2 : ∀ a us, w a ≠ none → Fp a ≠ some (.tup us)) (u : Ext Fp H (fun _ => False) F' H') :
    ∃ F2, GG E env st σ vs H' F2 w ∧ (∀ a, F' a = none → F2 a = none) ∧ (∀ a us, F' a = some (.tup us) → F2 a = some (.tup us)) ∧ ∀ a, w a = none → F2 a = F' a := by
  classical
  refine ⟨fun a => if w a = none then F' a else none, g.grow ⟨fun a o e => ?_, fun a o e => ?_, u.h, fun a h => ?_, u.t⟩, fun a e => ?_, fun a us e => ?_, fun a h => if_pos h⟩
  · have hw : w a = none := by
      cases q : w a with
      | none => rfl
      | some l => have := (g.own a l q).1; rw [this] at e; cases e
    show (if w a = none then F' a else none) = some o
    rw [if_pos hw]
    exact u.f a o (s1 a o e)
  · have e' : (if w a = none then F' a else none) = some o := e
    by_cases hw : w a = none
    · rw [if_pos hw] at e'; exact u.s a o e'
    · rw [if_neg hw] at e'; cases e'
  · show (if w a = none then F' a else none) = F a
    by_cases hw : w a = none
    · rw [if_pos hw, u.n a h, h1 a hw]
    · rw [if_neg hw]
      obtain ⟨l, e⟩ := ne_some hw
      exact (g.own a l e).1.symm
  · show (if w a = none then F' a else none) = none
    by_cases hw : w a = none
    · rw [if_pos hw]; exact e
    · rw [if_neg hw]
  · show (if w a = none then F' a else none) = some (.tup us)
    by_cases hw : w a = none
    · rw [if_pos hw]; exact e
    · obtain ⟨l, el⟩ := ne_some hw
      have e3 := u.n a (g.own a l el).2.1
      rw [e] at e3
      exact absurd e3.symm (h2 a us hw)
/-- new things N of one's own come to the top -/
theorem GG.addTop {st : List SP} {σ : L2.St} {vs : List V} {H F : Hp} {w : Ow} {N : Addr → Prop} {S : SP} {v : V} (g : GG E env st σ vs H F w) (hN : ∀ a, N a → w a = none ∧ F a = none ∧ H a ≠ none ∧ E.H a = none) (h : S.ok F H N v) :
    GG E env (S :: st) σ (v :: vs) H F (w.put (.s st.length) N) := by
  have hN2 : ∀ a, N a → w a = none ∨ w a = some (Lb.s st.length) := fun a z => .inl (hN a z).1
  refine ⟨g.ext, g.env.step (M := fun _ => False) (Ext.refl g.ext.s) fun i S _ a => ⟨Ow.put_ne (by intro z; cases z) hN2 a, fun e => ⟨fun z => z, (g.own a _ e).2.1⟩⟩, ⟨by rw [Ow.put_of]; exact h, g.st.step (M := fun _ => False) (Ext.refl g.ext.s) fun i hi a => ⟨Ow.put_ne (by intro z; injection z with z; omega) hN2 a, fun e => ⟨fun z => z, (g.own a _ e).2.1⟩⟩⟩, fun a l e => ?_⟩
  rcases Ow.put_sub e with z | z
  · obtain ⟨_, z2, z3, z4⟩ := hN a z
    exact ⟨z2, z3, .inl z4⟩
  · exact g.own a l z
theorem ev_brwN {env' : En} {T : Ty α} {m : Option α} (fl : Nb T) (b : Brw env env') (h : ∀ F H, EV (.mk0 F H) env' te m (val T)) : EV E env te m (val T) := by
  intro st vs σ H Q x ⟨F, w, g⟩ hm hq
  obtain ⟨Fp, s1, s2, h1, h2, g1⟩ := g.brw b
  refine h Fp H [] [] σ H Q x ⟨Fp, _, g1⟩ hm fun v H' ⟨F', w', g'⟩ => ?_
  obtain ⟨F2, g2, hF2, hF3, _⟩ := g.unbrw s1 h1 h2 g'.ext.to0
  exact hq v H' ⟨F2, w, g2.pushV (fl _ _ _ _ hF3 g'.top)⟩
theorem tx_brw {env' : En} {m : Option Bool} (b : Brw env env') (h : ∀ F H, TX (.mk0 F H) env' tt m) : TX E env tt m := by
  intro st vs σ H Q x ⟨F, w, g⟩ hm hq
  obtain ⟨Fp, s1, s2, h1, h2, g1⟩ := g.brw b
  refine h Fp H [] [] σ H Q x ⟨Fp, _, g1⟩ hm fun H' ⟨F', w', g'⟩ => ?_
  obtain ⟨F2, g2, hF2, _⟩ := g.unbrw s1 h1 h2 g'.ext.to0
  exact hq H' ⟨F2, w, g2⟩
/-- a new list, made of read things -/
theorem ev_brwON {env' : En} {T : Ty α} {m : Option (List α)} (fl : Nb T) (b : Brw env env') (h : ∀ F H, EV (.mk0 F H) env' te m (own T)) : EV E env te m (own T) := by
  intro st vs σ H Q x ⟨F, w, g⟩ hm hq
  obtain ⟨Fp, s1, s2, h1, h2, g1⟩ := g.brw b
  refine h Fp H [] [] σ H Q x ⟨Fp, _, g1⟩ hm fun v H' ⟨F', w', g'⟩ => ?_
  obtain ⟨F2, g2, hF2, hF3, _⟩ := g.unbrw s1 h1 h2 g'.ext.to0
  obtain ⟨a, us, rfl, hf, ho, hh, p⟩ := g'.st.1
  have wa : w' a = some (.s 0) := (ho a).mpr rfl
  obtain ⟨q1, q2, q3⟩ := g'.own a _ wa
  have hHa : H a = none := by
    rcases q3 with z | z
    · exact z
    · exact z.elim
  have wna : w a = none := by
    cases e : w a with
    | none => rfl
    | some l => exact absurd hHa (g.own a l e).2.1
  exact hq _ H' ⟨F2, _, g2.addTop (N := fun b => b = a) (fun b z => by rw [z]; exact ⟨wna, hF2 a q1, q2, g.ext.t a hHa⟩) ⟨a, us, rfl, trivial, fun b => Iff.rfl, hh, Paired.mono p fun _ _ => fl _ _ _ _ hF3⟩⟩
/-! ### a def's promise -/
/-- from values to a value: As the arguments' slots, f the plain function, R the result's slot -/
def spF {A : Type} (As : A → List VP) (f : A → Option ρ) (R : ρ → SP) : Sp := fun vs H Q _ => ∃ (a : A) (r : ρ) (F : Hp), Same F H ∧ StOk F H (fun _ => none) ((As a).map VP.sp).reverse vs.reverse ∧ f a = some r ∧ ∀ v H', G (.mk0 F H) [] [R r] [] [v] H' → Q v H'
theorem spF_len {A : Type} {As : A → List VP} {f : A → Option ρ} {R : ρ → SP} {vs : List V} {H : Hp} {Q : VK} {X : XK} {n : Nat} (h : spF As f R vs H Q X) (hn : ∀ a, (As a).length = n) : vs.length = n := by
  obtain ⟨a, r, F, s, st, _⟩ := h
  have := st.len
  simp at this
  rw [← this, hn]
theorem StOk.novals {F H : Hp} {w w' : Ow} : ∀ {qs : List VP} {vs : List V} {st : List SP} {us : List V}, StOk F H w (qs.map VP.sp ++ st) (vs ++ us) → vs.length = qs.length → StOk F H w' (qs.map VP.sp) vs
  | [], [], _, _, _, _ => trivial
  | q :: qs, v :: vs, _, _, h, e => ⟨h.1, StOk.novals (qs := qs) (vs := vs) h.2 (by simpa using e)⟩
  | [], _ :: _, _, _, _, e => by simp at e
  | _ :: _, [], _, _, _, e => by simp at e
theorem GG.drop {st : List SP} {σ : L2.St} {vs : List V} {H F : Hp} {w : Ow} : ∀ {st1 : List SP} {vs1 : List V}, st1.length = vs1.length → GG E env (st1 ++ st) σ (vs1 ++ vs) H F w → GG E env st σ vs H F w
  | [], [], _, g => g
  | _ :: st1, _ :: vs1, e, g => GG.drop (st1 := st1) (vs1 := vs1) (by simpa using e) g.pop
  | [], _ :: _, e, _ => by simp at e
  | _ :: _, [], e, _ => by simp at e
/-- f(e, ..) -/
theorem ev_call {A : Type} {As : A → List VP} {f : A → Option ρ} {R : ρ → SP} {X : XK} {ta : TA} {m : Option ρ} (ha : AX E env ta [] m fun c Ss => ∃ a, Ss = ((As a).map VP.sp).reverse ∧ f a = some c) : EV E env (tCall (spF As f R) [] X ta) m R := by
  intro st vs σ H Q c gg hm hq
  refine ha st vs [] σ H _ c gg rfl hm fun us H' Ss ⟨a, hs, hf⟩ hl ⟨F, w, g⟩ => ?_
  subst hs
  rw [List.append_nil]
  rw [List.append_nil] at g
  rw [List.nil_append] at hl
  have hl2 : us.reverse.length = ((As a).map VP.sp).reverse.length := by rw [hl, List.length_reverse]
  refine ⟨a, c, F, g.ext.s, ?_, hf, fun v H2 ⟨F2, w2, g2⟩ => ?_⟩
  · have z := g.st
    rw [← List.map_reverse] at z ⊢
    exact StOk.novals z (by simpa using hl2)
  · have g3 := (g.drop hl2.symm).grow (F' := F2) (H' := H2) g2.ext.to0
    refine hq v H2 ⟨F2, _, g3.addTop (N := w2.of (.s 0)) (fun b z => ?_) g2.st.1⟩
    obtain ⟨z1, z2, z3⟩ := g2.own b _ z
    have z4 : H' b = none := by
      rcases z3 with z | z
      · exact z
      · exact z.elim
    refine ⟨?_, z1, z2, g.ext.t b z4⟩
    cases e : w b with
    | none => rfl
    | some l => exact absurd z4 (g.own b l e).2.1
/-- the body's names at the entry -/
def enter (n : Nat) (qs : List VP) : En := qs.map (fun q => some q.sp) ++ List.replicate (n - qs.length) none
theorem StOk.nth {F H : Hp} {w : Ow} : ∀ {qs : List VP} {vs : List V}, StOk F H w (qs.map VP.sp).reverse vs.reverse → ∀ (i : Nat) (q : VP), qs[i]? = some q → ∃ v, vs[i]? = some v ∧ q.p F v := by
  intro qs vs h i q e
  have hl : qs.length = vs.length := by simpa using h.len
  have key : ∀ {qs : List VP} {vs : List V}, StOk F H w (qs.map VP.sp) vs → ∀ (i : Nat) (q : VP), qs[i]? = some q → ∃ v, vs[i]? = some v ∧ q.p F v := by
    intro qs
    induction qs with
    | nil => intro vs h i q e; simp at e
    | cons x qs ih => intro vs h i q e; cases vs with
      | nil => exact h.elim
      | cons v vs => cases i with
        | zero => exact ⟨v, rfl, by have z := Option.some.inj (by simpa using e : some x = some q); rw [← z]; exact h.1⟩
        | succ i =>
          obtain ⟨u, e1, e2⟩ := ih h.2 i q (by simpa using e)
          exact ⟨u, by simpa using e1, e2⟩
  have hi : i < qs.length := (List.getElem?_eq_some_iff.mp e).1
  obtain ⟨v, e1, e2⟩ := key (qs := qs.reverse) (vs := vs.reverse) (by rw [List.map_reverse]; exact h) (qs.length - 1 - i) q (by rw [List.getElem?_reverse (by omega), show qs.length - 1 - (qs.length - 1 - i) = i by omega]; exact e)
  refine ⟨v, ?_, e2⟩
  rw [List.getElem?_reverse (by omega), show vs.length - 1 - (qs.length - 1 - i) = i by omega] at e1
  exact e1
/-- THE RULE for a def's body -/
theorem run_F {A : Type} {As : A → List VP} {f : A → Option ρ} {R : ρ → SP} {eR : ρ → En} {N : List Str} {vs : List V} {H : Hp} {Q : VK} {X : XK} {D : Ends} (h : spF As f R vs H Q X) (hn : ∀ a, (As a).length ≤ N.length) (hD : D.rt = Q)
    (hb : ∀ (a : A) (F H : Hp), BK (.mk0 F H) (enter N.length (As a)) t (f a) (pR (.mk0 F H) R eR)) : t D (L2.start N vs) H := by
  obtain ⟨a, r, F, s, hst, hf, q⟩ := h
  have hl : (As a).length = vs.length := by simpa using hst.len
  have g : GG (.mk0 F H) (enter N.length (As a)) [] (L2.start N vs) [] H F (fun _ => none) := by
    refine ⟨ExtE.refl s, ⟨by simp [enter, L2.start, hl], fun i S e => ?_⟩, trivial, fun a l e => by cases e⟩
    unfold enter at e
    by_cases hi : i < (As a).length
    · rw [List.getElem?_append_left (by simpa using hi)] at e
      rw [List.getElem?_map] at e
      obtain ⟨q, e1, e2⟩ := Option.map_eq_some_iff.mp e
      obtain ⟨v, e3, e4⟩ := hst.nth i q e1
      cases e2
      refine ⟨v, ?_, e4⟩
      unfold L2.start
      rw [List.getElem?_append_left (by simp; omega), List.getElem?_map, e3]
      rfl
    · rw [List.getElem?_append_right (by simp; omega)] at e
      have := List.mem_of_getElem? e
      simp at this
  refine hb a F H [] [] (L2.start N vs) H D r ⟨F, _, g⟩ hf fun v σ' H' ⟨F', w', g'⟩ => ?_
  rw [hD]
  exact q v H' ⟨F', w', ⟨g'.ext, ⟨Nat.zero_le _, fun i S e => by simp at e⟩, g'.st, g'.own⟩⟩
/-- names forgotten, all -/
theorem fgt_nil : Fgt env [] := ⟨Nat.zero_le _, fun i S e => by simp at e⟩
/-! ### the law's end -/
theorem spF_law {K : PySem.W.Frag} {f : List Int → Option Bool} {H : Hp} {a : Addr} {ns : List Int} (hS : SqL K H a (ns.map V.int)) (hf : f ns = some true) : spF (fun ns => [vp (tS K tInt) ns]) f (val tBool) [.ref a] H (fun v _ => v = .bl true) fun _ _ _ => False := by
  refine ⟨ns, true, H, Same.refl H, ⟨⟨a, _, rfl, hS, ?_⟩, trivial⟩, hf, fun v H' ⟨F, w, g⟩ => g.top⟩
  clear hS hf
  induction ns with
  | nil => exact .nil
  | cons n ns ih => exact .cons rfl ih
/-! ### comprehensions -/
def mapO {α β : Type} : List α → (α → Option β) → Option (List β)
  | [], _ => some []
  | x :: xs, f => (f x).bind fun y => (mapO xs f).bind fun ys => some (y :: ys)
def filO {α β : Type} : List α → (α → Option Bool) → (α → Option β) → Option (List β)
  | [], _, _ => some []
  | x :: xs, t, f => (t x).bind fun b => if b = true then (f x).bind fun y => (filO xs t f).bind fun ys => some (y :: ys) else filO xs t f
theorem mapO_filO {α β : Type} (f : α → Option β) : ∀ xs : List α, mapO xs f = filO xs (fun _ => some true) f
  | [] => rfl
  | x :: xs => by
    unfold mapO filO
    rw [mapO_filO f xs]
    rfl
/-- the item goes to the comprehension's own names ws -/
def AC (E : Ent) (env : En) (ws : List Nat) (g : TG) (S : SP) (env' : En) : Prop :=
  ∀ (st : List SP) (vs : List V) (σ : L2.St) (H : Hp) (Q : L2.St → Hp → Prop) (v : V), G E env (S :: st) σ (v :: vs) H → (∀ σ' H', wipe σ' ws = wipe σ ws → G E env' st σ' vs H' → Q σ' H') → g v σ H Q
theorem wipe_set {σ : L2.St} {i : Nat} {x : Option V} : ∀ {ws : List Nat}, i ∈ ws → wipe (σ.set i x) ws = wipe σ ws
  | [], h => by simp at h
  | w :: ws, h => by
    show (wipe (σ.set i x) ws).set w none = (wipe σ ws).set w none
    by_cases hw : i ∈ ws
    · rw [wipe_set hw]
    · have hi : i = w := by simpa [hw] using h
      subst hi
      have key : ∀ ws : List Nat, i ∉ ws → wipe (σ.set i x) ws = (wipe σ ws).set i x := by
        intro ws
        induction ws with
        | nil => intro _; rfl
        | cons a ws ih =>
          intro h
          simp only [List.mem_cons, not_or] at h
          show (wipe (σ.set i x) ws).set a none = ((wipe σ ws).set a none).set i x
          rw [ih h.2, List.set_comm _ _ (fun e => h.1 e)]
      rw [key ws hw, List.set_set]
theorem wipe_wipe {σ : L2.St} : ∀ {ws us : List Nat}, (∀ i ∈ us, i ∈ ws) → wipe (wipe σ us) ws = wipe σ ws
  | ws, [], _ => rfl
  | ws, u :: us, h => by
    show wipe ((wipe σ us).set u none) ws = wipe σ ws
    rw [wipe_set (h u (by simp)), wipe_wipe fun i hi => h i (by simp [hi])]
theorem ac_name {i : Nat} {S : SP} {ws : List Nat} (hi : Nat.ble (i + 1) env.length = true := by rfl) (hw : i ∈ ws := by simp) : AC E env ws (gName i) S (env.set i (some S)) := by
  intro st vs σ H Q v ⟨F, w, g⟩ hq
  obtain ⟨w', g2⟩ := g.store (Nat.le_of_ble_eq_true hi)
  exact hq _ H (wipe_set hw) ⟨F, w', g2⟩
theorem ac_pair {K : PySem.W.Frag} {i j : Nat} {T : Ty α} {U : Ty β} {p : α × β} {ws : List Nat} (hi : Nat.ble (i + 1) env.length = true := by rfl) (hj : Nat.ble (j + 1) env.length = true := by rfl) (hw : i ∈ ws := by simp) (hw2 : j ∈ ws := by simp) :
    AC E env ws (gTup K 2 (gCons (gName i) (gCons (gName j) gNil))) (val (tP T U) p) ((env.set i (some (val T p.1))).set j (some (val U p.2))) := by
  intro st vs σ H Q v ⟨F, w, g⟩ hq
  obtain ⟨a, x, y, e, h, h1, h2⟩ := g.top
  refine ⟨a, [x, y], e, .of (g.ext.s _ _ h), rfl, x, [y], rfl, y, [], rfl, rfl, ?_⟩
  obtain ⟨w1, g1⟩ := (g.pop.pushV h1).store (i := i) (Nat.le_of_ble_eq_true hi)
  obtain ⟨w2, g2⟩ := (g1.pushV h2).store (i := j) (by rw [List.length_set]; exact Nat.le_of_ble_eq_true hj)
  refine hq _ H ?_ ⟨F, w2, g2⟩
  rw [wipe_set hw2, wipe_set hw]
/-- the comprehension's own names are not told outside -/
def NoW (env : En) (ws : List Nat) : Prop := ∀ i ∈ ws, ∀ S, env[i]? ≠ some (some S)
theorem G.wiped {ws : List Nat} {st : List SP} {σ : L2.St} {vs : List V} {H : Hp} (hw : NoW env ws) : G E env st σ vs H ↔ G E env st (wipe σ ws) vs H := by
  have key : ∀ σ σ' : L2.St, σ.length = σ'.length → (∀ i, i ∉ ws → σ'[i]? = σ[i]?) → G E env st σ vs H → G E env st σ' vs H := by
    intro σ σ' hl he ⟨F, w, g⟩
    refine ⟨F, w, g.re (fun a l e => ⟨l, e⟩) ⟨by rw [← hl]; exact g.env.1, fun i S e => ?_⟩ g.st⟩
    obtain ⟨v, e1, e2⟩ := g.env.2 i S e
    refine ⟨v, ?_, e2⟩
    rw [he i (fun hi => hw i hi S e)]
    exact e1
  exact ⟨key _ _ (wipe_length σ ws).symm fun i hi => wipe_out hi, key _ _ (wipe_length σ ws) fun i hi => (wipe_out hi).symm⟩
theorem ev_lc {wi : TI} {g : TG} {ws : List Nat} {mx : Option (List α)} {S : α → SP} {eX : α → En} {T : Ty β} {t : α → Option Bool} {f : α → Option β} (hi : IX E env wi mx S) (hw : NoW env ws) (hg : ∀ x, AC E env ws g (S x) (eX x)) (hX : ∀ x, Fgt (eX x) env) (ht : ∀ x, TX E (eX x) tt (t x)) (he : ∀ x, EV E (eX x) te (f x) (val T)) :
    EV E env (tLc wi g tt te ws) (mx.bind fun xs => grd (xs.length ≤ 16777216) (filO xs t f)) (own T) := by
  intro st vs σ H Q c gg hm hq
  obtain ⟨xs, exs, hm⟩ := Option.bind_eq_some_iff.mp hm
  obtain ⟨hlen, hm⟩ := grd_some hm
  refine hi st vs σ H _ xs gg exs fun J Z v H1 wk ⟨F1, w1, g1⟩ D hD => ?_
  have g0 : G E env (own T [] :: Z :: st) σ (.ref D :: v :: vs) (upd H1 D (.lst [])) := ⟨F1, _, g1.pushO hD ⟨D, [], rfl, trivial, fun b => Iff.rfl, upd_same, .nil⟩⟩
  refine ⟨fun i m H' => m = xs.length - i ∧ ∃ acc ys, G E env (own T acc :: Z :: st) σ (.ref D :: v :: vs) H' ∧ acc.length ≤ i ∧ filO (xs.drop i) t f = some ys ∧ acc ++ ys = c, ⟨_, rfl, [], c, g0, Nat.le_refl _, by simpa using hm, rfl⟩, ?_⟩
  rintro i m H' ⟨rfl, acc, ys, g2, hacc, e, ec⟩
  obtain ⟨k1, k2⟩ := wk E env [own T acc] st σ [.ref D] vs H' i rfl g2
  cases hd : xs.drop i with
  | nil =>
    rw [hd] at e
    cases e
    rw [List.append_nil] at ec
    subst ec
    exact .inl ⟨k2 (drop_nil hd), hq _ _ g2.nip⟩
  | cons x r =>
    rw [hd] at e
    obtain ⟨d1, d2⟩ := drop_cons hd
    have hlt : i < xs.length := (List.getElem?_eq_some_iff.mp d1).1
    obtain ⟨k3, k4⟩ := k1 x d1
    obtain ⟨b, eb, e⟩ := Option.bind_eq_some_iff.mp (show ((t x).bind fun b => if b = true then (f x).bind fun y => (filO r t f).bind fun ys => some (y :: ys) else filO r t f) = some ys from e)
    refine .inr ⟨k3, fun H'' => ∃ m', m' < xs.length - i ∧ m' = xs.length - (i + 1) ∧ ∃ acc ys, G E env (own T acc :: Z :: st) σ (.ref D :: v :: vs) H'' ∧ acc.length ≤ i + 1 ∧ filO (xs.drop (i + 1)) t f = some ys ∧ acc ++ ys = c, fun H'' ⟨m', h1, h2, h3⟩ => ⟨m', h1, h2, h3⟩, fun xv H'' hy => ?_⟩
    have g3 := k4 xv H'' hy
    refine hg x _ _ _ H'' _ xv ((G.wiped hw).mp g3) fun σ2 H2 hσ g4 => ⟨by rw [hσ, wipe_wipe fun i hi => hi], ?_⟩
    have back : ∀ {st' : List SP} {vs' : List V} {H' : Hp}, G E (eX x) st' σ2 vs' H' → G E env st' σ vs' H' := fun g => (G.wiped hw).mpr (by
      have z := (G.wiped hw).mp (g.fgt (hX x))
      rw [hσ, wipe_wipe fun i hi => hi] at z
      exact z)
    refine ht x _ _ σ2 H2 _ b g4 eb fun H3 g5 => ?_
    cases b with
    | false =>
      exact ⟨_, by omega, rfl, acc, ys, back g5, by omega, by rw [d2]; exact e, ec⟩
    | true =>
      obtain ⟨y, ey, e⟩ := Option.bind_eq_some_iff.mp e
      obtain ⟨ys', ey', e⟩ := Option.bind_eq_some_iff.mp e
      have e' : y :: ys' = ys := Option.some.inj e
      refine he x _ _ σ2 H3 _ y g5 ey fun yv H4 g6 => ?_
      obtain ⟨F6, w6, g6⟩ := back g6
      -- own D below the new value
      have hy := g6.top
      obtain ⟨a, us, ea, hf, ho, hh, p⟩ := g6.pop.st.1
      cases ea
      refine ⟨us, hh, by rw [p.length, sizeLine_eq]; omega, ?_⟩
      have wD : w6 D = some (.s (Z :: st).length) := (ho D).mpr rfl
      obtain ⟨q1, q2, q3⟩ := g6.own D _ wD
      have u := Ext.chg (o := .lst (us ++ [yv])) g6.ext.s q1
      refine ⟨_, by omega, rfl, acc ++ [y], ys', ⟨F6, w6, g6.step u (fun b hb => ⟨.s (Z :: st).length, by rw [hb]; exact wD⟩) (fun b l e => .inl ⟨l, e⟩) (g6.env.step u fun k S _ b => ⟨Iff.rfl, fun e => ⟨fun z => ?_, (g6.own b _ e).2.1⟩⟩) ⟨⟨D, us ++ [yv], rfl, hf, ho, upd_same, Paired.snoc p hy⟩, ?_⟩⟩, by simp; omega, by rw [d2]; exact ey', by rw [← ec, ← e']; simp⟩
      · rw [z, wD] at e; cases e
      · exact g6.pop.pop.st.step u fun k hk b => ⟨Iff.rfl, fun e => ⟨fun z => by rw [z, wD] at e; injection e with e; injection e with e; have e2 : (Z :: st).length = k := e; have hk2 : k < (Z :: st).length := hk; omega, (g6.own b _ e).2.1⟩⟩
theorem ev_lc1 {wi : TI} {g : TG} {ws : List Nat} {mx : Option (List α)} {S : α → SP} {eX : α → En} {T : Ty β} {f : α → Option β} (hi : IX E env wi mx S) (hw : NoW env ws) (hg : ∀ x, AC E env ws g (S x) (eX x)) (hX : ∀ x, Fgt (eX x) env) (he : ∀ x, EV E (eX x) te (f x) (val T)) :
    EV E env (tLc wi g tYes te ws) (mx.bind fun xs => grd (xs.length ≤ 16777216) (mapO xs f)) (own T) := by
  have h := ev_lc (tt := tYes) (t := fun _ => some true) hi hw hg hX (fun x => fun st vs σ H Q b gg hm hq => by cases hm; exact hq H gg) he
  have e : (fun xs : List α => grd (xs.length ≤ 16777216) (filO xs (fun _ => some true) f)) = fun xs => grd (xs.length ≤ 16777216) (mapO xs f) := funext fun xs => by rw [mapO_filO]
  rw [e] at h
  exact h
end
end ML

set_option Elab.async false
set_option linter.all false
set_option maxRecDepth 100000
set_option maxHeartbeats 2000000
namespace ML
open PySem PySem.Spec PyProof.Rows L2

section
variable {α β γ δ ρ τ : Type} {E : Ent} {env env' : En} {te ta tb tc ti : TE} {tt : TT} {u t t1 t2 : TS} {post : Post γ}
/-! ### small constructors -/
theorem fgt_0 : Fgt [] [] := Fgt.refl []
theorem fgt_c {a : Option SP} (h : Fgt env env') : Fgt (a :: env) (a :: env') := ⟨Nat.succ_le_succ h.1, fun i S e => by
  cases i with
  | zero => exact ⟨S, e, fun _ _ _ _ h => h⟩
  | succ i => exact h.2 i S e⟩
theorem fgt_n {a : Option SP} (h : Fgt env env') : Fgt (a :: env) (none :: env') := ⟨Nat.succ_le_succ h.1, fun i S e => by
  cases i with
  | zero => cases e
  | succ i => exact h.2 i S e⟩
theorem fgt_w {S0 S1 : SP} (k : ∀ F H o v, S0.ok F H o v → S1.ok F H o v) (h : Fgt env env') : Fgt (some S0 :: env) (some S1 :: env') := ⟨Nat.succ_le_succ h.1, fun i S e => by
  cases i with
  | zero => cases e; exact ⟨S0, rfl, k⟩
  | succ i => exact h.2 i S e⟩
theorem brw_0 : Brw [] [] := ⟨Nat.le_refl _, fun i S e => by simp at e⟩
theorem brw_n {a : Option SP} (h : Brw env env') : Brw (a :: env) (none :: env') := ⟨Nat.succ_le_succ h.1, fun i S e => by
  cases i with
  | zero => cases e
  | succ i => exact h.2 i S e⟩
theorem brw_v {T : Ty α} {x : α} (h : Brw env env') : Brw (some (val T x) :: env) (some (val T x) :: env') := ⟨Nat.succ_le_succ h.1, fun i S e => by
  cases i with
  | zero => cases e; exact .inl ⟨_, rfl, rfl⟩
  | succ i => exact h.2 i S e⟩
theorem brw_s {S0 : SP} {q0 : VP} (z : Fz S0 q0) (n : NT S0) (h : Brw env env') : Brw (some S0 :: env) (some q0.sp :: env') := ⟨Nat.succ_le_succ h.1, fun i S e => by
  cases i with
  | zero => cases e; exact .inr ⟨_, _, rfl, rfl, z, n⟩
  | succ i => exact h.2 i S e⟩
theorem brw_o {φ : V → Prop} {T : Ty α} {xs : List α} (h : Brw env env') : Brw (some (muL φ T xs) :: env) (some (val (tL T) xs) :: env') := brw_s fz_mu nt_mu h
/-- the inferred mirror is this one -/
theorem bk_eq {m m' : Option γ} (h : BK E env t m post) (e : m = m') : BK E env t m' post := e ▸ h
theorem ev_eq {m m' : Option α} {S : α → SP} (h : EV E env te m S) (e : m = m') : EV E env te m' S := e ▸ h
/-! ### more operators -/
theorem Paired.app {α β : Type} {f : α → β → Prop} : ∀ {l1 l2 : List α} {m1 m2 : List β}, Paired f l1 m1 → Paired f l2 m2 → Paired f (l1 ++ l2) (m1 ++ m2)
  | _, _, _, _, .nil, s => s
  | _, _, _, _, .cons r t, s => .cons r (Paired.app t s)
theorem o2_cat {T : Ty α} {xs ys : List α} : O2 rCat (val (tL T) xs) (val (tL T) ys) (grd (xs.length + ys.length ≤ 16777216) (some (xs ++ ys))) (own T) := by
  intro E env st σ vs H Q va vb c ⟨F, w, g⟩ hm hq
  obtain ⟨hl, hm⟩ := grd_some hm
  cases hm
  obtain ⟨b, zs, eb, hb, pb⟩ := g.top
  obtain ⟨a, us, ea, ha, pa⟩ := g.pop.top
  refine ⟨a, b, us, zs, ea, eb, g.ext.s _ _ ha, g.ext.s _ _ hb, by rw [pa.length, pb.length, sizeLine_eq]; exact hl, fun p hp => hq _ _ ⟨F, _, g.pop.pop.pushO hp ⟨p, _, rfl, trivial, fun b => Iff.rfl, upd_same, ?_⟩⟩⟩
  exact ML.Paired.app pa pb
theorem o1_int {a : Int} : O1 (fun v H Q => (∃ i, [v] = [V.int i] ∧ Q (.int i) H) ∨ ∃ k, [v] = [V.bl k] ∧ Q (.int (if k then 1 else 0)) H) (val tInt a) (some a) (val tInt) := o1_mk fun c hm F H Q va s ha hq => by
  cases hm
  exact .inl ⟨a, by rw [show va = V.int a from ha], hq _ rfl⟩
theorem o1_intB {a : Bool} : O1 (fun v H Q => (∃ i, [v] = [V.int i] ∧ Q (.int i) H) ∨ ∃ k, [v] = [V.bl k] ∧ Q (.int (if k then 1 else 0)) H) (val tBool a) (some (if a then 1 else 0)) (val tInt) := o1_mk fun c hm F H Q va s ha hq => by
  cases hm
  refine .inr ⟨a, by rw [show va = V.bl a from ha], hq _ ?_⟩
  cases a <;> rfl
theorem o2_max {a b : Int} : O2 (fun v u H Q => ∃ i j, [v, u] = [V.int i, V.int j] ∧ Q (.int (if j > i then j else i)) H) (val tInt a) (val tInt b) (some (if b > a then b else a)) (val tInt) := o2_mk fun c hm F H Q va vb s ha hb hq => by
  cases hm
  exact ⟨a, b, by rw [show va = V.int a from ha, show vb = V.int b from hb], hq _ rfl⟩
theorem o2_min {a b : Int} : O2 (fun v u H Q => ∃ i j, [v, u] = [V.int i, V.int j] ∧ Q (.int (if j < i then j else i)) H) (val tInt a) (val tInt b) (some (if b < a then b else a)) (val tInt) := o2_mk fun c hm F H Q va vb s ha hb hq => by
  cases hm
  exact ⟨a, b, by rw [show va = V.int a from ha, show vb = V.int b from hb], hq _ rfl⟩
theorem o1_abs {a : Int} : O1 (fun v H Q => ∃ i, [v] = [V.int i] ∧ Q (.int (if i < 0 then -i else i)) H) (val tInt a) (some (if a < 0 then -a else a)) (val tInt) := o1_mk fun c hm F H Q va s ha hq => by
  cases hm
  exact ⟨a, by rw [show va = V.int a from ha], hq _ rfl⟩
/-- is None, is not None -/
theorem o2_isN {T : Ty α} {x : Option α} (hn : ∀ F y, ¬ T.rp F .non y) : O2 (fun x y H Q => y = .non ∧ Q (.bl (decide (x = .non))) H) (val (tOpt T) x) (val tNon ()) (some x.isNone) (val tBool) := o2_mk fun c hm F H Q va vb s ha hb hq => by
  cases hm
  refine ⟨hb, hq _ ?_⟩
  cases x with
  | none => rw [show va = V.non from ha]; rfl
  | some y =>
    have : va ≠ .non := fun z => hn F y (by rw [← z]; exact ha)
    show V.bl _ = V.bl _
    rw [decide_eq_false this]
    rfl
theorem o2_notN {T : Ty α} {x : Option α} (hn : ∀ F y, ¬ T.rp F .non y) : O2 (fun x y H Q => y = .non ∧ Q (.bl (!decide (x = .non))) H) (val (tOpt T) x) (val tNon ()) (some x.isSome) (val tBool) := o2_mk fun c hm F H Q va vb s ha hb hq => by
  cases hm
  refine ⟨hb, hq _ ?_⟩
  cases x with
  | none => rw [show va = V.non from ha]; rfl
  | some y =>
    have : va ≠ .non := fun z => hn F y (by rw [← z]; exact ha)
    show V.bl _ = V.bl _
    rw [decide_eq_false this]
    rfl
theorem nn_int : ∀ (F : Hp) (y : Int), ¬ tInt.rp F .non y := fun _ _ h => by cases h
theorem nn_str : ∀ (F : Hp) (y : Str), ¬ tStr.rp F .non y := fun _ _ h => by cases h
theorem nn_L {T : Ty α} : ∀ (F : Hp) (y : List α), ¬ (tL T).rp F .non y := fun _ _ ⟨_, _, h, _⟩ => by cases h
theorem nn_P {T : Ty α} {U : Ty β} : ∀ (F : Hp) (y : α × β), ¬ (tP T U).rp F .non y := fun _ _ ⟨_, _, _, h, _⟩ => by cases h
/-- a value that is not None -/
theorem ev_some {T : Ty α} {m : Option α} (h : EV E env te m (val T)) : EV E env te (m.map some) (val (tOpt T)) := ev_as h fun x F H o v h => h
/-- isinstance of a value whose kind is known -/
def tCls : Ty String := ⟨fun _ v n => v = .ty n, fun _ h => h⟩
theorem ev_ty {n : String} : EV E env (tC (.ty n)) (some n) (val tCls) := ev_c fun _ => rfl
theorem o2_isi {K : PySem.W.Frag} {T : Ty α} {x : α} {n a : String} {b : Bool} (ht : ∀ F v, T.rp F v x → TyX K F v (.type a)) (hk : kitB a n = some b) (hm : ∀ F H v, Same F H → TyX K F v (.type a) → TyX K H v (.type a)) :
    O2 (fun v u H Q => rIsi K [v, u] H Q) (val T x) (val tCls n) (some b) (val tBool) := o2_mk fun c hc F H Q va vb s ha hb hq => by
  cases hc
  refine ⟨va, vb, .type a, .type n, b, rfl, ?_, hm F H va s (ht F va ha), kit_ty hk, hq _ rfl⟩
  rw [show vb = V.ty n from hb]
  exact .ty n
theorem isi_mono {K : PySem.W.Frag} {F H : Hp} {v : V} {t : Value} (s : Same F H) (h : TyX K F v t) : TyX K H v t := by
  cases h with
  | base h =>
    refine .base ?_
    cases h with
    | non => exact .non
    | bl b => exact .bl b
    | int i => exact .int i
    | str x => exact .str x
    | flt x => exact .flt x
    | lst e => exact .lst (s _ _ e)
    | frz e => exact .frz (s _ _ e)
    | tup e => exact .tup (s _ _ e)
    | dK e => exact .dK (s _ _ e)
    | dT e => exact .dT (s _ _ e)
    | ins e a b c d f => exact .ins (s _ _ e) a b c d f
  | byt b => exact .byt b
  | set e => exact .set (s _ _ e)
  | kList e c => exact .kList e c
  | kTuple e c => exact .kTuple e c
  | kDict e c => exact .kDict e c
  | fTuple e => exact .fTuple (s _ _ e)
  | fDict e => exact .fDict (s _ _ e)
theorem ty_int {K : PySem.W.Frag} {x : Int} : ∀ F v, tInt.rp F v x → TyX K F v (.type "int") := fun F v h => by rw [show v = V.int x from h]; exact .base (.int x)
theorem ty_bool {K : PySem.W.Frag} {x : Bool} : ∀ F v, tBool.rp F v x → TyX K F v (.type "bool") := fun F v h => by rw [show v = V.bl x from h]; exact .base (.bl x)
theorem ty_str {K : PySem.W.Frag} {x : Str} : ∀ F v, tStr.rp F v x → TyX K F v (.type "str") := fun F v h => by rw [show v = V.str x from h]; exact .base (.str x)
theorem ty_L {K : PySem.W.Frag} {T : Ty α} {x : List α} : ∀ F v, (tL T).rp F v x → TyX K F v (.type "list") := fun F v ⟨a, us, e, h, _⟩ => by rw [e]; exact .base (.lst h)
theorem ty_P {K : PySem.W.Frag} {T : Ty α} {U : Ty β} {x : α × β} : ∀ F v, (tP T U).rp F v x → TyX K F v (.type "tuple") := fun F v ⟨a, _, _, e, h, _⟩ => by rw [e]; exact .base (.tup h)
theorem ty_U {K : PySem.W.Frag} {T : Ty α} {x : List α} : ∀ F v, (tU T).rp F v x → TyX K F v (.type "tuple") := fun F v ⟨a, us, e, h, _⟩ => by rw [e]; exact .base (.tup h)
theorem o2_is {K : PySem.W.Frag} {T : Ty α} {x : α} {n a : String} {b : Bool} (ht : ∀ F v, T.rp F v x → TyX K F v (.type a)) (hk : kitB a n = some b) : O2 (fun v u H Q => rIsi K [v, u] H Q) (val T x) (val tCls n) (some b) (val tBool) := o2_isi ht hk fun _ _ _ => isi_mono
/-- x is True, x is not False .. -/
theorem o2_isBB {a b : Bool} : O2 rIsB (val tBool a) (val tBool b) (some (decide (a = b))) (val tBool) := o2_mk fun c hm F H Q va vb s ha hb hq => by
  cases hm
  exact ⟨a, b, ha, hb, hq _ rfl⟩
theorem o2_isntBB {a b : Bool} : O2 rNotB (val tBool a) (val tBool b) (some (!decide (a = b))) (val tBool) := o2_mk fun c hm F H Q va vb s ha hb hq => by
  cases hm
  exact ⟨a, b, ha, hb, hq _ rfl⟩
/-- items of a pair -/
theorem o2_ixP0 {K : PySem.W.Frag} {T : Ty α} {U : Ty β} {p : α × β} : O2 (rIxT K) (val (tP T U) p) (val tInt 0) (some p.1) (val T) := o2_mk fun c hm F H Q va vb s ⟨a, x, y, e, h, h1, h2⟩ hb hq => by
  cases hm
  exact ⟨a, [x, y], 0, x, e, hb, .of (s _ _ h), rfl, hq _ h1⟩
theorem o2_ixP1 {K : PySem.W.Frag} {T : Ty α} {U : Ty β} {p : α × β} : O2 (rIxT K) (val (tP T U) p) (val tInt 1) (some p.2) (val U) := o2_mk fun c hm F H Q va vb s ⟨a, x, y, e, h, h1, h2⟩ hb hq => by
  cases hm
  exact ⟨a, [x, y], 1, y, e, hb, .of (s _ _ h), rfl, hq _ h2⟩
theorem o2_ixU {K : PySem.W.Frag} {T : Ty α} {xs : List α} {i : Int} : O2 (rIxT K) (val (tU T) xs) (val tInt i) (atI xs i) (val T) := o2_mk fun c hm F H Q va vb s ⟨a, vs, e, h, p⟩ hb hq => by
  obtain ⟨v, e1, e2⟩ := atI_paired p hm
  exact ⟨a, vs, i, v, e, hb, .of (s _ _ h), e1, hq v e2⟩
theorem o1_lenP {K : PySem.W.Frag} {T : Ty α} {U : Ty β} {p : α × β} : O1 (fun v H Q => ∃ p ys, [v] = [V.ref p] ∧ (SqL K H p ys ∨ SqT K H p ys) ∧ Q (.int ys.length) H) (val (tP T U) p) (some (2 : Int)) (val tInt) := o1_mk fun c hm F H Q va s ⟨a, x, y, e, h, _⟩ hq => by
  cases hm
  exact ⟨a, [x, y], by rw [e], .inr (.of (s _ _ h)), hq _ rfl⟩
theorem o1_lenU {K : PySem.W.Frag} {T : Ty α} {xs : List α} : O1 (fun v H Q => ∃ p ys, [v] = [V.ref p] ∧ (SqL K H p ys ∨ SqT K H p ys) ∧ Q (.int ys.length) H) (val (tU T) xs) (some (xs.length : Int)) (val tInt) := o1_mk fun c hm F H Q va s ⟨a, vs, e, h, p⟩ hq => by
  cases hm
  exact ⟨a, vs, by rw [e], .inr (.of (s _ _ h)), hq _ (by show V.int _ = V.int _; rw [p.length])⟩
/-- x op= e -/
theorem bk_aug {i : Nat} {T : Ty α} {U : Ty β} {W : Ty δ} {x : α} {m : Option β} {ti : TIp} {mc : β → Option δ} {k : δ → Option γ} (h : env[i]? = some (some (val T x))) (he : EV E env te m (val U)) (ho : ∀ b, O2 ti (val T x) (val U b) (mc b) (val W))
    (hk : ∀ y, BK E (env.set i (some (val W y))) u (k y) post) : BK E env (tSeq (tAug i te ti) u) (m.bind fun b => (mc b).bind k) post := by
  intro st vs σ H D g gg hm hq
  obtain ⟨b, eb, hm⟩ := Option.bind_eq_some_iff.mp hm
  obtain ⟨y, ey, hm⟩ := Option.bind_eq_some_iff.mp hm
  obtain ⟨F, w, g0⟩ := id gg
  obtain ⟨v, e1, e2⟩ := g0.env.2 i _ h
  have hi : i < env.length := (List.getElem?_eq_some_iff.mp h).1
  refine ⟨v, e1, he _ _ σ H _ b ⟨F, w, g0.pushV e2⟩ eb fun vb H1 g1 => ho b E env st σ vs H1 _ v vb y g1 ey fun z H2 ⟨F2, w2, g2⟩ => ?_⟩
  obtain ⟨w3, g3⟩ := g2.store hi
  exact hk y st vs _ H2 D g ⟨F2, w3, g3⟩ hm hq
theorem o2_ipI {f : Int → Int → Int} {a b : Int} : O2 (ipI f) (val tInt a) (val tInt b) (some (f a b)) (val tInt) := o2_mk fun c hm F H Q va vb s ha hb hq => by
  cases hm
  exact ⟨a, b, ha, hb, hq _ rfl⟩
end
end ML

set_option Elab.async false
set_option linter.all false
set_option maxRecDepth 100000
set_option maxHeartbeats 2000000
namespace ML
open PySem PySem.Spec PyProof.Rows L2
section
variable {α β γ δ ρ τ : Type} {E : Ent} {env env' : En} {te ta tb tc ti : TE} {tt tu : TT} {u t t1 t2 : TS} {post : Post γ}
/-! ### the same rules where parts are plain -/
theorem ev_opp {r : R2} {a : α} {b : β} {mc : Option γ} {Sa : α → SP} {Sb : β → SP} {S : γ → SP} (ha : EV E env ta (some a) Sa) (hb : EV E env tb (some b) Sb) (hr : O2 r (Sa a) (Sb b) mc S) : EV E env (tOp r ta tb) mc S := by
  intro st vs σ H Q c g hm hq
  exact ha st vs σ H _ a g rfl fun va H1 g1 => hb _ _ σ H1 _ b g1 rfl fun vb H2 g2 => hr E env st σ vs H2 Q va vb c g2 hm hq
theorem ev_opr {r : R2} {ma : Option α} {b : β} {mc : α → Option γ} {Sa : α → SP} {Sb : β → SP} {S : γ → SP} (ha : EV E env ta ma Sa) (hb : EV E env tb (some b) Sb) (hr : ∀ a, O2 r (Sa a) (Sb b) (mc a) S) : EV E env (tOp r ta tb) (ma.bind mc) S := by
  intro st vs σ H Q c g hm hq
  obtain ⟨a, ea, hm⟩ := Option.bind_eq_some_iff.mp hm
  exact ha st vs σ H _ a g ea fun va H1 g1 => hb _ _ σ H1 _ b g1 rfl fun vb H2 g2 => hr a E env st σ vs H2 Q va vb c g2 hm hq
theorem ev_opl {r : R2} {a : α} {mb : Option β} {mc : β → Option γ} {Sa : α → SP} {Sb : β → SP} {S : γ → SP} (ha : EV E env ta (some a) Sa) (hb : EV E env tb mb Sb) (hr : ∀ b, O2 r (Sa a) (Sb b) (mc b) S) : EV E env (tOp r ta tb) (mb.bind mc) S := by
  intro st vs σ H Q c g hm hq
  obtain ⟨b, eb, hm⟩ := Option.bind_eq_some_iff.mp hm
  exact ha st vs σ H _ a g rfl fun va H1 g1 => hb _ _ σ H1 _ b g1 eb fun vb H2 g2 => hr b E env st σ vs H2 Q va vb c g2 hm hq
theorem ev_opm {r : R2} {ma : Option α} {mb : Option β} {mc : α → β → Option γ} {Sa : α → SP} {Sb : β → SP} {S : γ → SP} (ha : EV E env ta ma Sa) (hb : EV E env tb mb Sb) (hr : ∀ a b, O2 r (Sa a) (Sb b) (mc a b) S) : EV E env (tOp r ta tb) (ma.bind fun a => mb.bind fun b => mc a b) S := ev_op ha (fun _ => hb) hr
theorem ev_cb1p {r : List V → Hp → VK → Prop} {a : α} {mc : Option γ} {Sa : α → SP} {S : γ → SP} (ha : EV E env ta (some a) Sa) (hr : O1 (fun v H Q => r [v] H Q) (Sa a) mc S) : EV E env (tCB r (tCons ta tNil)) mc S := by
  intro st vs σ H Q c g hm hq
  exact ha st vs σ H _ a g rfl fun va H1 g1 => hr E env st σ vs H1 Q va c g1 hm hq
theorem ev_cb2p {r : List V → Hp → VK → Prop} {a : α} {b : β} {mc : Option γ} {Sa : α → SP} {Sb : β → SP} {S : γ → SP} (ha : EV E env ta (some a) Sa) (hb : EV E env tb (some b) Sb) (hr : O2 (fun v u H Q => r [v, u] H Q) (Sa a) (Sb b) mc S) :
    EV E env (tCB r (tCons ta (tCons tb tNil))) mc S := by
  intro st vs σ H Q c g hm hq
  exact ha st vs σ H _ a g rfl fun va H1 g1 => hb _ _ σ H1 _ b g1 rfl fun vb H2 g2 => hr E env st σ vs H2 Q va vb c g2 hm hq
theorem ev_cb2m {r : List V → Hp → VK → Prop} {ma : Option α} {mb : Option β} {mc : α → β → Option γ} {Sa : α → SP} {Sb : β → SP} {S : γ → SP} (ha : EV E env ta ma Sa) (hb : EV E env tb mb Sb) (hr : ∀ a b, O2 (fun v u H Q => r [v, u] H Q) (Sa a) (Sb b) (mc a b) S) :
    EV E env (tCB r (tCons ta (tCons tb tNil))) (ma.bind fun a => mb.bind fun b => mc a b) S := ev_cb2 ha (fun _ => hb) hr
theorem ev_unp {r : V → Hp → VK → Prop} {a : α} {mc : Option γ} {Sa : α → SP} {S : γ → SP} (ha : EV E env ta (some a) Sa) (hr : O1 r (Sa a) mc S) : EV E env (tUn r ta) mc S := by
  intro st vs σ H Q c g hm hq
  exact ha st vs σ H _ a g rfl fun va H1 g1 => hr E env st σ vs H1 Q va c g1 hm hq
theorem opt_if {b : Bool} {x y : α} : (if b = true then some x else some y) = some (if b = true then x else y) := by cases b <;> rfl
theorem ev_ifp {t : Bool} {a b : α} {S : α → SP} (ht : TX E env tt (some t)) (ha : EV E env ta (some a) S) (hb : EV E env tb (some b) S) : EV E env (tIf tt ta tb) (some (if t = true then a else b)) S := ev_eq (ev_if ht ha hb) opt_if
theorem ev_andp {a b : Bool} (ha : EV E env ta (some a) (val tBool)) (hb : EV E env tb (some b) (val tBool)) : EV E env (tAndV ta tb) (some (a && b)) (val tBool) := ev_eq (ev_and ha hb) (by cases a <;> rfl)
theorem ev_orp {a b : Bool} (ha : EV E env ta (some a) (val tBool)) (hb : EV E env tb (some b) (val tBool)) : EV E env (tOrV ta tb) (some (a || b)) (val tBool) := ev_eq (ev_or ha hb) (by cases a <;> rfl)
theorem ev_notp {a : Bool} (ha : EV E env ta (some a) (val tBool)) : EV E env (tNotV ta) (some (!a)) (val tBool) := ev_not ha
theorem tx_eq {m m' : Option Bool} (h : TX E env tt m) (e : m = m') : TX E env tt m' := e ▸ h
theorem tx_andp {a b : Bool} (ha : TX E env tt (some a)) (hb : TX E env tu (some b)) : TX E env (tAnd tt tu) (some (a && b)) := tx_eq (tx_and ha hb) (by cases a <;> rfl)
theorem tx_orp {a b : Bool} (ha : TX E env tt (some a)) (hb : TX E env tu (some b)) : TX E env (tOr tt tu) (some (a || b)) := tx_eq (tx_or ha hb) (by cases a <;> rfl)
theorem tx_notp {a : Bool} (ha : TX E env tt (some a)) : TX E env (tNot tt) (some (!a)) := tx_not ha
theorem ev_chainp {r r' : R2} {a : α} {b : β} {c : γ} {k1 k2 : Bool} {T : Ty α} {U : Ty β} {W : Ty γ} (ha : EV E env ta (some a) (val T)) (hb : EV E env tb (some b) (val U)) (hc : EV E env tc (some c) (val W)) (h1 : O2 r (val T a) (val U b) (some k1) (val tBool)) (h2 : O2 r' (val U b) (val W c) (some k2) (val tBool)) :
    EV E env (tChain r r' ta tb tc) (some (k1 && k2)) (val tBool) := by
  intro st vs σ H Q z g hm hq
  refine ha st vs σ H _ a g rfl fun va H1 g1 => hb _ _ σ H1 _ b g1 rfl fun vb H2 g2 => ?_
  obtain ⟨F2, w2, g2⟩ := g2
  have gb : U.rp F2 vb b := g2.top
  have g2' : GG E env (val U b :: val T a :: val U b :: st) σ (vb :: va :: vb :: vs) H2 F2 w2 := g2.re (fun a l e => ⟨l, e⟩) g2.env ⟨g2.st.1, g2.st.2.1, gb, g2.st.2.2⟩
  refine h1 E env _ σ _ H2 _ va vb k1 ⟨F2, w2, g2'⟩ rfl fun v H3 ⟨F3, w3, g3⟩ => ⟨k1, g3.top, ?_⟩
  cases k1 with
  | true =>
    rw [if_pos rfl]
    refine hc _ _ σ H3 _ c ⟨F3, w3, g3.pop⟩ rfl fun vc H4 g4 => h2 E env st σ vs H4 Q vb vc z g4 ?_ hq
    rw [← hm]; rfl
  | false =>
    rw [if_neg Bool.false_ne_true]
    cases hm
    exact hq _ _ ⟨F3, w3, g3.pop.pop.pushV rfl⟩
/-- tests that are plain, in an if -/
theorem br_ifrp {b : Bool} {ma mb : Option ρ} {R : ρ → SP} {eR : ρ → En} (ht : TX E env tt (some b)) (ha : BK E env t1 ma (pR E R eR)) (hb : BK E env u mb (pR E R eR)) : BK E env (tSeq (tIfS tt t1 tNext) u) (if b = true then ma else mb) (pR E R eR) := br_ifr ht ha hb
/-! ### comprehensions: the own names -/
theorem noW1 {i : Nat} (h : env[i]? = some none) : NoW env [i] := fun j hj S e => by
  have : j = i := by simpa using hj
  rw [this, h] at e; cases e
theorem noW2 {i j : Nat} (h : env[i]? = some none) (h2 : env[j]? = some none) : NoW env [i, j] := fun k hk S e => by
  have : k = i ∨ k = j := by simpa using hk
  rcases this with z | z
  · rw [z, h] at e; cases e
  · rw [z, h2] at e; cases e
theorem fgt_set {i : Nat} {s : Option SP} (h : env[i]? = some none) : Fgt (env.set i s) env := ⟨by simp, fun j S e => by
  by_cases hj : i = j
  · subst hj; rw [h] at e; cases e
  · rw [List.getElem?_set_ne hj]; exact ⟨S, e, fun _ _ _ _ h => h⟩⟩
theorem fgt_set2 {i j : Nat} {s s' : Option SP} (h : env[i]? = some none) (h2 : env[j]? = some none) : Fgt ((env.set i s).set j s') env := ⟨by simp, fun k S e => by
  by_cases hj : j = k
  · subst hj; rw [h2] at e; cases e
  · rw [List.getElem?_set_ne hj]
    by_cases hi : i = k
    · subst hi; rw [h] at e; cases e
    · rw [List.getElem?_set_ne hi]; exact ⟨S, e, fun _ _ _ _ h => h⟩⟩
end
/-! ### constants of the module -/
section
variable {X : Cx} {x : Str} {pos : Pos}
theorem pe_gint {i : Int} (hg : Gl X x) (h : ∃ t, X.mg x = some (.int i t)) (hd : (x == ("__debug__" : Str)) = false := by decide) : PE X (.Name x pos) (tC (.int i)) := by
  obtain ⟨t, h⟩ := h
  exact pe_glob hg h ⟨t, rfl⟩ hd
theorem pe_gstr {i : Str} (hg : Gl X x) (h : ∃ t, X.mg x = some (.str i t)) (hd : (x == ("__debug__" : Str)) = false := by decide) : PE X (.Name x pos) (tC (.str i)) := by
  obtain ⟨t, h⟩ := h
  exact pe_glob hg h ⟨t, rfl⟩ hd
end
/-! ### defs -/
/-- a def that may be called -/
def Cal (P : Program) (w : World) (K : PySem.W.Frag) (mg : Str → Option Value) (base : Heap) (k : Nat) (y : Str) (ps : List Str) (sp : Sp) : Prop :=
  ∃ (f : Addr) (fd : FuncData), mg y = some (.ref f) ∧ PySem.W.keepIn K (.ref f) = true ∧ Binds K fd ps [] ∧ FnOk P w K mg base CX0 k f fd ps sp
end ML

set_option Elab.async false
set_option linter.all false
set_option maxRecDepth 100000
set_option maxHeartbeats 2000000
namespace ML
open PySem PySem.Spec PyProof.Rows L2
section
variable {α β γ δ ρ τ : Type} {E : Ent} {env env' : En} {te ta tb tc ti : TE} {tt tu : TT} {u t t1 t2 : TS} {post : Post γ}
/-! ### data that are compared -/
structure DT {α : Type} (K : PySem.W.Frag) (T : Ty α) [DecidableEq α] where
  dat : α → PyData
  dp : ∀ {F H : Hp} {v : V} {x : α}, Same F H → T.rp F v x → Dp K H v (dat x)
  dep : Nat
  depth : ∀ x, (dat x).depth ≤ dep
  lay : α → Bool
  can : ∀ x, lay x = true → (dat x).canLay0 = true
  eqv : ∀ x y, PyData.eqv (dat x) (dat y) = decide (x = y)
def dInt {K : PySem.W.Frag} : DT K tInt := ⟨.int, fun _ h => by cases h; exact .int _, 0, fun _ => Nat.le_of_eq rfl, fun _ => true, fun _ _ => by simp [PyData.canLay0], fun x y => by
  unfold PyData.eqv
  exact Bool.beq_eq_decide_eq x y⟩
def dBool {K : PySem.W.Frag} : DT K tBool := ⟨.bool, fun _ h => by cases h; exact .bl _, 0, fun _ => Nat.le_of_eq rfl, fun _ => true, fun _ _ => by simp [PyData.canLay0], fun x y => by
  unfold PyData.eqv
  cases x <;> cases y <;> rfl⟩
def dStr {K : PySem.W.Frag} : DT K tStr := ⟨.str, fun _ h => by cases h; exact .str _, 0, fun _ => Nat.le_of_eq rfl, fun x => PyData.strOk x, fun _ h => by simpa [PyData.canLay0] using h, fun x y => by
  unfold PyData.eqv
  rw [Bool.eq_iff_iff]
  simp⟩
theorem dp_all {K : PySem.W.Frag} {T : Ty α} [DecidableEq α] (D : DT K T) {F H : Hp} (s : Same F H) : ∀ {vs : List V} {xs : List α}, Paired (T.rp F) vs xs → DpAll K H vs (xs.map D.dat)
  | _, _, .nil => .nil
  | _, _, .cons r t => .cons (D.dp s r) (dp_all D s t)
theorem depth_all {K : PySem.W.Frag} {T : Ty α} [DecidableEq α] (D : DT K T) : ∀ xs : List α, PyData.depthAll (xs.map D.dat) ≤ D.dep
  | [] => by simp [PyData.depthAll]
  | x :: xs => by
    have h1 := D.depth x
    have h2 := depth_all D xs
    simp only [List.map_cons, PyData.depthAll]
    omega
theorem can_all {K : PySem.W.Frag} {T : Ty α} [DecidableEq α] (D : DT K T) : ∀ xs : List α, xs.all D.lay = true → PyData.canLayAll0 (xs.map D.dat) = true
  | [], _ => by simp [PyData.canLayAll0]
  | x :: xs, h => by
    rw [List.all_cons, Bool.and_eq_true] at h
    simp only [List.map_cons, PyData.canLayAll0, Bool.and_eq_true]
    exact ⟨D.can x h.1, can_all D xs h.2⟩
theorem eqv_all {K : PySem.W.Frag} {T : Ty α} [DecidableEq α] (D : DT K T) : ∀ xs ys : List α, PyData.eqvAll (xs.map D.dat) (ys.map D.dat) = decide (xs = ys)
  | [], [] => by simp [PyData.eqvAll]
  | x :: xs, y :: ys => by
    simp only [List.map_cons, PyData.eqvAll, D.eqv, eqv_all D xs ys]
    by_cases h1 : x = y
    · by_cases h2 : xs = ys
      · simp [h1, h2]
      · simp [h1, h2]
    · simp [h1]
  | [], _ :: _ => by simp [PyData.eqvAll]
  | _ :: _, [] => by simp [PyData.eqvAll]
def dL {K : PySem.W.Frag} {T : Ty α} [DecidableEq α] (D : DT K T) : DT K (tL T) := ⟨fun xs => .list (xs.map D.dat), fun s ⟨a, vs, e, h, p⟩ => by
    rw [e]; exact .lst (.of (s _ _ h)) (dp_all D s p), D.dep + 1, fun xs => by have := depth_all D xs; simp only [PyData.depth]; omega, fun xs => xs.all D.lay, fun xs h => by simp only [PyData.canLay0]; exact can_all D xs h, fun x y => by
    simp only [PyData.eqv]; exact eqv_all D x y⟩
def dU {K : PySem.W.Frag} {T : Ty α} [DecidableEq α] (D : DT K T) : DT K (tU T) := ⟨fun xs => .tuple (xs.map D.dat), fun s ⟨a, vs, e, h, p⟩ => by
    rw [e]; exact .tup (.of (s _ _ h)) (dp_all D s p), D.dep + 1, fun xs => by have := depth_all D xs; simp only [PyData.depth]; omega, fun xs => xs.all D.lay, fun xs h => by simp only [PyData.canLay0]; exact can_all D xs h, fun x y => by
    simp only [PyData.eqv]; exact eqv_all D x y⟩
def dP {K : PySem.W.Frag} {T : Ty α} {U : Ty β} [DecidableEq α] [DecidableEq β] (D : DT K T) (C : DT K U) : DT K (tP T U) := ⟨fun p => .tuple [D.dat p.1, C.dat p.2], fun s ⟨a, x, y, e, h, h1, h2⟩ => by
    rw [e]; exact .tup (.of (s _ _ h)) (.cons (D.dp s h1) (.cons (C.dp s h2) .nil)), max D.dep C.dep + 1, fun p => by
    have h1 := D.depth p.1; have h2 := C.depth p.2
    simp only [PyData.depth, PyData.depthAll]; omega, fun p => D.lay p.1 && C.lay p.2, fun p h => by
    rw [Bool.and_eq_true] at h
    simp only [PyData.canLay0, PyData.canLayAll0, D.can _ h.1, C.can _ h.2]; rfl, fun p q => by
    obtain ⟨a, b⟩ := p
    obtain ⟨c, d⟩ := q
    simp only [PyData.eqv, PyData.eqvAll, D.eqv, C.eqv, Bool.and_true, Prod.mk.injEq]
    by_cases h1 : a = c
    · by_cases h2 : b = d
      · simp [h1, h2]
      · simp [h1, h2]
    · simp [h1]⟩
def dOpt {K : PySem.W.Frag} {T : Ty α} [DecidableEq α] (D : DT K T) (nn : ∀ x, PyData.eqv .none (D.dat x) = false) (nn2 : ∀ x, PyData.eqv (D.dat x) .none = false) : DT K (tOpt T) := ⟨fun x => match x with
    | none => .none
    | some y => D.dat y, fun {F H v x} s h => by
    cases x with
    | none => rw [show v = V.non from h]; exact .non
    | some y => exact D.dp s h, D.dep, fun x => by
    cases x with
    | none => simp [PyData.depth]
    | some y => exact D.depth y, fun x => match x with
    | none => true
    | some y => D.lay y, fun x h => by
    cases x with
    | none => simp [PyData.canLay0]
    | some y => exact D.can y h, fun x y => by
    cases x with
    | none => cases y with
      | none => simp [PyData.eqv]
      | some y => simp only [nn]; simp
    | some x => cases y with
      | none => simp only [nn2]; simp
      | some y => simp only [D.eqv]; simp⟩
theorem shaped_of {d : PyData} {n : Nat} (h1 : d.canLay0 = true) (h2 : d.depth ≤ n) (h3 : n ≤ 64) : SeqAt.shaped d = true := by
  unfold SeqAt.shaped
  rw [h1, decide_eq_true (Nat.le_trans h2 h3)]; rfl
theorem o2_eqDt {K : PySem.W.Frag} {T : Ty α} [DecidableEq α] (D : DT K T) {a b : α} (hd : D.dep ≤ 64) (hl : ∀ x, D.lay x = true) : O2 (rEqD K) (val T a) (val T b) (some (decide (a = b))) (val tBool) := o2_mk fun c hm F H Q va vb s ha hb hq => by
  cases hm
  refine ⟨_, _, D.dp s ha, D.dp s hb, shaped_of (D.can _ (hl _)) (D.depth _) hd, shaped_of (D.can _ (hl _)) (D.depth _) hd, hq _ ?_⟩
  rw [D.eqv]; rfl
theorem o2_neDt {K : PySem.W.Frag} {T : Ty α} [DecidableEq α] (D : DT K T) {a b : α} (hd : D.dep ≤ 64) (hl : ∀ x, D.lay x = true) : O2 (rNeD K) (val T a) (val T b) (some (!decide (a = b))) (val tBool) := o2_mk fun c hm F H Q va vb s ha hb hq => by
  cases hm
  refine ⟨_, _, D.dp s ha, D.dp s hb, shaped_of (D.can _ (hl _)) (D.depth _) hd, shaped_of (D.can _ (hl _)) (D.depth _) hd, hq _ ?_⟩
  rw [D.eqv]; rfl
/-- with texts within: they are to be such as Python has -/
theorem o2_eqDg {K : PySem.W.Frag} {T : Ty α} [DecidableEq α] (D : DT K T) {a b : α} (hd : D.dep ≤ 64) : O2 (rEqD K) (val T a) (val T b) (grd ((D.lay a && D.lay b) = true) (some (decide (a = b)))) (val tBool) := o2_mk fun c hm F H Q va vb s ha hb hq => by
  obtain ⟨hl, hm⟩ := grd_some hm
  rw [Bool.and_eq_true] at hl
  cases hm
  refine ⟨_, _, D.dp s ha, D.dp s hb, shaped_of (D.can _ hl.1) (D.depth _) hd, shaped_of (D.can _ hl.2) (D.depth _) hd, hq _ ?_⟩
  rw [D.eqv]; rfl
theorem o2_neDg {K : PySem.W.Frag} {T : Ty α} [DecidableEq α] (D : DT K T) {a b : α} (hd : D.dep ≤ 64) : O2 (rNeD K) (val T a) (val T b) (grd ((D.lay a && D.lay b) = true) (some (!decide (a = b)))) (val tBool) := o2_mk fun c hm F H Q va vb s ha hb hq => by
  obtain ⟨hl, hm⟩ := grd_some hm
  rw [Bool.and_eq_true] at hl
  cases hm
  refine ⟨_, _, D.dp s ha, D.dp s hb, shaped_of (D.can _ hl.1) (D.depth _) hd, shaped_of (D.can _ hl.2) (D.depth _) hd, hq _ ?_⟩
  rw [D.eqv]; rfl
theorem eqv_oi {K : PySem.W.Frag} : ∀ x, PyData.eqv .none ((dInt (K := K)).dat x) = false := fun x => by simp [dInt, PyData.eqv]
theorem eqv_io {K : PySem.W.Frag} : ∀ x, PyData.eqv ((dInt (K := K)).dat x) .none = false := fun x => by simp [dInt, PyData.eqv]
abbrev dOInt {K : PySem.W.Frag} : DT K (tOpt tInt) := dOpt dInt eqv_oi eqv_io
theorem lay_L {K : PySem.W.Frag} {T : Ty α} [DecidableEq α] {D : DT K T} (h : ∀ x, D.lay x = true) : ∀ x, (dL D).lay x = true := fun x => List.all_eq_true.mpr fun y _ => h y
theorem lay_U {K : PySem.W.Frag} {T : Ty α} [DecidableEq α] {D : DT K T} (h : ∀ x, D.lay x = true) : ∀ x, (dU D).lay x = true := fun x => List.all_eq_true.mpr fun y _ => h y
theorem lay_P {K : PySem.W.Frag} {T : Ty α} {U : Ty β} [DecidableEq α] [DecidableEq β] {D : DT K T} {C : DT K U} (h : ∀ x, D.lay x = true) (h2 : ∀ x, C.lay x = true) : ∀ x, (dP D C).lay x = true := fun x => by
  show (D.lay x.1 && C.lay x.2) = true
  rw [h, h2]; rfl
theorem lay_O {K : PySem.W.Frag} {T : Ty α} [DecidableEq α] {D : DT K T} {n1 n2} (h : ∀ x, D.lay x = true) : ∀ x, (dOpt D n1 n2).lay x = true := fun x => by
  cases x with
  | none => rfl
  | some y => exact h y
theorem lay_int {K : PySem.W.Frag} : ∀ x, (dInt (K := K)).lay x = true := fun _ => rfl
theorem lay_bool {K : PySem.W.Frag} : ∀ x, (dBool (K := K)).lay x = true := fun _ => rfl
/-! ### what may be None, where it is not -/
theorem ev_get {T : Ty α} {m : Option (Option α)} (h : EV E env te m (val (tOpt T))) : EV E env te (m.bind id) (val T) := by
  intro st vs σ H Q x g hm hq
  obtain ⟨y, ey, hm⟩ := Option.bind_eq_some_iff.mp hm
  cases (show y = some x from hm)
  exact h st vs σ H Q (some x) g ey fun v H' ⟨F, w, g'⟩ => hq v H' ⟨F, w, g'.pop.pushV g'.top⟩
theorem ev_getp {T : Ty α} {x : Option α} (h : EV E env te (some x) (val (tOpt T))) : EV E env te x (val T) := ev_get h
/-- ints and None as scalars -/
theorem o2_eqO {a b : Option Int} : O2 rEq (val (tOpt tInt) a) (val (tOpt tInt) b) (grd (a.isSome || b.isSome || true) (some (decide (a = b)))) (val tBool) := o2_mk fun c hm F H Q va vb s ha hb hq => by
  obtain ⟨_, hm⟩ := grd_some hm
  cases hm
  cases a with
  | none => cases b with
    | none => cases ha; cases hb; exact ⟨rfl, hq _ (by show V.bl _ = V.bl _; simp)⟩
    | some b => cases ha; cases (show vb = V.int b from hb); exact ⟨rfl, hq _ (by show V.bl _ = V.bl _; simp)⟩
  | some a => cases b with
    | none => cases (show va = V.int a from ha); cases hb; exact ⟨rfl, hq _ (by show V.bl _ = V.bl _; simp)⟩
    | some b => cases (show va = V.int a from ha); cases (show vb = V.int b from hb); exact ⟨rfl, hq _ (by show V.bl _ = V.bl _; simp)⟩
theorem grd_t {k : Option γ} {b : Bool} : grd ((b || true) = true) k = k := by simp [grd]
theorem o2_eqOI {a b : Option Int} : O2 rEq (val (tOpt tInt) a) (val (tOpt tInt) b) (some (decide (a = b))) (val tBool) := by
  have h := o2_eqO (a := a) (b := b)
  rw [grd_t] at h
  exact h
theorem o2_neOI {a b : Option Int} : O2 rNe (val (tOpt tInt) a) (val (tOpt tInt) b) (some (!decide (a = b))) (val tBool) := o2_mk fun c hm F H Q va vb s ha hb hq => by
  cases hm
  cases a with
  | none => cases b with
    | none => cases ha; cases hb; exact ⟨rfl, hq _ (by show V.bl _ = V.bl _; simp)⟩
    | some b => cases ha; cases (show vb = V.int b from hb); exact ⟨rfl, hq _ (by show V.bl _ = V.bl _; simp)⟩
  | some a => cases b with
    | none => cases (show va = V.int a from ha); cases hb; exact ⟨rfl, hq _ (by show V.bl _ = V.bl _; simp)⟩
    | some b => cases (show va = V.int a from ha); cases (show vb = V.int b from hb); exact ⟨rfl, hq _ (by show V.bl _ = V.bl _; simp)⟩
/-- isinstance(x, int), x an int or None -/
theorem o2_isO {K : PySem.W.Frag} {T : Ty α} {x : Option α} {n a : String} {b : Bool} (ht : ∀ x F v, T.rp F v x → TyX K F v (.type a)) (hk : kitB a n = some b) (hn : kitB "NoneType" n = some false) : O2 (fun v u H Q => rIsi K [v, u] H Q) (val (tOpt T) x) (val tCls n) (some (x.isSome && b)) (val tBool) := o2_mk fun c hc F H Q va vb s ha hb hq => by
  cases hc
  cases x with
  | none =>
    rw [show va = V.non from ha]
    refine ⟨_, vb, .type "NoneType", .type n, false, rfl, ?_, .base .non, kit_ty hn, hq _ rfl⟩
    rw [show vb = V.ty n from hb]
    exact .ty n
  | some y =>
    refine ⟨va, vb, .type a, .type n, b, rfl, ?_, isi_mono s (ht y F va ha), kit_ty hk, hq _ rfl⟩
    rw [show vb = V.ty n from hb]
    exact .ty n
/-! ### a list of one's own goes out -/
theorem GG.move {S : SP} {i : Nat} {st : List SP} {σ : L2.St} {vs : List V} {H F : Hp} {w : Ow} (g : GG E env st σ vs H F w) (h : env[i]? = some (some S)) : ∃ v w', σ[i]? = some (some v) ∧ GG E (env.set i none) (S :: st) σ (v :: vs) H F w' := by
  classical
  obtain ⟨v, e1, e2⟩ := g.env.2 i S h
  let w' : Ow := fun a => if w a = some (.e i) then some (.s st.length) else if w a = some (.s st.length) then none else w a
  have hw1 : ∀ a, w' a = some (.s st.length) ↔ w a = some (.e i) := fun a => by
    show (if w a = some (.e i) then some (.s st.length) else if w a = some (.s st.length) then none else w a) = _ ↔ _
    by_cases h1 : w a = some (.e i)
    · simp [h1]
    · by_cases h2 : w a = some (.s st.length)
      · simp [h1, h2]
      · simp [h1, h2]
  have hw2 : ∀ l, l ≠ .s st.length → l ≠ .e i → ∀ a, w' a = some l ↔ w a = some l := fun l n1 n2 a => by
    show (if w a = some (.e i) then some (.s st.length) else if w a = some (.s st.length) then none else w a) = _ ↔ _
    by_cases h1 : w a = some (.e i)
    · rw [if_pos h1, h1]; exact ⟨fun z => absurd (Option.some.inj z).symm n1, fun z => absurd (Option.some.inj z).symm n2⟩
    · by_cases h2 : w a = some (.s st.length)
      · simp [h1, h2]; exact fun z => n1 z.symm
      · simp [h1, h2]
  refine ⟨v, w', e1, g.ext, ⟨by simpa using g.env.1, fun j S' e => ?_⟩, ⟨by rw [show w'.of (.s st.length) = w.of (.e i) from funext fun a => propext (hw1 a)]; exact e2, g.st.step (M := fun _ => False) (Ext.refl g.ext.s) fun k hk a => ⟨hw2 _ (by intro z; injection z with z; omega) (by intro z; cases z) a, fun e => ⟨fun z => z, (g.own a _ e).2.1⟩⟩⟩, fun a l e => ?_⟩
  · by_cases hj : i = j
    · subst hj
      rw [List.getElem?_set_self (List.getElem?_eq_some_iff.mp h).1] at e
      cases e
    · rw [List.getElem?_set_ne hj] at e
      obtain ⟨u, f1, f2⟩ := g.env.2 j S' e
      refine ⟨u, f1, ?_⟩
      rw [show w'.of (.e j) = w.of (.e j) from funext fun a => propext (hw2 _ (by intro z; cases z) (by intro z; injection z with z; exact hj z.symm) a)]
      exact f2
  · by_cases hl : l = .s st.length
    · subst hl
      have := (hw1 a).mp e
      exact g.own a _ this
    · by_cases hl2 : l = .e i
      · subst hl2
        have e' : (if w a = some (.e i) then some (Lb.s st.length) else if w a = some (.s st.length) then none else w a) = some (.e i) := e
        by_cases h1 : w a = some (.e i)
        · simp [h1] at e'
        · by_cases h2 : w a = some (.s st.length)
          · simp [h1, h2] at e'
          · simp [h1, h2] at e'
      · exact g.own a l ((hw2 l hl hl2 a).mp e)
theorem ex_mov {i : Nat} {φ : V → Prop} {T : Ty α} {xs : List α} (h : env[i]? = some (some (muL φ T xs))) : EX E env (tVar i) (some xs) (own T) fun _ => env.set i none := by
  intro st vs σ H Q y ⟨F, w, g⟩ hm hq
  cases hm
  obtain ⟨v, w', e1, g2⟩ := g.move h
  exact ⟨v, e1, hq v H ⟨F, w', g2.re (fun a l e => ⟨l, e⟩) g2.env ⟨by
    obtain ⟨a, us, e, f, ho, hh, p⟩ := g2.st.1
    exact ⟨a, us, e, trivial, ho, hh, p⟩, g2.st.2⟩⟩⟩
/-! ### an if whose ways are followed apart -/
theorem bk_ifd {mt : Option Bool} {ma : Option α} {mb : Option β} {ka : α → Option γ} {kb : β → Option γ} {eA : α → En} {eB : β → En} (ht : TX E env tt mt) (ha : BK E env t1 ma (pN E eA)) (hb : BK E env t2 mb (pN E eB)) (hka : ∀ x, BK E (eA x) u (ka x) post) (hkb : ∀ x, BK E (eB x) u (kb x) post) :
    BK E env (tSeq (tIfS tt t1 t2) u) (mt.bind fun b => if b = true then ma.bind ka else mb.bind kb) post := by
  intro st vs σ H D g gg hm hq
  obtain ⟨b, eb, hm⟩ := Option.bind_eq_some_iff.mp hm
  refine ht st vs σ H _ b gg eb fun H1 g1 => ?_
  cases b with
  | true =>
    obtain ⟨x, ex, hm2⟩ := Option.bind_eq_some_iff.mp hm
    exact ha st vs σ H1 _ x g1 ex fun σ' H' g2 => hka x st vs σ' H' D g g2 hm2 hq
  | false =>
    obtain ⟨x, ex, hm2⟩ := Option.bind_eq_some_iff.mp hm
    exact hb st vs σ H1 _ x g1 ex fun σ' H' g2 => hkb x st vs σ' H' D g g2 hm2 hq
theorem ix_R1p {n : Int} (h : EV E env te (some n) (val tInt)) : IX E env (iRng1 (tCons te tNil)) (range1 n) (val tInt) := ix_R1 h
theorem ix_R2p {a b : Int} (ha : EV E env ta (some a) (val tInt)) (hb : EV E env tb (some b) (val tInt)) : IX E env (iRng2 (tCons ta (tCons tb tNil))) (range2 a b) (val tInt) := ix_R2 ha fun _ => hb
/-! ### enumerate, zip -/
def enumL (xs : List α) : List (Int × α) := xs.zipIdx.map fun p => ((p.2 : Int), p.1)
theorem enumL_get {xs : List α} {i : Nat} {y : Int × α} (h : (enumL xs)[i]? = some y) : y.1 = (i : Int) ∧ xs[i]? = some y.2 := by
  unfold enumL at h
  rw [List.getElem?_map] at h
  obtain ⟨p, e1, e2⟩ := Option.map_eq_some_iff.mp h
  rw [List.getElem?_zipIdx] at e1
  obtain ⟨x, e3, e4⟩ := Option.map_eq_some_iff.mp e1
  subst e4 e2
  simp [e3]
theorem enumL_len {xs : List α} : (enumL xs).length = xs.length := by simp [enumL]
theorem wk_E {K : PySem.W.Frag} {T : Ty α} {xs : List α} {a : Addr} : Wk (Ite K a) (enumL xs) (val (tP tInt T)) (val (tL T) xs) (.ref a) := by
  intro E env st1 st σ vs1 vs H i hl1 ⟨F, w, g⟩
  obtain ⟨a', us, e, h, p⟩ := GG.mid hl1 g
  cases e
  have hs : SqL K H a us := .of (g.ext.s _ _ h)
  refine ⟨fun y hy => ?_, fun hl => ⟨us, hs, by rw [p.length]; rw [enumL_len] at hl; exact hl⟩⟩
  obtain ⟨ey, hy⟩ := enumL_get hy
  obtain ⟨x, e1, e2⟩ := ML.Paired.get p hy
  refine ⟨⟨us, x, hs, e1⟩, fun x' H' ⟨B, x2, ev, hB, eH, hx⟩ => ?_⟩
  have := hx us hs
  rw [e1] at this
  cases this
  subst eH ev
  have u := Ext.newF (F := F) (o := .tup [.int (i : Nat), x]) g.ext.s hB
  refine ⟨_, w, (g.grow u).pushV ⟨B, _, _, rfl, upd_same, ?_, T.mono u.f e2⟩⟩
  show V.int _ = V.int _
  rw [ey]
theorem ix_E {K : PySem.W.Frag} {T : Ty α} {m : Option (List α)} (h : EV E env te m (val (tL T))) : IX E env (iEnum K (tCons te tNil)) (m.bind fun xs => some (enumL xs)) (val (tP tInt T)) := by
  intro st vs σ H R ys gg hm hq
  obtain ⟨xs, ex, hm⟩ := Option.bind_eq_some_iff.mp hm
  cases hm
  refine h st vs σ H _ xs gg ex fun v H1 ⟨F, w, g1⟩ => ?_
  obtain ⟨a, us, e, hh, p⟩ := g1.top
  cases e
  exact ⟨a, us, rfl, .of (g1.ext.s _ _ hh), hq _ _ _ _ wk_E ⟨F, w, g1⟩⟩
/-! ### slices -/
def TO1 (E : Ent) (env : En) (t : TO) (m : Option (Option Int)) : Prop :=
  ∀ (st : List SP) (vs : List V) (σ : L2.St) (H : Hp) (Q : Option Int → Hp → Prop) (b : Option Int), G E env st σ vs H → m = some b → (∀ H', G E env st σ vs H' → Q b H') → t σ H Q
theorem to_none : TO1 E env tNoPart (some none) := fun st vs σ H Q b g hm hq => by cases hm; exact hq H g
theorem to_some {m : Option Int} (h : EV E env te m (val tInt)) : TO1 E env (tPart te) (m.map some) := by
  intro st vs σ H Q b g hm hq
  obtain ⟨x, ex, rfl⟩ := Option.map_eq_some_iff.mp hm
  exact h st vs σ H _ x g ex fun v H1 ⟨F, w, g1⟩ => ⟨x, g1.top, hq H1 ⟨F, w, g1.pop⟩⟩
theorem to_somep {x : Int} (h : EV E env te (some x) (val tInt)) : TO1 E env (tPart te) (some (some x)) := to_some h
/-- xs[lo:hi] -/
def cutL (xs : List α) (lo hi : Option Int) : List α := (xs.drop (HT.sIx xs.length 0 lo)).take (HT.sIx xs.length xs.length hi - HT.sIx xs.length 0 lo)
theorem Paired.drop {α β : Type} {f : α → β → Prop} : ∀ {l : List α} {m : List β} (n : Nat), Paired f l m → Paired f (l.drop n) (m.drop n)
  | _, _, 0, p => p
  | _, _, _ + 1, .nil => .nil
  | _, _, n + 1, .cons _ t => Paired.drop n t
theorem Paired.take {α β : Type} {f : α → β → Prop} : ∀ {l : List α} {m : List β} (n : Nat), Paired f l m → Paired f (l.take n) (m.take n)
  | _, _, 0, _ => .nil
  | _, _, _ + 1, .nil => .nil
  | _, _, n + 1, .cons r t => .cons r (Paired.take n t)
theorem ev_slL {K : PySem.W.Frag} {T : Ty α} {tl th : TO} {m : Option (List α)} {ml mh : Option (Option Int)} (h : EV E env te m (val (tL T))) (hl : TO1 E env tl ml) (hh : TO1 E env th mh) : EV E env (tSl (rSlL K) te tl th) (m.bind fun xs => ml.bind fun l => mh.bind fun h => some (cutL xs l h)) (own T) := by
  intro st vs σ H Q c g hm hq
  obtain ⟨xs, exs, hm⟩ := Option.bind_eq_some_iff.mp hm
  obtain ⟨l, el, hm⟩ := Option.bind_eq_some_iff.mp hm
  obtain ⟨u, eu, hm⟩ := Option.bind_eq_some_iff.mp hm
  cases hm
  refine h st vs σ H _ xs g exs fun v H1 g1 => hl _ _ σ H1 _ l g1 el fun H2 g2 => hh _ _ σ H2 _ u g2 eu fun H3 ⟨F, w, g3⟩ => ?_
  obtain ⟨a, us, e, h', p⟩ := g3.top
  refine ⟨a, us, e, .of (g3.ext.s _ _ h'), fun p' hp => hq _ _ ⟨F, _, g3.pop.pushO hp ⟨p', _, rfl, trivial, fun b => Iff.rfl, upd_same, ?_⟩⟩⟩
  unfold cutV cutL
  rw [p.length]
  exact ML.Paired.take _ (ML.Paired.drop _ p)
theorem ev_slS {K : PySem.W.Frag} {T : Ty α} {tl th : TO} {m : Option (List α)} {ml mh : Option (Option Int)} (h : EV E env te m (val (tS K T))) (hl : TO1 E env tl ml) (hh : TO1 E env th mh) : EV E env (tSl (rSlL K) te tl th) (m.bind fun xs => ml.bind fun l => mh.bind fun h => some (cutL xs l h)) (own T) := by
  intro st vs σ H Q c g hm hq
  obtain ⟨xs, exs, hm⟩ := Option.bind_eq_some_iff.mp hm
  obtain ⟨l, el, hm⟩ := Option.bind_eq_some_iff.mp hm
  obtain ⟨u, eu, hm⟩ := Option.bind_eq_some_iff.mp hm
  cases hm
  refine h st vs σ H _ xs g exs fun v H1 g1 => hl _ _ σ H1 _ l g1 el fun H2 g2 => hh _ _ σ H2 _ u g2 eu fun H3 ⟨F, w, g3⟩ => ?_
  obtain ⟨a, us, e, h', p⟩ := g3.top
  refine ⟨a, us, e, g3.ext.s.seq h', fun p' hp => hq _ _ ⟨F, _, g3.pop.pushO hp ⟨p', _, rfl, trivial, fun b => Iff.rfl, upd_same, ?_⟩⟩⟩
  unfold cutV cutL
  rw [p.length]
  exact ML.Paired.take _ (ML.Paired.drop _ p)
/-! ### powers of great numbers -/
end
def CPowW (i j : Int) : Prop := 0 ≤ j ∧ (Builtin.Int.intBits i : Int) * j ≤ 2 ^ 27
section
variable {X : Cx}
theorem op_powW : OpR X (binaryOp .Pow) (rI CPowW fun i j => .int (i ^ j.toNat)) := opI fun _ _ _ _ _ _ _ hc q => pow_int hc.1 hc.2 q
end
section
variable {α β γ δ ρ τ : Type} {E : Ent} {env env' : En} {te ta tb tc ti : TE} {tt tu : TT} {u t t1 t2 : TS} {post : Post γ}
theorem CPowW.of {i j : Int} (h0 : 0 ≤ j) (h : ((i.natAbs.log2 : Int) + 1) * j ≤ 100000000) : CPowW i j := by
  refine ⟨h0, ?_⟩
  have b : Builtin.Int.intBits i ≤ i.natAbs.log2 + 1 := by
    unfold Builtin.Int.intBits
    split <;> omega
  have b2 : (Builtin.Int.intBits i : Int) * j ≤ ((i.natAbs.log2 : Int) + 1) * j := Int.mul_le_mul_of_nonneg_right (by omega) h0
  have e : (2 : Int) ^ 27 = 134217728 := by decide
  omega
theorem o2_powW {a b : Int} : O2 (rI CPowW fun i j => .int (i ^ j.toNat)) (val tInt a) (val tInt b) (grd (0 ≤ b ∧ ((a.natAbs.log2 : Int) + 1) * b ≤ 100000000) (some (a ^ b.toNat))) (val tInt) := o2_intG (f := fun i j => i ^ j.toNat) (p := fun a b => 0 ≤ b ∧ ((a.natAbs.log2 : Int) + 1) * b ≤ 100000000) fun _ _ h => CPowW.of h.1 h.2
/-! ### sorted, ints -/
def sortI (xs : List Int) : List Int := xs.mergeSort (fun a b => decide (a ≤ b))
theorem sortI_perm (xs : List Int) : (sortI xs).Perm xs := List.mergeSort_perm _ _
theorem sortI_sorted (xs : List Int) : (sortI xs).Pairwise (· ≤ ·) := by
  have h := List.pairwise_mergeSort (le := fun a b : Int => decide (a ≤ b)) (fun a b c h1 h2 => by simp at *; omega) (fun a b => by simp; omega) xs
  exact h.imp fun h => by simpa using h
theorem sortI_unique {xs ys : List Int} (p : ys.Perm xs) (s : ys.Pairwise (· ≤ ·)) : ys = sortI xs :=
  List.Perm.eq_of_pairwise (le := fun a b : Int => a ≤ b) (fun a b _ _ h1 h2 => Int.le_antisymm h1 h2) s (sortI_sorted xs) (p.trans (sortI_perm xs).symm)
theorem paired_ints {F : Hp} : ∀ {vs : List V} {xs : List Int}, Paired (tInt.rp F) vs xs → vs = xs.map V.int
  | _, _, .nil => rfl
  | _, _, .cons r t => by
    rw [paired_ints t, show _ = V.int _ from r]; rfl
theorem ints_paired {F : Hp} : ∀ {xs : List Int}, Paired (tInt.rp F) (xs.map V.int) xs
  | [] => .nil
  | _ :: _ => .cons rfl ints_paired
theorem o1_sorted {K : PySem.W.Frag} {xs : List Int} : O1 (fun v H Q => rSortedI K [v] H Q) (val (tL tInt) xs) (some (sortI xs)) (own tInt) := by
  intro E env st σ vs H Q va c ⟨F, w, g⟩ hm hq
  cases hm
  obtain ⟨a, us, e, h, p⟩ := g.top
  have e2 := paired_ints p
  refine ⟨a, xs, by rw [e], by rw [← e2]; exact .of (g.ext.s _ _ h), fun ns' p' hp hs hn => ?_⟩
  rw [sortI_unique hp hs]
  exact hq _ _ ⟨F, _, g.pop.pushO hn ⟨p', _, rfl, trivial, fun b => Iff.rfl, upd_same, ints_paired⟩⟩
end
end ML

set_option Elab.async false
set_option linter.all false
set_option maxRecDepth 100000
set_option maxHeartbeats 2000000
/-! ML: plain lemmas about the mirrors' words -/
namespace ML
open PySem PySem.Spec PyProof.Rows L2
section
variable {α β γ δ ρ σ : Type}
theorem forN_fun {xs : List α} {f : α → σ → Option σ} (g : Nat → σ) (h : ∀ i x, xs[i]? = some x → f x (g i) = some (g (i + 1))) : forN xs (g 0) f = some (g xs.length) := by
  have key : ∀ (ys : List α) (k : Nat), xs.drop k = ys → forN ys (g k) f = some (g xs.length) ∨ xs.length < k := by
    intro ys
    induction ys with
    | nil => intro k e; have := List.drop_eq_nil_iff.mp e
             by_cases hk : k = xs.length
             · left; subst hk; rfl
             · right; omega
    | cons y ys ih => intro k e
                      obtain ⟨e1, e2⟩ := drop_cons e
                      left
                      unfold forN
                      rw [h k y e1, Option.bind_some]
                      rcases ih (k + 1) e2 with z | z
                      · exact z
                      · have := (List.getElem?_eq_some_iff.mp e1).1; omega
  rcases key xs 0 rfl with z | z
  · exact z
  · omega
theorem forN_fun' {xs : List α} {f : α → σ → Option σ} {s t : σ} (g : Nat → σ) (h0 : s = g 0) (h : ∀ i x, xs[i]? = some x → f x (g i) = some (g (i + 1))) (ht : t = g xs.length) : forN xs s f = some t := by
  rw [h0, ht]; exact forN_fun g h
theorem forN_ind {xs : List α} {f : α → σ → Option σ} (P : Nat → σ → Prop) {s : σ} (h0 : P 0 s) (h : ∀ i x s, xs[i]? = some x → P i s → ∃ s', f x s = some s' ∧ P (i + 1) s') : ∃ s', forN xs s f = some s' ∧ P xs.length s' := by
  have key : ∀ (ys : List α) (k : Nat) (s : σ), k ≤ xs.length → xs.drop k = ys → P k s → ∃ s', forN ys s f = some s' ∧ P xs.length s' := by
    intro ys
    induction ys with
    | nil => intro k s hk e p
             have := List.drop_eq_nil_iff.mp e
             have e2 : k = xs.length := by omega
             subst e2
             exact ⟨s, rfl, p⟩
    | cons y ys ih => intro k s hk e p
                      obtain ⟨e1, e2⟩ := drop_cons e
                      obtain ⟨s', f1, f2⟩ := h k y s e1 p
                      have := (List.getElem?_eq_some_iff.mp e1).1
                      obtain ⟨s'', g1, g2⟩ := ih (k + 1) s' (by omega) e2 f2
                      exact ⟨s'', by unfold forN; rw [f1, Option.bind_some]; exact g1, g2⟩
  exact key xs 0 s (Nat.zero_le _) rfl h0
theorem rangeL_getN {a : Int} {n i : Nat} (h : i < n) : (rangeL a n)[i]? = some (a + (i : Int)) := by
  unfold rangeL
  rw [List.getElem?_map, List.getElem?_range h]; rfl
theorem forN_range {a : Int} {n : Nat} {f : Int → σ → Option σ} {s t : σ} (g : Nat → σ) (h0 : s = g 0) (h : ∀ i : Nat, i < n → f (a + (i : Int)) (g i) = some (g (i + 1))) (ht : t = g n) : forN (rangeL a n) s f = some t := by
  refine forN_fun' g h0 (fun i x e => ?_) (by rw [rangeL_len]; exact ht)
  obtain ⟨h1, h2⟩ := rangeL_get e
  rw [h2]; exact h i h1
theorem forN_rangeI {a : Int} {n : Nat} {f : Int → σ → Option σ} (P : Nat → σ → Prop) {s : σ} (h0 : P 0 s) (h : ∀ (i : Nat) s, i < n → P i s → ∃ s', f (a + (i : Int)) s = some s' ∧ P (i + 1) s') : ∃ s', forN (rangeL a n) s f = some s' ∧ P n s' := by
  obtain ⟨s', h1, h2⟩ := forN_ind (xs := rangeL a n) (f := f) P h0 fun i x s e p => by
    obtain ⟨k1, k2⟩ := rangeL_get e
    rw [k2]; exact h i s k1 p
  rw [rangeL_len] at h2
  exact ⟨s', h1, h2⟩
theorem forN_rangeB {a : Int} {n : Nat} {f : Int → σ → Option σ} {s : σ} {k : σ → Option γ} (Z : Option γ → Prop) (P : Nat → σ → Prop) (h0 : P 0 s) (h : ∀ (i : Nat) s, i < n → P i s → ∃ s', f (a + (i : Int)) s = some s' ∧ P (i + 1) s') (hz : ∀ s', P n s' → Z (k s')) : Z ((forN (rangeL a n) s f).bind k) := by
  obtain ⟨s', h1, h2⟩ := forN_rangeI (f := f) P h0 h
  rw [h1]
  exact hz s' h2
theorem forN_B {xs : List α} {f : α → σ → Option σ} {s : σ} {k : σ → Option γ} (Z : Option γ → Prop) (P : Nat → σ → Prop) (h0 : P 0 s) (h : ∀ (i : Nat) x s, xs[i]? = some x → P i s → ∃ s', f x s = some s' ∧ P (i + 1) s') (hz : ∀ s', P xs.length s' → Z (k s')) : Z ((forN xs s f).bind k) := by
  obtain ⟨s', h1, h2⟩ := forN_ind (f := f) P h0 h
  rw [h1]
  exact hz s' h2
/-- a search that finds nothing -/
theorem forL_ind {xs : List α} {f : α → σ → Option (Out σ σ ρ)} (P : Nat → σ → Prop) {s : σ} (h0 : P 0 s) (h : ∀ i x s, xs[i]? = some x → P i s → ∃ s', f x s = some (.nx s') ∧ P (i + 1) s') : ∃ s', forL xs s f = some (.inl s') ∧ P xs.length s' := by
  have key : ∀ (ys : List α) (k : Nat) (s : σ), k ≤ xs.length → xs.drop k = ys → P k s → ∃ s', forL ys s f = some (.inl s') ∧ P xs.length s' := by
    intro ys
    induction ys with
    | nil => intro k s hk e p
             have := List.drop_eq_nil_iff.mp e
             have e2 : k = xs.length := by omega
             subst e2
             exact ⟨s, rfl, p⟩
    | cons y ys ih => intro k s hk e p
                      obtain ⟨e1, e2⟩ := drop_cons e
                      obtain ⟨s', f1, f2⟩ := h k y s e1 p
                      have := (List.getElem?_eq_some_iff.mp e1).1
                      obtain ⟨s'', g1, g2⟩ := ih (k + 1) s' (by omega) e2 f2
                      exact ⟨s'', by unfold forL; rw [f1, Option.bind_some]; exact g1, g2⟩
  exact key xs 0 s (Nat.zero_le _) rfl h0
theorem forL_rangeI {a : Int} {n : Nat} {f : Int → σ → Option (Out σ σ ρ)} (P : Nat → σ → Prop) {s : σ} (h0 : P 0 s) (h : ∀ (i : Nat) s, i < n → P i s → ∃ s', f (a + (i : Int)) s = some (.nx s') ∧ P (i + 1) s') : ∃ s', forL (rangeL a n) s f = some (.inl s') ∧ P n s' := by
  obtain ⟨s', h1, h2⟩ := forL_ind (xs := rangeL a n) (f := f) P h0 fun i x s e p => by
    obtain ⟨k1, k2⟩ := rangeL_get e
    rw [k2]; exact h i s k1 p
  rw [rangeL_len] at h2
  exact ⟨s', h1, h2⟩
theorem forL_unit {xs : List α} {f : α → Unit → Option (Out Unit Unit ρ)} (h : ∀ x ∈ xs, f x () = some (.nx ())) : forL xs () f = some (.inl ()) := by
  obtain ⟨s', h1, _⟩ := forL_ind (xs := xs) (f := f) (s := ()) (fun _ _ => True) trivial fun i x s e _ => ⟨(), h x (List.mem_of_getElem? e), trivial⟩
  exact h1
theorem forL_rangeU {a : Int} {n : Nat} {f : Int → Unit → Option (Out Unit Unit ρ)} (h : ∀ i : Nat, i < n → f (a + (i : Int)) () = some (.nx ())) : forL (rangeL a n) () f = some (.inl ()) := by
  refine forL_unit fun x hx => ?_
  obtain ⟨i, hi⟩ := List.getElem?_of_mem hx
  obtain ⟨k1, k2⟩ := rangeL_get hi
  rw [k2]; exact h i k1
theorem range1_nat {n : Nat} (h : n ≤ 1000000000) : range1 (n : Int) = some (rangeL 0 n) := by
  unfold range1
  rw [grd_pos (by omega)]
  simp
theorem range1_int {n : Int} (h0 : 0 ≤ n) (h : n ≤ 1000000000) : range1 n = some (rangeL 0 n.toNat) := by
  unfold range1
  rw [grd_pos (by omega)]
theorem range2_int {a b : Int} (h0 : -1000000000 ≤ a) (h1 : a ≤ 1000000000) (h2 : -1000000000 ≤ b) (h3 : b ≤ 1000000000) : range2 a b = some (rangeL a (b - a).toNat) := by
  unfold range2
  rw [grd_pos (by omega)]
theorem mapO_eq {xs : List α} {f : α → Option β} (h : α → β) (hf : ∀ x ∈ xs, f x = some (h x)) : mapO xs f = some (xs.map h) := by
  induction xs with
  | nil => rfl
  | cons x xs ih =>
    unfold mapO
    rw [hf x (by simp), ih fun y hy => hf y (by simp [hy])]; rfl
theorem filO_eq {xs : List α} {t : α → Option Bool} {f : α → Option β} (p : α → Bool) (h : α → β) (ht : ∀ x ∈ xs, t x = some (p x)) (hf : ∀ x ∈ xs, p x = true → f x = some (h x)) : filO xs t f = some ((xs.filter p).map h) := by
  induction xs with
  | nil => rfl
  | cons x xs ih =>
    unfold filO
    rw [ht x (by simp), Option.bind_some, ih (fun y hy => ht y (by simp [hy])) fun y hy => hf y (by simp [hy])]
    cases hp : p x with
    | true => rw [if_pos rfl, hf x (by simp) hp, List.filter_cons_of_pos (by simpa using hp)]; rfl
    | false => rw [if_neg Bool.false_ne_true, List.filter_cons_of_neg (by simp [hp])]
/-- a cell of the script -/
theorem cell_lem (ns : List Int) (k : Nat) : (if decide ((k : Int) < (ns.length : Int)) = true then atI ns (k : Int) else some (0 : Int)) = some (ns.getD k 0) := by
  by_cases h : k < ns.length
  · have h2 : (k : Int) < (ns.length : Int) := by omega
    rw [decide_eq_true h2, if_pos rfl]
    have e : ns[k]? = some (ns.getD k 0) := by
      rw [List.getElem?_eq_getElem h, List.getD_eq_getElem?_getD, List.getElem?_eq_getElem h]; rfl
    rw [atI_nat e]
  · have h2 : ¬ (k : Int) < (ns.length : Int) := by omega
    rw [decide_eq_false h2, if_neg (by simp)]
    have e : ns.getD k 0 = 0 := by
      rw [List.getD_eq_getElem?_getD, List.getElem?_eq_none (by omega)]; rfl
    rw [e]
theorem atI_getD {xs : List α} {i : Int} (d : α) (h0 : 0 ≤ i) (h1 : i < (xs.length : Int)) : atI xs i = some (xs.getD i.toNat d) := by
  have hl : i.toNat < xs.length := by omega
  have e : xs[i.toNat]? = some (xs.getD i.toNat d) := by
    rw [List.getElem?_eq_getElem hl, List.getD_eq_getElem?_getD, List.getElem?_eq_getElem hl]; rfl
  have e2 := atI_nat e
  rw [show ((i.toNat : Nat) : Int) = i by omega] at e2
  exact e2
theorem atI_mem {xs : List α} {i : Int} (h0 : 0 ≤ i) (h1 : i < (xs.length : Int)) : ∃ x, x ∈ xs ∧ atI xs i = some x := by
  have hl : i.toNat < xs.length := by omega
  refine ⟨xs[i.toNat], List.getElem_mem _, ?_⟩
  have e2 := atI_nat (List.getElem?_eq_getElem hl)
  rw [show ((i.toNat : Nat) : Int) = i by omega] at e2
  exact e2
theorem log2_small {a : Int} {n : Nat} (h0 : -(2 ^ n) < a) (h : a < 2 ^ n) (hn : 0 < n) : a.natAbs.log2 < n := by
  by_cases hz : a = 0
  · subst hz; simpa using hn
  · rw [Nat.log2_lt (by omega)]
    have h2 : ((2 ^ n : Nat) : Int) = (2 : Int) ^ n := by simp
    omega
/-- the octets of a row drawn from a cell: each below the base -/
theorem row_step {c b m : Int} {s : Int × List Int} {i : Nat} (hb : 0 < b) (hb2 : b < 1000000) (hl : s.2.length = i) (hi : i < 1000000) (hx : ∀ x ∈ s.2, 0 ≤ x ∧ x < b) :
    ∃ s' : Int × List Int, (if decide ((10 : Int) ^ ((18 : Int) : Int).toNat ≤ c) = true then
        ((grd (0 < b) (some (s.1 % b))).bind fun v20 => grd (s.2.length < 16777216) (some (s.2 ++ [v20]))).bind fun (row_here_18 : List Int) => (grd (0 < b ∧ (b : Int).natAbs.log2 < 9000) (some (s.1 / b))).bind fun (number_19 : Int) => some (number_19, row_here_18)
      else
        ((grd (0 < b) (some (m % b))).bind fun v24 => grd (s.2.length < 16777216) (some (s.2 ++ [v24]))).bind fun (row_here_23 : List Int) => some (s.1, row_here_23)) = some s' ∧ s'.2.length = i + 1 ∧ ∀ x ∈ s'.2, 0 ≤ x ∧ x < b := by
  have hlog : (b : Int).natAbs.log2 < 9000 := Nat.lt_trans (log2_small (n := 20) (by omega) (by omega) (by omega)) (by omega)
  have add : ∀ (y : Int), 0 ≤ y → y < b → ∀ x ∈ s.2 ++ [y], 0 ≤ x ∧ x < b := fun y h1 h2 x hx' => by
    rcases List.mem_append.mp hx' with z | z
    · exact hx x z
    · have : x = y := by simpa using z
      rw [this]; exact ⟨h1, h2⟩
  split
  · rw [grd_pos hb, Option.bind_some, grd_pos (by omega), Option.bind_some, grd_pos ⟨hb, hlog⟩, Option.bind_some]
    exact ⟨_, rfl, by simp [hl], add _ (Int.emod_nonneg _ (by omega)) (Int.emod_lt_of_pos _ hb)⟩
  · rw [grd_pos hb, Option.bind_some, grd_pos (by omega), Option.bind_some]
    exact ⟨_, rfl, by simp [hl], add _ (Int.emod_nonneg _ (by omega)) (Int.emod_lt_of_pos _ hb)⟩
end
end ML

set_option Elab.async false
set_option linter.all false
set_option maxRecDepth 100000
set_option maxHeartbeats 2000000
namespace ML
open PySem PySem.Spec PyProof.Rows L2
section
variable {α β γ δ ρ τ : Type} {E : Ent} {env env' : En} {te ta tb tc ti : TE} {tt tu : TT} {u t t1 t2 : TS} {post : Post γ}
/-- what is never reached -/
theorem ev_never {S : α → SP} : EV E env te none S := fun st vs σ H Q x g hm hq => by cases hm
/-! ### items and length of a list of one's own -/
theorem ev_ixO {K : PySem.W.Frag} {φ : V → Prop} {T : Ty α} {xs : List α} {j : Nat} {mi : Option Int} (h : env[j]? = some (some (muL φ T xs))) (hi : EV E env ti mi (val tInt)) : EV E env (tOp (rIxL K) (tVar j) ti) (mi.bind fun i => atI xs i) (val T) := by
  intro st vs σ H Q c gg hm hq
  obtain ⟨i, ei, hm⟩ := Option.bind_eq_some_iff.mp hm
  obtain ⟨F, w, g⟩ := id gg
  obtain ⟨a, us, e1, hh, p, _⟩ := g.mutE h
  refine ⟨_, e1, hi st vs σ H _ i gg ei fun iv H2 ⟨F2, w2, g2⟩ => ?_⟩
  obtain ⟨a', us2, e2, hh2, p2, _⟩ := g2.mutE h
  rw [e1] at e2
  cases e2
  obtain ⟨v, f1, f2⟩ := atI_paired p2 hm
  exact ⟨a, us2, i, v, rfl, g2.top, .of hh2, f1, hq v H2 ⟨F2, w2, g2.pop.pushV f2⟩⟩
theorem ev_ixOp {K : PySem.W.Frag} {φ : V → Prop} {T : Ty α} {xs : List α} {j : Nat} {i : Int} (h : env[j]? = some (some (muL φ T xs))) (hi : EV E env ti (some i) (val tInt)) : EV E env (tOp (rIxL K) (tVar j) ti) (atI xs i) (val T) := ev_ixO h hi
theorem ev_lenO {K : PySem.W.Frag} {φ : V → Prop} {T : Ty α} {xs : List α} {j : Nat} (h : env[j]? = some (some (muL φ T xs))) : EV E env (tCB (fun vs H Q => ∃ p ys, vs = [V.ref p] ∧ (SqL K H p ys ∨ SqT K H p ys) ∧ Q (.int ys.length) H) (tCons (tVar j) tNil)) (some (xs.length : Int)) (val tInt) := by
  intro st vs σ H Q c gg hm hq
  cases hm
  obtain ⟨F, w, g⟩ := id gg
  obtain ⟨a, us, e1, hh, p, _⟩ := g.mutE h
  exact ⟨_, e1, a, us, rfl, .inl (.of hh), hq _ _ ⟨F, w, g.pushV (by show V.int _ = V.int _; rw [p.length])⟩⟩
/-! ### xs[::-1] -/
theorem ev_revL {K : PySem.W.Frag} {T : Ty α} {m : Option (List α)} (h : EV E env te m (val (tL T))) : EV E env (tRevL K te) (m.map List.reverse) (own T) := by
  intro st vs σ H Q c g hm hq
  obtain ⟨xs, exs, rfl⟩ := Option.map_eq_some_iff.mp hm
  refine h st vs σ H _ xs g exs fun v H1 ⟨F, w, g1⟩ => ?_
  obtain ⟨a, us, e, h', p⟩ := g1.top
  exact ⟨a, us, e, .of (g1.ext.s _ _ h'), fun p' hp => hq _ _ ⟨F, _, g1.pop.pushO hp ⟨p', _, rfl, trivial, fun b => Iff.rfl, upd_same, Paired.rev p⟩⟩⟩
theorem ev_revLp {K : PySem.W.Frag} {T : Ty α} {xs : List α} (h : EV E env te (some xs) (val (tL T))) : EV E env (tRevL K te) (some xs.reverse) (own T) := ev_revL h
theorem ev_revS {K : PySem.W.Frag} {T : Ty α} {m : Option (List α)} (h : EV E env te m (val (tS K T))) : EV E env (tRevL K te) (m.map List.reverse) (own T) := by
  intro st vs σ H Q c g hm hq
  obtain ⟨xs, exs, rfl⟩ := Option.map_eq_some_iff.mp hm
  refine h st vs σ H _ xs g exs fun v H1 ⟨F, w, g1⟩ => ?_
  obtain ⟨a, us, e, h', p⟩ := g1.top
  exact ⟨a, us, e, g1.ext.s.seq h', fun p' hp => hq _ _ ⟨F, _, g1.pop.pushO hp ⟨p', _, rfl, trivial, fun b => Iff.rfl, upd_same, Paired.rev p⟩⟩⟩
theorem ev_revSp {K : PySem.W.Frag} {T : Ty α} {xs : List α} (h : EV E env te (some xs) (val (tS K T))) : EV E env (tRevL K te) (some xs.reverse) (own T) := ev_revS h
end
/-! ### two arguments, one of them plain -/
section
variable {α β γ δ ρ τ : Type} {E : Ent} {env env' : En} {te ta tb tc ti : TE} {tt tu : TT} {u t t1 t2 : TS} {post : Post γ}
theorem ev_cb2r {r : List V → Hp → VK → Prop} {ma : Option α} {b : β} {mc : α → Option γ} {Sa : α → SP} {Sb : β → SP} {S : γ → SP} (ha : EV E env ta ma Sa) (hb : EV E env tb (some b) Sb) (hr : ∀ a, O2 (fun v u H Q => r [v, u] H Q) (Sa a) (Sb b) (mc a) S) :
    EV E env (tCB r (tCons ta (tCons tb tNil))) (ma.bind mc) S := by
  intro st vs σ H Q c g hm hq
  obtain ⟨a, ea, hm⟩ := Option.bind_eq_some_iff.mp hm
  exact ha st vs σ H _ a g ea fun va H1 g1 => hb _ _ σ H1 _ b g1 rfl fun vb H2 g2 => hr a E env st σ vs H2 Q va vb c g2 hm hq
theorem ev_cb2l {r : List V → Hp → VK → Prop} {a : α} {mb : Option β} {mc : β → Option γ} {Sa : α → SP} {Sb : β → SP} {S : γ → SP} (ha : EV E env ta (some a) Sa) (hb : EV E env tb mb Sb) (hr : ∀ b, O2 (fun v u H Q => r [v, u] H Q) (Sa a) (Sb b) (mc b) S) :
    EV E env (tCB r (tCons ta (tCons tb tNil))) (mb.bind mc) S := by
  intro st vs σ H Q c g hm hq
  obtain ⟨b, eb, hm⟩ := Option.bind_eq_some_iff.mp hm
  exact ha st vs σ H _ a g rfl fun va H1 g1 => hb _ _ σ H1 _ b g1 eb fun vb H2 g2 => hr b E env st σ vs H2 Q va vb c g2 hm hq
end
/-! ### the layer's rules with the constants named -/
section
variable {X : Cx} {K : PySem.W.Frag}
theorem ix_listK (h : X.K = K) : IxR X (rIxL K) := h ▸ ix_list
theorem ix_tupK (h : X.K = K) : IxR X (rIxT K) := h ▸ ix_tup
theorem sl_listK (h : X.K = K) : SlR X (rSlL K) := h ▸ sl_list
theorem call_len_seqK (h : X.K = K) : CallR X (.builtin "len") (fun xs H Q => ∃ p ys, xs = [.ref p] ∧ (SqL K H p ys ∨ SqT K H p ys) ∧ Q (.int ys.length) H) := h ▸ call_len_seq
theorem call_list_ofK (h : X.K = K) : CallR X (.type "list") (fun xs H Q => ∃ p ys, xs = [.ref p] ∧ (SqL K H p ys ∨ SqT K H p ys) ∧ ∀ l, H l = none → Q (.ref l) (upd H l (.lst ys))) := h ▸ call_list_of
theorem call_isiKK (h : X.K = K) : CallR X (.builtin "isinstance") (rIsi K) := h ▸ call_isi
theorem cr_sortedIK (h : X.K = K) : CallR X (.builtin "sorted") (rSortedI K) := h ▸ cr_sortedI
theorem op_eqDK (h : X.K = K) (hu : X.A.units + 64 < cLine) : OpR X (compareOp .Eq) (rEqD K) := h ▸ op_eqD hu
theorem op_neDK (h : X.K = K) (hu : X.A.units + 64 < cLine) : OpR X (compareOp .NotEq) (rNeD K) := h ▸ op_neD hu
theorem pi_listK {tg l : Expr} {tl : TE} (h : X.K = K) (hl : PE X l tl) : PI X tg l (iList K tl) := h ▸ pi_list hl
theorem pi_tupK {tg l : Expr} {tl : TE} (h : X.K = K) (hl : PE X l tl) : PI X tg l (iTup K tl) := h ▸ pi_tup hl
theorem pe_revLK {e : Expr} {te : TE} {k : Nat} {p1 p2 p3 pos : Pos} (h : X.K = K) (he : PE X e te) : PE X (.Subscript e (.Slice none none (some (.UnaryOp .USub (.Constant (.int 1) k p1) p2)) p3) pos) (tRevL K te) := h ▸ pe_revL he
theorem pg_tupK {es : List Expr} {k : Nat} {t : TGs} {n : Nat} {pos : Pos} (hK : X.K = K) (hc : X.calm = true) (h : PGs X es t)
    (hn : (assignEach es X.env).length = n := by rfl) (hst : (assignEach es X.env).findIdx? (·.1) = none := by rfl) : PG X (.Tuple es k pos) (gTup K n t) := hK ▸ pg_tup hc h hn hst
end
section
variable {α β γ δ ρ σ : Type}
theorem forL_B {xs : List α} {f : α → σ → Option (Out σ σ ρ)} {s : σ} {k : σ → Option γ} {h : ρ → Option γ} (Z : Option γ → Prop) (P : Nat → σ → Prop) (h0 : P 0 s) (hf : ∀ (i : Nat) x s, xs[i]? = some x → P i s → ∃ s', f x s = some (.nx s') ∧ P (i + 1) s') (hz : ∀ s', P xs.length s' → Z (k s')) : Z (thenS (forL xs s f) k h) := by
  obtain ⟨s', h1, h2⟩ := forL_ind (f := f) P h0 hf
  rw [h1]
  exact hz s' h2
theorem forL_rangeB {a : Int} {n : Nat} {f : Int → σ → Option (Out σ σ ρ)} {s : σ} {k : σ → Option γ} {h : ρ → Option γ} (Z : Option γ → Prop) (P : Nat → σ → Prop) (h0 : P 0 s) (hf : ∀ (i : Nat) s, i < n → P i s → ∃ s', f (a + (i : Int)) s = some (.nx s') ∧ P (i + 1) s') (hz : ∀ s', P n s' → Z (k s')) : Z (thenS (forL (rangeL a n) s f) k h) := by
  obtain ⟨s', h1, h2⟩ := forL_rangeI (f := f) P h0 hf
  rw [h1]
  exact hz s' h2
/-- a search that ends: either an item is found, first, or all are passed -/
theorem forL_find {xs : List α} {f : α → Unit → Option (Out Unit Unit ρ)} (g : α → Option ρ) (h : ∀ x ∈ xs, f x () = some (match g x with | some r => .ret r | none => .nx ())) : forL xs () f = some (match xs.findSome? g with | some r => .inr r | none => .inl ()) := by
  induction xs with
  | nil => rfl
  | cons x xs ih =>
    unfold forL
    rw [h x (by simp), List.findSome?_cons]
    cases hg : g x with
    | some r => rfl
    | none => exact ih fun y hy => h y (by simp [hy])
end
end ML

set_option Elab.async false
set_option linter.all false
set_option maxRecDepth 100000
set_option maxHeartbeats 2000000
/-! ML: calls that change what they are given -/
namespace ML
open PySem PySem.Spec PyProof.Rows L2
/-- this very value -/
def isSP (v : V) : SP := ⟨fun _ _ _ u => u = v, fun h _ _ => h⟩
def isVP (v : V) : VP := ⟨fun _ u => u = v, fun _ h => h⟩
def Pin (S : SP) (v : V) : Prop := ∀ (F H : Hp) (o : Addr → Prop) (u : V), S.ok F H o u → u = v
def pinV (p : Addr) : V → Prop := fun v => v = .ref p
def Pn (S : SP) (S' : Addr → SP) : Prop := ∀ (F H : Hp) (o : Addr → Prop) (u : V), S.ok F H o u → ∃ p, (S' p).ok F H o u
theorem pin_mu {α : Type} {T : Ty α} {xs : List α} {p : Addr} : Pin (muL (pinV p) T xs) (.ref p) := fun F H o u ⟨a, us, e, f, _⟩ => f
theorem pn_mu {α : Type} {φ : V → Prop} {T : Ty α} {xs : List α} : Pn (muL φ T xs) (fun p => muL (pinV p) T xs) := fun F H o u ⟨a, us, e, f, r⟩ => ⟨a, a, us, e, e, r⟩
theorem unpin_mu {α : Type} {φ : V → Prop} {T : Ty α} {xs : List α} : ∀ F H o v, (muL φ T xs).ok F H o v → (own T xs).ok F H o v := fun F H o u ⟨a, us, e, f, r⟩ => ⟨a, us, e, trivial, r⟩
/-- a part of what is owned -/
def Lens (S S1 : SP) (v1 : V) (plug : SP → SP) : Prop := ∀ (F H : Hp) (o : Addr → Prop) (u : V), S.ok F H o u → ∃ o1 : Addr → Prop, (∀ a, o1 a → o a) ∧ S1.ok F H o1 v1 ∧
  ∀ (F' H' : Hp) (o1' : Addr → Prop) (B : SP), Same F F' → (∀ a, o a → ¬ o1 a → H' a = H a) → (∀ a, o1' a → o a → o1 a) → B.ok F' H' o1' v1 → (plug B).ok F' H' (fun a => o1' a ∨ (o a ∧ ¬ o1 a)) u
theorem lens_id {S : SP} {v : V} (h : Pin S v) : Lens S S v id := fun F H o u k => ⟨o, fun _ z => z, by rw [← h F H o u k]; exact k, fun F' H' o1' B s h1 h2 b => by
  rw [h F H o u k, show (fun a => o1' a ∨ (o a ∧ ¬ o a)) = o1' from funext fun a => propext ⟨fun z => z.elim id (fun z => absurd z.1 z.2), .inl⟩]
  exact b⟩
/-! ### the promise -/
structure Pre (F H : Hp) (w : Ow) (As : List SP) (vs : List V) : Prop where
  s : Same F H
  len : As.length = vs.length
  ok : ∀ (k : Nat) (S : SP), As[k]? = some S → ∃ v, vs[k]? = some v ∧ S.ok F H (w.of (.e k)) v
  own : ∀ a l, w a = some l → F a = none ∧ H a ≠ none
structure Pst (F H : Hp) (w : Ow) (F' H' : Hp) (w' : Ow) (R : SP) (Bs : List (Option SP)) (v : V) (vs : List V) : Prop where
  ext : ExtE F H (fun a => w a ≠ none) F' H'
  ret : R.ok F' H' (w'.of (.s 0)) v
  ok : ∀ (k : Nat) (S : SP), Bs[k]? = some (some S) → ∃ u, vs[k]? = some u ∧ S.ok F' H' (w'.of (.e k)) u
  own : ∀ a l, w' a = some l → F' a = none ∧ H' a ≠ none ∧ (H a = none ∨ w a ≠ none)
def spG {A ρ : Type} (As : A → List SP) (f : A → Option ρ) (R : A → ρ → SP) (Bs : A → ρ → List (Option SP)) : Sp := fun vs H Q _ => ∃ (a : A) (r : ρ) (F : Hp) (w : Ow), Pre F H w (As a) vs ∧ f a = some r ∧ ∀ v F' H' w', Pst F H w F' H' w' (R a r) (Bs a r) v vs → Q v H'
theorem spG_len {A ρ : Type} {As : A → List SP} {f : A → Option ρ} {R : A → ρ → SP} {Bs : A → ρ → List (Option SP)} {vs : List V} {H : Hp} {Q : VK} {X : XK} {n : Nat} (h : spG As f R Bs vs H Q X) (hn : ∀ a, (As a).length = n) : vs.length = n := by
  obtain ⟨a, r, F, w, p, _⟩ := h
  rw [← p.len, hn]
section
variable {α β γ δ ρ τ : Type} {E : Ent} {env env' : En} {te ta tb tc ti : TE} {tt tu : TT} {u t t1 t2 : TS} {post : Post γ}
/-- the body's names at the entry -/
def enterS (n : Nat) (As : List SP) : En := As.map some ++ List.replicate (n - As.length) none
/-- THE RULE for a body -/
theorem run_G {A : Type} {As : A → List SP} {f : A → Option ρ} {R : A → ρ → SP} {Bs : A → ρ → List (Option SP)} {N : List Str} {vs : List V} {H : Hp} {Q : VK} {X : XK} {D : Ends} (h : spG As f R Bs vs H Q X) (hn : ∀ a, (As a).length ≤ N.length) (hD : D.rt = Q)
    (hp : ∀ (a : A) (r : ρ) (k : Nat) (S : SP), (Bs a r)[k]? = some (some S) → ∃ (v : V) (S0 : SP), Pin S v ∧ (As a)[k]? = some S0 ∧ Pin S0 v)
    (hb : ∀ (a : A) (E : Ent), BK E (enterS N.length (As a)) t (f a) (pR E (R a) (Bs a))) : t D (L2.start N vs) H := by
  obtain ⟨a, r, F, w, p, hf, q⟩ := h
  have g : GG ⟨F, H, fun a => w a ≠ none⟩ (enterS N.length (As a)) [] (L2.start N vs) [] H F w := by
    refine ⟨ExtE.refl p.s, ⟨by simp [enterS, L2.start, p.len], fun i S e => ?_⟩, trivial, fun b l e => ⟨(p.own b l e).1, (p.own b l e).2, .inr (by show w b ≠ none; rw [e]; intro z; cases z)⟩⟩
    unfold enterS at e
    by_cases hi : i < (As a).length
    · rw [List.getElem?_append_left (by simpa using hi)] at e
      rw [List.getElem?_map] at e
      obtain ⟨S', e1, e2⟩ := Option.map_eq_some_iff.mp e
      cases e2
      obtain ⟨v, e3, e4⟩ := p.ok i S e1
      refine ⟨v, ?_, e4⟩
      unfold L2.start
      rw [List.getElem?_append_left (by simp; rw [← p.len]; exact hi), List.getElem?_map, e3]
      rfl
    · rw [List.getElem?_append_right (by simp; omega)] at e
      have := List.mem_of_getElem? e
      simp at this
  refine hb a _ [] [] (L2.start N vs) H D r ⟨F, _, g⟩ hf fun v σ' H' ⟨F', w', g'⟩ => ?_
  rw [hD]
  refine q v F' H' w' ⟨g'.ext, g'.st.1, fun k S e => ?_, fun b l e => g'.own b l e⟩
  obtain ⟨u, e1, e2⟩ := g'.env.2 k S e
  obtain ⟨v0, S0, p1, p2, p3⟩ := hp a r k S e
  obtain ⟨v1, e3, e4⟩ := p.ok k S0 p2
  have := p1 _ _ _ _ e2
  have := p3 _ _ _ _ e4
  subst_vars
  exact ⟨_, e3, e2⟩
/-! ### the call -/
structure Nm where
  i : Nat
  k : Nat
  S : SP
  S1 : SP
  v : V
  plug : SP → SP
  B : SP
theorem callG {A : Type} {As : A → List SP} {f : A → Option ρ} {R : A → ρ → SP} {Bs : A → ρ → List (Option SP)} {st : List SP} {σ : L2.St} {vs : List V} {H F : Hp} {w : Ow} {Q : VK} {X : XK} (g : GG E env st σ vs H F w) (a : A) (r : ρ) (L : List Nm) (ps : List V)
    (hI : ∀ n ∈ L, ∀ m ∈ L, n.i = m.i → n = m) (hK : ∀ n ∈ L, ∀ m ∈ L, n.k = m.k → n = m) (hS : ∀ n ∈ L, env[n.i]? = some (some n.S) ∧ Lens n.S n.S1 n.v n.plug) (hlen : (As a).length = ps.length)
    (hps : ∀ (k : Nat) (S : SP), (As a)[k]? = some S → (∃ (q : VP) (v : V), S = q.sp ∧ ps[k]? = some v ∧ q.p F v) ∨ ∃ n ∈ L, n.k = k ∧ S = n.S1 ∧ ps[k]? = some n.v) (hf : f a = some r) (hB : ∀ n ∈ L, (Bs a r)[n.k]? = some (some n.B) ∧ ps[n.k]? = some n.v)
    (henv : env'.length ≤ env.length ∧ ∀ (i : Nat) (S' : SP), env'[i]? = some (some S') → (∃ n ∈ L, n.i = i ∧ S' = n.plug n.B) ∨ ((∀ n ∈ L, n.i ≠ i) ∧ env[i]? = some (some S')))
    (hq : ∀ v H', G E env' (R a r :: st) σ (v :: vs) H' → Q v H') : spG As f R Bs ps H Q X := by
  classical
  -- the parts
  have hp : ∀ n ∈ L, ∃ (u : V) (o1 : Addr → Prop), σ[n.i]? = some (some u) ∧ (∀ b, o1 b → w b = some (.e n.i)) ∧ n.S1.ok F H o1 n.v ∧
      ∀ (F' H' : Hp) (o1' : Addr → Prop) (B : SP), Same F F' → (∀ b, w b = some (.e n.i) → ¬ o1 b → H' b = H b) → (∀ b, o1' b → w b = some (.e n.i) → o1 b) → B.ok F' H' o1' n.v → (n.plug B).ok F' H' (fun b => o1' b ∨ (w b = some (.e n.i) ∧ ¬ o1 b)) u := fun n hn => by
    obtain ⟨e1, l⟩ := hS n hn
    obtain ⟨u, e2, e3⟩ := g.env.2 n.i _ e1
    obtain ⟨o1, k1, k2, k3⟩ := l F H _ u e3
    exact ⟨u, o1, e2, k1, k2, k3⟩
  have hp2 : ∀ n : Nm, ∃ y : V × (Addr → Prop), n ∈ L → (σ[n.i]? = some (some y.1) ∧ (∀ b, y.2 b → w b = some (.e n.i)) ∧ n.S1.ok F H y.2 n.v ∧
      ∀ (F' H' : Hp) (o1' : Addr → Prop) (B : SP), Same F F' → (∀ b, w b = some (.e n.i) → ¬ y.2 b → H' b = H b) → (∀ b, o1' b → w b = some (.e n.i) → y.2 b) → B.ok F' H' o1' n.v → (n.plug B).ok F' H' (fun b => o1' b ∨ (w b = some (.e n.i) ∧ ¬ y.2 b)) y.1) := fun n => by
    by_cases hn : n ∈ L
    · obtain ⟨u, o1, h1, h2, h3, h4⟩ := hp n hn
      exact ⟨(u, o1), fun _ => ⟨h1, h2, h3, h4⟩⟩
    · exact ⟨(.non, fun _ => False), fun z => absurd z hn⟩
  obtain ⟨ff, hff⟩ := Classical.axiomOfChoice hp2
  let O : Nm → Addr → Prop := fun n => (ff n).2
  let U : Nm → V := fun n => (ff n).1
  have hU : ∀ n ∈ L, σ[n.i]? = some (some (U n)) := fun n hn => (hff n hn).1
  have hO : ∀ n ∈ L, ∀ b, O n b → w b = some (.e n.i) := fun n hn => (hff n hn).2.1
  have hOk : ∀ n ∈ L, n.S1.ok F H (O n) n.v := fun n hn => (hff n hn).2.2.1
  have hOp := fun n hn => (hff n hn).2.2.2
  let wc : Ow := fun b => if h : ∃ n ∈ L, O n b then some (.e (Classical.choose h).k) else none
  have wc_of : ∀ n ∈ L, wc.of (.e n.k) = O n := fun n hn => funext fun b => propext (by
    show (if h : ∃ n ∈ L, O n b then some (Lb.e (Classical.choose h).k) else none) = some (.e n.k) ↔ O n b
    constructor
    · intro e
      by_cases h : ∃ n ∈ L, O n b
      · rw [dif_pos h] at e
        obtain ⟨c1, c2⟩ := Classical.choose_spec h
        injection e with e
        injection e with e
        rw [← hK _ c1 n hn e]; exact c2
      · rw [dif_neg h] at e; cases e
    · intro o
      have h : ∃ n ∈ L, O n b := ⟨n, hn, o⟩
      rw [dif_pos h]
      obtain ⟨c1, c2⟩ := Classical.choose_spec h
      have e1 := hO _ c1 b c2
      have e2 := hO n hn b o
      rw [e1] at e2
      injection e2 with e2
      injection e2 with e2
      rw [hI _ c1 n hn e2])
  have wc_in : ∀ b, wc b ≠ none → ∃ n ∈ L, O n b := fun b h => by
    by_cases z : ∃ n ∈ L, O n b
    · exact z
    · exact absurd (dif_neg z) h
  refine ⟨a, r, F, wc, ⟨g.ext.s, hlen, fun k S e => ?_, fun b l e => ?_⟩, hf, fun v F' H' w' z => hq v H' ?_⟩
  · rcases hps k S e with ⟨q, v, rfl, e1, e2⟩ | ⟨n, hn, rfl, rfl, e1⟩
    · exact ⟨v, e1, e2⟩
    · exact ⟨n.v, e1, by rw [wc_of n hn]; exact hOk n hn⟩
  · obtain ⟨n, hn, o⟩ := wc_in b (some_ne e)
    obtain ⟨q1, q2, _⟩ := g.own b _ (hO n hn b o)
    exact ⟨q1, q2⟩
  · -- behind
    have part : ∀ b, wc b ≠ none → ∃ n ∈ L, O n b ∧ w b = some (.e n.i) := fun b h => by
      obtain ⟨n, hn, o⟩ := wc_in b h
      exact ⟨n, hn, o, hO n hn b o⟩
    let wn : Ow := fun b => if w' b = some (.s 0) then some (.s st.length) else if h : ∃ n ∈ L, w' b = some (.e n.k) then some (.e (Classical.choose h).i) else if wc b ≠ none then none else if w b = some (.s st.length) then none else w b
    have keep : ∀ b, w' b ≠ none → wc b = none → w b = none := fun b h1 h2 => by
      obtain ⟨l, e⟩ := ne_some h1
      rcases (z.own b l e).2.2 with y | y
      · cases q : w b with
        | none => rfl
        | some l => exact absurd y (g.own b l q).2.1
      · exact absurd h2 y
    have wn_s : wn.of (.s st.length) = w'.of (.s 0) := funext fun b => propext (by
      show wn b = some (.s st.length) ↔ w' b = some (.s 0)
      constructor
      · intro e
        by_cases h0 : w' b = some (.s 0)
        · exact h0
        · have e' : (if w' b = some (.s 0) then some (Lb.s st.length) else if h : ∃ n ∈ L, w' b = some (.e n.k) then some (.e (Classical.choose h).i) else if wc b ≠ none then none else if w b = some (.s st.length) then none else w b) = some (.s st.length) := e
          rw [if_neg h0] at e'
          by_cases h1 : ∃ n ∈ L, w' b = some (.e n.k)
          · rw [dif_pos h1] at e'; cases e'
          · rw [dif_neg h1] at e'
            by_cases h2 : wc b ≠ none
            · rw [if_pos h2] at e'; cases e'
            · rw [if_neg h2] at e'
              by_cases h3 : w b = some (.s st.length)
              · rw [if_pos h3] at e'; cases e'
              · rw [if_neg h3] at e'; exact absurd e' h3
      · intro e
        exact if_pos e)
    have wn_other : ∀ l, l ≠ .s st.length → (∀ n ∈ L, l ≠ .e n.i) → ∀ b, wn b = some l ↔ w b = some l := fun l n1 n2 b => by
      show (if w' b = some (.s 0) then some (Lb.s st.length) else if h : ∃ n ∈ L, w' b = some (.e n.k) then some (.e (Classical.choose h).i) else if wc b ≠ none then none else if w b = some (.s st.length) then none else w b) = some l ↔ w b = some l
      by_cases h0 : w' b = some (.s 0)
      · rw [if_pos h0]
        refine ⟨fun e => absurd (Option.some.inj e).symm n1, fun e => ?_⟩
        by_cases h2 : wc b = none
        · rw [keep b (some_ne h0) h2] at e; cases e
        · obtain ⟨n, hn, _, e2⟩ := part b h2
          rw [e] at e2
          exact absurd (Option.some.inj e2) (n2 n hn)
      · rw [if_neg h0]
        by_cases h1 : ∃ n ∈ L, w' b = some (.e n.k)
        · rw [dif_pos h1]
          obtain ⟨c1, c2⟩ := Classical.choose_spec h1
          refine ⟨fun e => absurd (Option.some.inj e).symm (n2 _ c1), fun e => ?_⟩
          by_cases h2 : wc b = none
          · rw [keep b (some_ne c2) h2] at e; cases e
          · obtain ⟨n, hn, _, e2⟩ := part b h2
            rw [e] at e2
            exact absurd (Option.some.inj e2) (n2 n hn)
        · rw [dif_neg h1]
          by_cases h2 : wc b ≠ none
          · rw [if_pos h2]
            refine ⟨fun e => (by cases e), fun e => ?_⟩
            obtain ⟨n, hn, _, e2⟩ := part b h2
            rw [e] at e2
            exact absurd (Option.some.inj e2) (n2 n hn)
          · rw [if_neg h2]
            by_cases h3 : w b = some (.s st.length)
            · rw [if_pos h3]
              refine ⟨fun e => (by cases e), fun e => ?_⟩
              rw [h3] at e
              exact absurd (Option.some.inj e).symm n1
            · rw [if_neg h3]
    have wn_nm : ∀ n ∈ L, wn.of (.e n.i) = fun b => w'.of (.e n.k) b ∨ (w b = some (.e n.i) ∧ ¬ O n b ∧ w' b = none) := fun n hn => funext fun b => propext (by
      show (if w' b = some (.s 0) then some (Lb.s st.length) else if h : ∃ n ∈ L, w' b = some (.e n.k) then some (.e (Classical.choose h).i) else if wc b ≠ none then none else if w b = some (.s st.length) then none else w b) = some (.e n.i) ↔ w' b = some (.e n.k) ∨ (w b = some (.e n.i) ∧ ¬ O n b ∧ w' b = none)
      by_cases h0 : w' b = some (.s 0)
      · rw [if_pos h0]
        refine ⟨fun e => (by cases e), fun e => ?_⟩
        rcases e with e | ⟨_, _, e⟩
        · rw [h0] at e; cases e
        · rw [h0] at e; cases e
      · rw [if_neg h0]
        by_cases h1 : ∃ n ∈ L, w' b = some (.e n.k)
        · rw [dif_pos h1]
          obtain ⟨c1, c2⟩ := Classical.choose_spec h1
          constructor
          · intro e
            injection e with e
            injection e with e
            left
            rw [← hI _ c1 n hn e]; exact c2
          · rintro (e | ⟨_, _, e⟩)
            · rw [c2] at e
              injection e with e
              injection e with e
              rw [hK _ c1 n hn e]
            · rw [c2] at e; cases e
        · rw [dif_neg h1]
          have h1' : w' b ≠ some (.e n.k) := fun e => h1 ⟨n, hn, e⟩
          by_cases h2 : wc b ≠ none
          · rw [if_pos h2]
            refine ⟨fun e => (by cases e), ?_⟩
            rintro (e | ⟨e, no, _⟩)
            · exact absurd e h1'
            · obtain ⟨m, hm, o, e2⟩ := part b h2
              rw [e] at e2
              injection e2 with e2
              injection e2 with e2
              rw [hI n hn m hm e2] at no
              exact absurd o no
          · rw [if_neg h2]
            have h2' : wc b = none := by
              cases q : wc b with
              | none => rfl
              | some l => exact absurd (some_ne q) h2
            by_cases h3 : w b = some (.s st.length)
            · rw [if_pos h3]
              refine ⟨fun e => (by cases e), ?_⟩
              rintro (e | ⟨e, _⟩)
              · exact absurd e h1'
              · rw [h3] at e; cases e
            · rw [if_neg h3]
              constructor
              · intro e
                refine .inr ⟨e, fun o => ?_, ?_⟩
                · exact h2 (by show wc b ≠ none; rw [show wc b = some (.e n.k) from (congrFun (wc_of n hn) b).mpr o]; intro z; cases z)
                · cases q : w' b with
                  | none => rfl
                  | some l => rw [keep b (some_ne q) h2'] at e; cases e
              · rintro (e | ⟨e, _⟩)
                · exact absurd e h1'
                · exact e)
    have hH : ∀ b, w b ≠ none → wc b = none → H' b = H b := fun b h1 h2 => by
      obtain ⟨l, e⟩ := ne_some h1
      obtain ⟨o, eo⟩ := ne_some (g.own b l e).2.1
      rw [eo]
      exact z.ext.h b o (fun y => y h2) eo
    have sF : Same F F' := z.ext.f
    refine ⟨F', wn, ?_, ⟨Nat.le_trans henv.1 g.env.1, fun i S' e => ?_⟩, ⟨by rw [wn_s]; exact z.ret, ?_⟩, fun b l e => ?_⟩
    · exact g.ext.tr z.ext fun b hb => by
        obtain ⟨n, hn, o, e⟩ := part b hb
        exact (g.own b _ e).2.2
    · rcases henv.2 i S' e with ⟨n, hn, rfl, rfl⟩ | ⟨hn, e0⟩
      · obtain ⟨b1, b2⟩ := hB n hn
        obtain ⟨u', e1, e2⟩ := z.ok n.k n.B b1
        rw [b2] at e1
        cases e1
        refine ⟨U n, hU n hn, ?_⟩
        have key := hOp n hn F' H' (w'.of (.e n.k)) n.B sF (fun b e no => hH b (some_ne e) (by
          cases q : wc b with
          | none => rfl
          | some l =>
            obtain ⟨m, hm, o, e2⟩ := part b (some_ne q)
            rw [e] at e2
            injection e2 with e2
            injection e2 with e2
            rw [hI n hn m hm e2] at no
            exact absurd o no)) (fun b e1 e2 => by
          have hb : w' b ≠ none := some_ne e1
          cases q : wc b with
          | none => rw [keep b hb q] at e2; cases e2
          | some l =>
            obtain ⟨m, hm, o, e3⟩ := part b (some_ne q)
            rw [e2] at e3
            injection e3 with e3
            injection e3 with e3
            rw [hI n hn m hm e3]; exact o) e2
        have ee : wn.of (.e n.i) = fun b => w'.of (.e n.k) b ∨ (w b = some (.e n.i) ∧ ¬ O n b) := by
          rw [wn_nm n hn]
          funext b
          refine propext (or_congr Iff.rfl ⟨fun y => ⟨y.1, y.2.1⟩, fun y => ⟨y.1, y.2, ?_⟩⟩)
          cases q : w' b with
          | none => rfl
          | some l =>
            exfalso
            cases q2 : wc b with
            | none => have := keep b (some_ne q) q2; rw [this] at y; cases y.1
            | some l2 =>
              obtain ⟨m, hm, o, e3⟩ := part b (some_ne q2)
              rw [y.1] at e3
              injection e3 with e3
              injection e3 with e3
              rw [← hI n hn m hm e3] at o
              exact y.2 o
        rw [ee]
        exact key
      · obtain ⟨u', e1, e2⟩ := g.env.2 i S' e0
        refine ⟨u', e1, ?_⟩
        rw [ofq (wn_other (.e i) (by intro y; cases y) fun n hm y => by injection y with y; exact hn n hm y.symm)]
        refine S'.mono e2 sF fun b hb => hH b (some_ne hb) ?_
        cases q : wc b with
        | none => rfl
        | some l =>
          obtain ⟨m, hm, o, e3⟩ := part b (some_ne q)
          have hb' : w b = some (.e i) := hb
          rw [hb'] at e3
          injection e3 with e3
          injection e3 with e3
          exact absurd e3.symm (hn m hm)
    · have key : ∀ {st' : List SP} {vs' : List V}, StOk F H w st' vs' → st'.length ≤ st.length → StOk F' H' wn st' vs' := by
        intro st'
        induction st' with
        | nil => intro vs' h' _; cases vs' with
          | nil => trivial
          | cons _ _ => exact h'.elim
        | cons S st' ih => intro vs' h' hl; cases vs' with
          | nil => exact h'.elim
          | cons v' vs' =>
            refine ⟨?_, ih h'.2 (by simp at hl; omega)⟩
            rw [ofq (wn_other (.s st'.length) (by intro y; injection y with y; simp at hl; omega) fun n hm y => by cases y)]
            refine S.mono h'.1 sF fun b hb => hH b (some_ne hb) ?_
            cases q : wc b with
            | none => rfl
            | some l =>
              obtain ⟨m, hm, o, e3⟩ := part b (some_ne q)
              have hb' : w b = some (.s st'.length) := hb
              rw [hb'] at e3
              cases e3
      exact key g.st (Nat.le_refl _)
    · have e' : (if w' b = some (.s 0) then some (Lb.s st.length) else if h : ∃ n ∈ L, w' b = some (.e n.k) then some (.e (Classical.choose h).i) else if wc b ≠ none then none else if w b = some (.s st.length) then none else w b) = some l := e
      have old : ∀ l, w' b = some l → F' b = none ∧ H' b ≠ none ∧ (E.H b = none ∨ E.P b) := fun l h => by
        obtain ⟨q1, q2, q3⟩ := z.own b l h
        refine ⟨q1, q2, ?_⟩
        rcases q3 with y | y
        · exact .inl (g.ext.t b y)
        · obtain ⟨n, hn, _, e2⟩ := part b y
          exact (g.own b _ e2).2.2
      by_cases h0 : w' b = some (.s 0)
      · exact old _ h0
      · rw [if_neg h0] at e'
        by_cases h1 : ∃ n ∈ L, w' b = some (.e n.k)
        · obtain ⟨n, hn, e1⟩ := h1
          exact old _ e1
        · rw [dif_neg h1] at e'
          by_cases h2 : wc b ≠ none
          · rw [if_pos h2] at e'; cases e'
          · rw [if_neg h2] at e'
            by_cases h3 : w b = some (.s st.length)
            · rw [if_pos h3] at e'; cases e'
            · rw [if_neg h3] at e'
              have h2' : wc b = none := by
                cases q : wc b with
                | none => rfl
                | some l => exact absurd (some_ne q) h2
              obtain ⟨q1, q2, q3⟩ := g.own b l e'
              refine ⟨?_, ?_, q3⟩
              · rw [z.ext.n b (fun y => y h2') q2]; exact q1
              · rw [hH b (some_ne e') h2']; exact q2
end
end ML

set_option Elab.async false
set_option linter.all false
set_option maxRecDepth 100000
set_option maxHeartbeats 2000000
namespace ML
open PySem PySem.Spec PyProof.Rows L2
section
variable {α β γ δ ρ τ : Type} {E : Ent} {env env' : En} {te ta tb tc ti : TE} {tt tu : TT} {u t t1 t2 : TS} {post : Post γ}
/-- where a parameter's value comes from -/
inductive Src where
  | arg (j : Nat) | dfl (v : V)
def Src.sel (us : List V) : Src → V
  | .arg j => us.getD j .non
  | .dfl v => v
def MtOk (Ls : List SP) (L : List Nm) : Nat → List Src → List SP → Prop
  | _, [], [] => True
  | k, .arg j :: ss, S :: Ss => ((∃ q : VP, S = q.sp ∧ Ls[j]? = some q.sp) ∨ ∃ n ∈ L, n.k = k ∧ S = n.S1 ∧ Ls[j]? = some (isVP n.v).sp) ∧ MtOk Ls L (k + 1) ss Ss
  | k, .dfl v :: ss, S :: Ss => (∃ q : VP, S = q.sp ∧ ∀ F, q.p F v) ∧ MtOk Ls L (k + 1) ss Ss
  | _, _, _ => False
def setL (env : En) (L : List Nm) : En := L.foldl (fun e n => e.set n.i (some (n.plug n.B))) env
theorem setL_len (L : List Nm) : ∀ env : En, (setL env L).length = env.length := by
  induction L with
  | nil => intro env; rfl
  | cons n L ih => intro env; show (setL (env.set n.i _) L).length = _; rw [ih]; simp
theorem setL_get (L : List Nm) : ∀ (env : En) (i : Nat) (S' : SP), (setL env L)[i]? = some (some S') → (∃ n ∈ L, n.i = i ∧ S' = n.plug n.B) ∨ ((∀ n ∈ L, n.i ≠ i) ∧ env[i]? = some (some S')) := by
  induction L with
  | nil => intro env i S' h; exact .inr ⟨fun n hn => by simp at hn, h⟩
  | cons n L ih =>
    intro env i S' h
    rcases ih (env.set n.i (some (n.plug n.B))) i S' h with ⟨m, hm, e1, e2⟩ | ⟨h1, h2⟩
    · exact .inl ⟨m, by simp [hm], e1, e2⟩
    · by_cases hi : n.i = i
      · subst hi
        by_cases hl : n.i < env.length
        · rw [List.getElem?_set_self hl] at h2
          cases h2
          exact .inl ⟨n, by simp, rfl, rfl⟩
        · rw [List.getElem?_eq_none (by simp; omega)] at h2; cases h2
      · rw [List.getElem?_set_ne hi] at h2
        exact .inr ⟨fun m hm => by
          rcases List.mem_cons.mp hm with z | z
          · rw [z]; exact hi
          · exact h1 m z, h2⟩
/-- the names are apart, and what they hold has these parts -/
structure LOk (env : En) (L : List Nm) : Prop where
  i : ∀ n ∈ L, ∀ m ∈ L, n.i = m.i → n = m
  k : ∀ n ∈ L, ∀ m ∈ L, n.k = m.k → n = m
  s : ∀ n ∈ L, env[n.i]? = some (some n.S) ∧ Lens n.S n.S1 n.v n.plug
theorem lok0 : LOk env [] := ⟨fun n h => by simp at h, fun n h => by simp at h, fun n h => by simp at h⟩
theorem lok1 {n : Nm} (h : env[n.i]? = some (some n.S)) (l : Lens n.S n.S1 n.v n.plug) : LOk env [n] := ⟨fun a ha b hb _ => by simp at ha hb; rw [ha, hb], fun a ha b hb _ => by simp at ha hb; rw [ha, hb], fun a ha => by simp at ha; rw [ha]; exact ⟨h, l⟩⟩
theorem lok2 {n m : Nm} (h : env[n.i]? = some (some n.S)) (l : Lens n.S n.S1 n.v n.plug) (h2 : env[m.i]? = some (some m.S)) (l2 : Lens m.S m.S1 m.v m.plug) (hi : n.i ≠ m.i) (hk : n.k ≠ m.k) : LOk env [n, m] := ⟨fun a ha b hb e => by
    simp at ha hb
    rcases ha with rfl | rfl <;> rcases hb with rfl | rfl <;> first | rfl | exact absurd e hi | exact absurd e.symm hi, fun a ha b hb e => by
    simp at ha hb
    rcases ha with rfl | rfl <;> rcases hb with rfl | rfl <;> first | rfl | exact absurd e hk | exact absurd e.symm hk, fun a ha => by
    simp at ha
    rcases ha with rfl | rfl
    · exact ⟨h, l⟩
    · exact ⟨h2, l2⟩⟩
/-- what a call's arguments must be -/
structure GC {A : Type} (As : A → List SP) (f : A → Option ρ) (R : A → ρ → SP) (Bs : A → ρ → List (Option SP)) (S : ρ → SP) (L : List Nm) (src : List Src) (Ls : List SP) (c : ρ) (a : A) : Prop where
  f : f a = some c
  r : R a c = S c
  m : MtOk Ls L 0 src (As a)
  b : ∀ n ∈ L, (Bs a c)[n.k]? = some (some n.B) ∧ ∃ j, src[n.k]? = some (.arg j) ∧ Ls[j]? = some (isVP n.v).sp
theorem stok_at {F H : Hp} {w : Ow} : ∀ {Ss st : List SP} {us vs : List V}, StOk F H w (Ss ++ st) (us ++ vs) → us.length = Ss.length → ∀ (j : Nat) (q : VP), Ss.reverse[j]? = some q.sp → ∃ v, us.reverse[j]? = some v ∧ q.p F v := by
  intro Ss
  induction Ss with
  | nil => intro st us vs _ _ j q e; simp at e
  | cons S Ss ih =>
    intro st us vs h hl j q e
    cases us with
    | nil => simp at hl
    | cons v us =>
      have hl' : us.length = Ss.length := by simpa using hl
      rw [List.reverse_cons] at e ⊢
      by_cases hj : j < Ss.length
      · rw [List.getElem?_append_left (by simpa using hj)] at e
        obtain ⟨u, e1, e2⟩ := ih h.2 hl' j q e
        exact ⟨u, by rw [List.getElem?_append_left (by simp; omega)]; exact e1, e2⟩
      · by_cases hj2 : j = Ss.length
        · subst hj2
          rw [List.getElem?_append_right (by simp)] at e
          simp at e
          refine ⟨v, by rw [List.getElem?_append_right (by simp; omega)]; simp [hl'], ?_⟩
          have := h.1
          rw [e] at this
          exact this
        · rw [List.getElem?_eq_none (by simp; omega)] at e; cases e
theorem mt_at {F : Hp} {Ls : List SP} {L : List Nm} {us : List V} (hs : ∀ (j : Nat) (q : VP), Ls[j]? = some q.sp → ∃ v, us[j]? = some v ∧ q.p F v) : ∀ {src : List Src} {As : List SP} {k0 : Nat}, MtOk Ls L k0 src As → As.length = src.length ∧ ∀ (k : Nat) (S : SP), As[k]? = some S →
    (∃ (q : VP) (v : V), S = q.sp ∧ (src.map (Src.sel us))[k]? = some v ∧ q.p F v) ∨ ∃ n ∈ L, n.k = k0 + k ∧ S = n.S1 ∧ (src.map (Src.sel us))[k]? = some n.v
  | [], [], _, _ => ⟨rfl, fun k S e => by simp at e⟩
  | .arg j :: ss, S0 :: As, k0, h => by
    obtain ⟨h1, h2⟩ := h
    obtain ⟨l, r⟩ := mt_at hs h2
    refine ⟨by simp [l], fun k S e => ?_⟩
    cases k with
    | zero =>
      have e' : S0 = S := by simpa using e
      subst e'
      rcases h1 with ⟨q, e1, e2⟩ | ⟨n, hn, e1, e2, e3⟩
      · obtain ⟨v, f1, f2⟩ := hs j q e2
        exact .inl ⟨q, v, e1, by simp [Src.sel, List.getD_eq_getElem?_getD, f1], f2⟩
      · obtain ⟨v, f1, f2⟩ := hs j (isVP n.v) e3
        refine .inr ⟨n, hn, by omega, e2, ?_⟩
        have : v = n.v := f2
        subst this
        simp [Src.sel, List.getD_eq_getElem?_getD, f1]
    | succ k =>
      rcases r k S (by simpa using e) with ⟨q, v, r1, r2, r3⟩ | ⟨n, hn, r1, r2, r3⟩
      · exact .inl ⟨q, v, r1, by simpa using r2, r3⟩
      · exact .inr ⟨n, hn, by omega, r2, by simpa using r3⟩
  | .dfl v0 :: ss, S0 :: As, k0, h => by
    obtain ⟨⟨q0, e1, e2⟩, h2⟩ := h
    obtain ⟨l, r⟩ := mt_at hs h2
    refine ⟨by simp [l], fun k S e => ?_⟩
    cases k with
    | zero =>
      have e' : S0 = S := by simpa using e
      subst e'
      exact .inl ⟨q0, v0, e1, by simp [Src.sel], e2 F⟩
    | succ k =>
      rcases r k S (by simpa using e) with ⟨q, v, r1, r2, r3⟩ | ⟨n, hn, r1, r2, r3⟩
      · exact .inl ⟨q, v, r1, by simpa using r2, r3⟩
      · exact .inr ⟨n, hn, by omega, r2, by simpa using r3⟩
  | [], _ :: _, _, h => h.elim
  | .arg _ :: _, [], _, h => h.elim
  | .dfl _ :: _, [], _, h => h.elim
/-- the call, by values: us what was evaluated -/
theorem gc_call {A : Type} {As : A → List SP} {f : A → Option ρ} {R : A → ρ → SP} {Bs : A → ρ → List (Option SP)} {S : ρ → SP} {X : XK} {L : List Nm} {src : List Src} {Ss st : List SP} {us vs : List V} {σ : L2.St} {H : Hp} {Q : VK} {c : ρ} {a : A}
    (gc : GC As f R Bs S L src Ss.reverse c a) (hL : LOk env L) (hl : us.length = Ss.length) (g : G E env (Ss ++ st) σ (us.reverse ++ vs) H) (hq : ∀ v H', G E (setL env L) (S c :: st) σ (v :: vs) H' → Q v H') : spG As f R Bs (src.map (Src.sel us)) H Q X := by
  obtain ⟨F, w, g⟩ := g
  have hs : ∀ (j : Nat) (q : VP), Ss.reverse[j]? = some q.sp → ∃ v, us[j]? = some v ∧ q.p F v := fun j q e => by
    obtain ⟨v, e1, e2⟩ := stok_at g.st (by simpa using hl) j q e
    exact ⟨v, by simpa using e1, e2⟩
  obtain ⟨l, m⟩ := mt_at (F := F) hs gc.m
  refine callG (g.drop (by simp; omega)) a c L _ hL.i hL.k hL.s (by simpa using l) (fun k S e => ?_) gc.f (fun n hn => ?_) ⟨Nat.le_of_eq (setL_len L env), setL_get L env⟩ (fun v H' g' => hq v H' (by rw [← gc.r]; exact g'))
  · rcases m k S e with z | ⟨n, hn, z1, z2, z3⟩
    · exact .inl z
    · exact .inr ⟨n, hn, by omega, z2, z3⟩
  · obtain ⟨b1, j, b2, b3⟩ := gc.b n hn
    refine ⟨b1, ?_⟩
    obtain ⟨v, f1, f2⟩ := hs j (isVP n.v) b3
    rw [List.getElem?_map, b2]
    have : v = n.v := f2
    subst this
    simp [Src.sel, List.getD_eq_getElem?_getD, f1]
/-- an own thing is named -/
theorem ev_ad {i : Nat} {S : SP} {v : V} (h : env[i]? = some (some S)) (p : Pin S v) : EV E env (tVar i) (some ()) (fun _ => (isVP v).sp) := by
  intro st vs σ H Q x ⟨F, w, g⟩ hm hq
  cases hm
  obtain ⟨u, e1, e2⟩ := g.env.2 i S h
  have e3 := p F H _ u e2
  subst e3
  exact ⟨u, e1, hq u H ⟨F, w, g.re (fun a l e => ⟨l, e⟩) g.env ⟨rfl, g.st⟩⟩⟩
theorem bk_pin {S : SP} {S' : Addr → SP} (i : Nat) {m : Option γ} (h : env[i]? = some (some S)) (z : Pn S S') (hk : ∀ p, BK E (env.set i (some (S' p))) u m post) : BK E env u m post := by
  intro st vs σ H D y ⟨F, w, g⟩ hm hq
  have hi : i < env.length := (List.getElem?_eq_some_iff.mp h).1
  obtain ⟨v, e1, e2⟩ := g.env.2 i S h
  obtain ⟨p, e3⟩ := z F H _ v e2
  refine hk p st vs σ H D y ⟨F, w, g.re (fun a l e => ⟨l, e⟩) ⟨by simpa using g.env.1, fun j T e => ?_⟩ g.st⟩ hm hq
  by_cases hj : i = j
  · subst hj
    rw [List.getElem?_set_self hi] at e
    cases e
    exact ⟨v, e1, e3⟩
  · rw [List.getElem?_set_ne hj] at e
    exact g.env.2 j T e
/-- f(e, ..) -/
theorem ex_callG {A : Type} {As : A → List SP} {f : A → Option ρ} {R : A → ρ → SP} {Bs : A → ρ → List (Option SP)} {S : ρ → SP} {X : XK} {tA : TA} {m : Option ρ} {dvs : List V} (L : ρ → List Nm) (src : List Src) (n : Nat)
    (hsel : ∀ us : List V, us.length = n → us ++ dvs = src.map (Src.sel us)) (hL : ∀ c, LOk env (L c)) (ha : AX E env tA [] m fun c Ss => Ss.length = n ∧ ∃ a, GC As f R Bs S (L c) src Ss.reverse c a) : EX E env (tCall (spG As f R Bs) dvs X tA) m S fun c => setL env (L c) := by
  intro st vs σ H Q c gg hm hq
  refine ha st vs [] σ H _ c gg rfl hm fun us H' Ss ⟨hn, a, gc⟩ hl g => ?_
  rw [List.append_nil] at g
  rw [List.nil_append] at hl
  show spG As f R Bs (us ++ dvs) H' Q X
  rw [hsel us (by omega)]
  exact gc_call gc (hL c) hl.symm g fun v H2 g2 => hq v H2 g2
/-! ### calls with keywords -/
def AXK (n : Nat) {γ : Type} (E : Ent) (env : En) (t tk : TA) (acc : List SP) (m : Option γ) (Pc : γ → List SP → Prop) : Prop :=
  ∀ (st : List SP) (vs us0 : List V) (σ : L2.St) (H : Hp) (Q : List V → List V → Hp → Prop) (c : γ), G E env (acc ++ st) σ (us0 ++ vs) H → us0.length = acc.length → m = some c →
    (∀ us zs H' Ss, us.length = n → Pc c Ss → Ss.length = us0.length + us.length + zs.length → G E env (Ss ++ st) σ (zs.reverse ++ (us.reverse ++ (us0 ++ vs))) H' → Q us zs H') → t σ H fun us H1 => tk σ H1 fun zs H2 => Q us zs H2
theorem axk_nil {tk : TA} {acc : List SP} {m : Option γ} {Pc : γ → List SP → Prop} (h : AX E env tk acc m Pc) : AXK 0 E env tNil tk acc m Pc := by
  intro st vs us0 σ H Q c g hl hm hq
  exact h st vs us0 σ H (fun zs H2 => Q [] zs H2) c g hl hm fun us H' Ss hp hz g2 => hq [] us H' Ss rfl hp (by simp at hz ⊢; omega) (by simpa using g2)
theorem axk_cons {n : Nat} {tr tk : TA} {acc : List SP} {m1 : Option α} {m2 : α → Option γ} {S : α → SP} {Pc : γ → List SP → Prop} (h1 : EV E env te m1 S) (h2 : ∀ a, AXK n E env tr tk (S a :: acc) (m2 a) Pc) : AXK (n + 1) E env (tCons te tr) tk acc (m1.bind m2) Pc := by
  intro st vs us0 σ H Q c g hl hm hq
  obtain ⟨a, ea, hm⟩ := Option.bind_eq_some_iff.mp hm
  refine h1 _ _ σ H _ a g ea fun v H1 g1 => h2 a st vs (v :: us0) σ H1 (fun us zs H2 => Q (v :: us) zs H2) c g1 (by simp [hl]) hm fun us zs H' Ss hn hp hz g2 => hq (v :: us) zs H' Ss (by simp [hn]) hp (by simp at hz ⊢; omega) (by simpa using g2)
theorem ex_callN {A : Type} {As : A → List SP} {f : A → Option ρ} {R : A → ρ → SP} {Bs : A → ρ → List (Option SP)} {S : ρ → SP} {X : XK} {tA tk : TA} {m : Option ρ} {gV : List V → List V → List V} {n l : Nat} (L : ρ → List Nm) (src : List Src)
    (hsel : ∀ us zs : List V, us.length = n → zs.length = l → gV us zs = src.map (Src.sel (us ++ zs))) (hL : ∀ c, LOk env (L c)) (ha : AXK n E env tA tk [] m fun c Ss => Ss.length = n + l ∧ ∃ a, GC As f R Bs S (L c) src Ss.reverse c a) :
    EX E env (tCallN n l (spG As f R Bs) gV X tA tk) m S fun c => setL env (L c) := by
  intro st vs σ H Q c gg hm hq
  refine ha st vs [] σ H _ c gg rfl hm fun us zs H' Ss hn ⟨hs, a, gc⟩ hl g => ?_
  simp at hl
  have hz : zs.length = l := by omega
  refine ⟨hn, hz, ?_⟩
  show spG As f R Bs (gV us zs) H' Q X
  rw [hsel us zs hn hz]
  refine gc_call (us := us ++ zs) gc (hL c) (by simp; omega) ?_ fun v H2 g2 => hq v H2 g2
  simpa using g
end
/-! ### the layer's rule where nothing is positional -/
section
variable {X : Cx} {CX : CXT} {k : Nat} {f : Addr} {fd : FuncData} {ps ks : List Str} {sp : Sp} {E : XK} {x : Str} {p pos : Pos} {kws : List Keyword} {tk : TA} {g : List Value → List Value → List Value} {gV : List V → List V → List V}
theorem pe_callN0 (F : FnOk X.prog X.w X.K X.mg X.base CX k f fd ps sp) (hr : Room k X.A) (hg : Gl X x) (hm : X.mg x = some (.ref f)) (hk : PySem.W.keepIn X.K (.ref f) = true) (hb : KBn X.K fd ps 0 ks g gV) (hx : Passes CX X E) (hkw : PK X kws tk)
    (hall : (backToKw pos (keywordEach kws X.env)).all (·.1.isSome) = true := by rfl) (hks : (backToKw pos (keywordEach kws X.env)).filterMap (·.1) = ks := by rfl) (hdb : (x == ("__debug__" : Str)) = false := by decide)
    (hpl : ((backTo pos (starEach [] X.env)).any (·.1) || (backToKw pos (keywordEach kws X.env)).any (·.1.isNone)) = false := by rfl) :
    PE X (.Call (.Name x p) [] kws pos) (tCallN 0 ks.length sp gV E tNil tk) := by
  refine ⟨fun pins s σ H Q I h => ?_⟩
  refine wpAny_Call_Name_kw (ld_glob I hg hm ?_ hdb)
  refine PySem.W.callWith_KW0 (h₀ := X.base) I.ok.mod.kin hk hall ?_ hpl
  refine thn (hkw.run pos pins s σ H _ I h) fun ws s2 ⟨zs, H2, I2, rz, l1, l2, q2⟩ => ⟨I2.kIn, ?_⟩
  rw [hks]
  exact run_fnN (us := []) (vs := []) F hr hb hx I2 .nil rz rfl l2 q2
end
end ML

set_option Elab.async false
set_option linter.all false
set_option maxRecDepth 100000
set_option maxHeartbeats 2000000
namespace ML
open PySem PySem.Spec PyProof.Rows L2
section
variable {α β γ δ ρ τ : Type} {E : Ent} {env env' : En} {te ta tb tc ti : TE} {tt tu : TT} {u t t1 t2 : TS} {post : Post γ}
/-! ### tuples of one kind -/
theorem ev_tupU {T : Ty α} {t : TA} {m : Option (List α)} (h : AX E env t [] m fun c Ss => Ss = (c.map (val T)).reverse ∧ c.length ≤ 1000) : EV E env (tTup t) m (val (tU T)) := by
  intro st vs σ H Q c g hm hq
  refine h st vs [] σ H _ c g rfl hm fun us H' Ss ⟨hs, hc⟩ hl ⟨F, w, g'⟩ => ?_
  subst hs
  rw [← List.map_reverse] at g'
  have hlen : us.length = c.length := by simpa using hl.symm
  obtain ⟨p, q⟩ := vals_of (xs := c.reverse) (us := us.reverse) (by simpa using g'.st) (by simp [hlen])
  have p2 : Paired (T.rp F) us c := by simpa using Paired.rev p
  refine ⟨Nat.le_of_lt (small1000 (by omega)), fun a ha => ?_⟩
  have g0 : GG E env st σ vs H' F w := g'.re (fun a l e => ⟨l, e⟩) g'.env q
  have u := Ext.newF (F := F) (o := .tup us) g0.ext.s ha
  exact hq _ _ ⟨_, w, (g0.grow u).pushV ⟨a, us, rfl, upd_same, Paired.mono p2 fun _ _ => T.mono u.f⟩⟩
/-! ### x in xs, flat things -/
structure FC {α : Type} [DecidableEq α] (T : Ty α) where
  code : α → V
  rp : ∀ F v x, T.rp F v x → v = code x
  fl : ∀ x, flatV (code x) = true
  eq : ∀ x y, L2.eqV (code y) (code x) = decide (y = x)
def fcInt : FC tInt := ⟨V.int, fun _ _ _ h => h, fun _ => rfl, fun x y => by rw [Bool.eq_iff_iff]; simp [L2.eqV]⟩
def fcStr : FC tStr := ⟨V.str, fun _ _ _ h => h, fun _ => rfl, fun x y => by rw [Bool.eq_iff_iff]; simp [L2.eqV]⟩
theorem paired_code [DecidableEq α] {T : Ty α} (c : FC T) {F : Hp} : ∀ {vs : List V} {xs : List α}, Paired (T.rp F) vs xs → vs = xs.map c.code
  | _, _, .nil => rfl
  | _, _, .cons r t => by rw [paired_code c t, c.rp _ _ _ r]; rfl
theorem inV_code [DecidableEq α] {T : Ty α} (c : FC T) (x : α) : ∀ xs : List α, inV (c.code x) (xs.map c.code) = decide (x ∈ xs)
  | [] => by simp [inV]
  | y :: xs => by
    have ih := inV_code c x xs
    unfold inV at ih ⊢
    rw [List.map_cons, List.any_cons, ih, c.eq]
    by_cases h : y = x
    · subst h; simp
    · have h' : ¬ x = y := fun z => h z.symm
      simp [h, h']
theorem all_flat [DecidableEq α] {T : Ty α} (c : FC T) (xs : List α) : (xs.map c.code).all flatV = true := by
  rw [List.all_eq_true]
  intro v hv
  obtain ⟨x, _, e⟩ := List.mem_map.mp hv
  rw [← e]; exact c.fl x
theorem o2_inU {K : PySem.W.Frag} [DecidableEq α] {T : Ty α} (c : FC T) {x : α} {xs : List α} : O2 (rIn K false) (val T x) (val (tU T) xs) (some (decide (x ∈ xs))) (val tBool) := o2_mk fun k hm F H Q va vb s ha ⟨p, us, e, h, pp⟩ hq => by
  cases hm
  have e1 := c.rp F va x ha
  have e2 := paired_code c pp
  subst e1 e2
  exact ⟨p, _, e, .inr (.of (s _ _ h)), c.fl x, all_flat c xs, hq _ (by rw [inV_code]; rfl)⟩
theorem o2_inL {K : PySem.W.Frag} [DecidableEq α] {T : Ty α} (c : FC T) {x : α} {xs : List α} : O2 (rIn K false) (val T x) (val (tL T) xs) (some (decide (x ∈ xs))) (val tBool) := o2_mk fun k hm F H Q va vb s ha ⟨p, us, e, h, pp⟩ hq => by
  cases hm
  have e1 := c.rp F va x ha
  have e2 := paired_code c pp
  subst e1 e2
  exact ⟨p, _, e, .inl (.of (s _ _ h)), c.fl x, all_flat c xs, hq _ (by rw [inV_code]; rfl)⟩
end
section
variable {X : Cx} {K : PySem.W.Frag}
theorem op_in_seqK (h : X.K = K) : OpR X (compareOp .In) (rIn K false) := h ▸ op_in_seq
end
/-! ### keywords where there are no defaults -/
section
variable {K : PySem.W.Frag} {x qual : Str} {params : Arguments} {body : List Stmt} {scope : Scope} {kws : List (Str × V)} {f : Addr} {fd : FuncData} {ps : List Str}
theorem FunD.kbindsN (F : FunD K x qual params body scope [] kws f fd) (n : Nat) (ks : List Str)
    (h : ∀ (kV doc pm : Value) (an : Option Addr) (cdv ct : Value) (us ws : List Value), us.length = n → ws.length = ks.length → bindArgs (PySem.W.fnOf x qual params body scope .none kV doc pm an cdv ct) ⟨us, ks.zip ws⟩ = pure (ps.zip (us ++ ws))) : KBn K fd ps n ks (fun us ws => us ++ ws) (fun us ws => us ++ ws) := by
  obtain ⟨oc, od, dV, kV, doc, pm, an, cdv, ct, osl, rfl, lk, hcd, hD, hK⟩ := F.ex
  rcases hD with ⟨_, rfl⟩ | ⟨e, _⟩
  · exact ⟨fun s us ws X l1 l2 => .of_eq (h kV doc pm an cdv ct us ws l1 l2), fun r1 r2 => r1.append r2⟩
  · exact absurd rfl e
end
def CalK (P : Program) (w : World) (K : PySem.W.Frag) (mg : Str → Option Value) (base : Heap) (k : Nat) (y : Str) (ps : List Str) (n : Nat) (ks : List Str) (sp : Sp) : Prop :=
  ∃ (f : Addr) (fd : FuncData), mg y = some (.ref f) ∧ PySem.W.keepIn K (.ref f) = true ∧ KBn K fd ps n ks (fun us ws => us ++ ws) (fun us ws => us ++ ws) ∧ FnOk P w K mg base CX0 k f fd ps sp
end ML

set_option Elab.async false
set_option linter.all false
set_option maxRecDepth 100000
set_option maxHeartbeats 2000000
namespace LW
open PySem PySem.Spec PyProof.Rows L2 ML
abbrev law_ : PySem.W.OpenLaw := PySem.Challenge.rw_throughline_k39_phases
def topS (i : Nat) : Stmt := PySem.Challenge.pw_throughline_k39_phases.main.body.getD i (.Pass ⟨0, 0, 0, 0⟩)
/-- what the top has left -/
structure Txt (K : PySem.W.Frag) (mg : Str → Option Value) : Prop where
  b_int : mg "int" = none
  b_isinstance : mg "isinstance" = none
  b_len : mg "len" = none
  b_range : mg "range" = none
  b_str : mg "str" = none
def m_open_phase (finished : Bool) (answered : Bool) (theirs : Bool) : Option Str :=
  (if (!finished) = true then
  some (if theirs = true then (Str.ofString "close wait") else (Str.ofString "established"))
  else
  (if theirs = true then
  some (if answered = true then (Str.ofString "time wait") else (Str.ofString "closing"))
  else
  some (if answered = true then (Str.ofString "fin wait 2") else (Str.ofString "fin wait 1"))))
def m_next_phase (phase : Str) (opened : Bool) (finished : Bool) (answered : Bool) (theirs : Bool) : Option Str :=
  (if ((decide (phase = (Str.ofString "established"))) || ((decide (phase = (Str.ofString "syn received"))) && opened)) = true then
  m_open_phase finished answered theirs
  else
  (if (decide (phase ∈ ([(Str.ofString "fin wait 1"), (Str.ofString "fin wait 2"), (Str.ofString "closing")] : List Str))) = true then
  m_open_phase true answered theirs
  else
  (if ((decide (phase = (Str.ofString "close wait"))) && finished) = true then
  some (if answered = true then (Str.ofString "ended") else (Str.ofString "last ack"))
  else
  (if ((decide (phase = (Str.ofString "last ack"))) && answered) = true then
  some (Str.ofString "ended")
  else
  some phase))))
def m__law_rows (script : (List Int)) (count : Int) : Option (List Int) :=
  let rows_here_10 : (List Int) := ([] : List Int)
  (range1 count).bind fun l29 =>
  (forN l29 rows_here_10 fun x12 (s11 : (List Int)) =>
  let cell_13 : Int := (0 : Int)
  ((if (decide ((0 : Int) < (script.length : Int))) = true then
  (((grd (0 < (script.length : Int)) (some (x12 % (script.length : Int)))).bind fun v15 => atI script v15).bind fun v16 => some v16).bind fun (cell_17 : Int) =>
  some cell_17
  else
  some cell_13)).bind fun (s14 : Int) =>
  ((if (decide (s14 < (0 : Int))) = true then
  let cell_19 : Int := ((1 : Int) - ((2 : Int) * s14))
  some cell_19
  else
  some s14)).bind fun (s18 : Int) =>
  ((if ((decide ((script.length : Int) ≤ x12)) || (decide (s18 < (1000000000 : Int)))) = true then
  (((((grd ((x12 : Int).natAbs.log2 + (x12 : Int).natAbs.log2 < 1000000) (some (x12 * x12))).bind fun v21 => some (v21 * (69621 : Int))).bind fun v22 => some ((((s18 + ((131 : Int) * x12)) + (7 : Int)) * (48271 : Int)) + v22)).bind fun v23 => some v23).bind fun v24 => some (v24 % (1000000007 : Int))).bind fun (cell_25 : Int) =>
  let cell_26 : Int := ((((cell_25 + ((17 : Int) * x12)) + (3 : Int)) * (2862933555777941757 : Int)) % (18446744073709551557 : Int))
  some cell_26
  else
  some s18)).bind fun (s20 : Int) =>
  (grd (s11.length < 16777216) (some (s11 ++ [s20]))).bind fun (rows_here_27 : List Int) =>
  some rows_here_27).bind fun (s28 : (List Int)) =>
  some s28
def m__law_open (finished : Bool) (answered : Bool) (theirs : Bool) : Option Str :=
  (if (finished && theirs) = true then
  some (if answered = true then (Str.ofString "time wait") else (Str.ofString "closing"))
  else
  (if finished = true then
  some (if answered = true then (Str.ofString "fin wait 2") else (Str.ofString "fin wait 1"))
  else
  some (if theirs = true then (Str.ofString "close wait") else (Str.ofString "established"))))
def m__law_next (phase : Str) (opened : Bool) (finished : Bool) (answered : Bool) (theirs : Bool) : Option Str :=
  (if (decide (phase = (Str.ofString "syn received"))) = true then
  (if opened = true then m__law_open finished answered theirs else some phase)
  else
  (if (decide (phase = (Str.ofString "established"))) = true then
  m__law_open finished answered theirs
  else
  (if ((decide (phase = (Str.ofString "fin wait 1"))) || ((decide (phase = (Str.ofString "fin wait 2"))) || (decide (phase = (Str.ofString "closing"))))) = true then
  m__law_open true answered theirs
  else
  (if (decide (phase = (Str.ofString "close wait"))) = true then
  (if (!finished) = true then
  some phase
  else
  some (if answered = true then (Str.ofString "ended") else (Str.ofString "last ack")))
  else
  (if (decide (phase = (Str.ofString "last ack"))) = true then
  some (if answered = true then (Str.ofString "ended") else phase)
  else
  some phase)))))
def m_law (script : (List Int)) : Option Bool :=
  (m__law_rows script (60 : Int)).bind fun (rows_here_41 : (List Int)) =>
  let phases_49 : (List Str) := ([(Str.ofString "syn sent"), (Str.ofString "syn received"), (Str.ofString "established"), (Str.ofString "fin wait 1"), (Str.ofString "fin wait 2"), (Str.ofString "closing"), (Str.ofString "close wait")] : List Str)
  (grd (phases_49.length + ([(Str.ofString "last ack"), (Str.ofString "time wait"), (Str.ofString "ended")] : List Str).length ≤ 16777216) (some (phases_49 ++ ([(Str.ofString "last ack"), (Str.ofString "time wait"), (Str.ofString "ended")] : List Str)))).bind fun (phases_53 : (List Str)) =>
  (range1 ((160 : Int) + (60 : Int))).bind fun l88 =>
  thenS (forL l88 () fun x55 (s54 : Unit) =>
  let pick_56 : Int := x55
  ((if (decide ((160 : Int) ≤ x55)) = true then
  (((atI rows_here_41 (x55 - (160 : Int))).bind fun v58 => some v58).bind fun v59 => some (v59 % (160 : Int))).bind fun (pick_60 : Int) =>
  some pick_60
  else
  some pick_56)).bind fun (s57 : Int) =>
  let bits_61 : Int := (s57 / (10 : Int))
  let opened_62 : Bool := (decide ((bits_61 % (2 : Int)) = (1 : Int)))
  let finished_63 : Bool := (decide (((bits_61 / (2 : Int)) % (2 : Int)) = (1 : Int)))
  let answered_64 : Bool := (decide (((bits_61 / (4 : Int)) % (2 : Int)) = (1 : Int)))
  let theirs_65 : Bool := (decide (((bits_61 / (8 : Int)) % (2 : Int)) = (1 : Int)))
  (m_open_phase finished_63 answered_64 theirs_65).bind fun (told_69 : Str) =>
  (if (!true) = true then some true else ((m__law_open finished_63 answered_64 theirs_65).bind fun v73 => some (!decide (told_69 = v73)))).bind fun b =>
  if b = true then
  (some false).bind fun r => some (.ret r)
  else
  (atI phases_53 (s57 % (10 : Int))).bind fun (phase_74 : Str) =>
  (m_next_phase phase_74 opened_62 finished_63 answered_64 theirs_65).bind fun (told_80 : Str) =>
  (if (!true) = true then some true else ((m__law_next phase_74 opened_62 finished_63 answered_64 theirs_65).bind fun v86 => some (!decide (told_80 = v86)))).bind fun b =>
  if b = true then
  some (.ret false)
  else
  some (.nx ())) (fun (s87 : Unit) =>
  some true) fun r => some r
/-! ### open_phase -/
abbrev s_open_phase : Stmt := topS 1
abbrev N_open_phase : List Str := ["finished", "answered", "theirs"]
theorem sc_open_phase : FnScope N_open_phase ["finished", "answered", "theirs"] (defScope s_open_phase) := ⟨rfl, rfl, rfl, by decide +kernel, rfl, by decide +kernel, by decide +kernel⟩
abbrev sp_open_phase (K : PySem.W.Frag) : Sp := spG (fun a : Bool × Bool × Bool => [val tBool a.1, val tBool a.2.1, val tBool a.2.2]) (fun a => m_open_phase a.1 a.2.1 a.2.2) (fun _ => (val tStr)) (fun _ _ => [])
set_option maxHeartbeats 4000000 in
theorem ok_open_phase {P : Program} {w : World} {K : PySem.W.Frag} {mg : Str → Option Value} {base : Heap} {f : Addr} {fd : FuncData} (T : Txt K mg) (F : FunD K "open_phase" "open_phase" (defArgs s_open_phase) (defBody s_open_phase) (defScope s_open_phase) [] [] f fd)  : FnOk P w K mg base CX0 1 f fd ["finished", "answered", "theirs"] (sp_open_phase K) := by
  refine F.ok sc_open_phase (fun vs H Q E h => spG_len h fun _ => rfl) (fun cdv A outer s H vs Q E hr h => ?_)
  refine ⟨_, PSs.nox (pss_cons (ps_if (pt_not (pt_val (pv 0)))
       (pss_one (ps_ret (pe_ifExp (pt_val (pv 2)) pe_str pe_str)))
       pss_nil)
       (pss_cons (ps_if (pt_val (pv 2))
       (pss_one (ps_ret (pe_ifExp (pt_val (pv 1)) pe_str pe_str)))
       pss_nil)
       (pss_one (ps_ret (pe_ifExp (pt_val (pv 1)) pe_str pe_str))))), ?_⟩
  refine run_G h (fun _ => Nat.le_of_ble_eq_true rfl) rfl (by intros _ _ _ _ h; simp at h) ?_
  rintro ⟨finished, answered, theirs⟩ E0
  show BK _ [some (val tBool finished), some (val tBool answered), some (val tBool theirs)] _ (m_open_phase finished answered theirs) _
  exact bk_eq
    (show BK _ [some (val tBool finished), some (val tBool answered), some (val tBool theirs)] _ _ _ from (br_ifr (tx_notp (tx_b (ev_var (i := 0) (T := tBool) rfl))) (show BK _ [some (val tBool finished), some (val tBool answered), some (val tBool theirs)] _ _ _ from (br_ret (ev_ifp (tx_b (ev_var (i := 2) (T := tBool) rfl)) ev_str ev_str) fun _ => fgt_nil)) (show BK _ [some (val tBool finished), some (val tBool answered), some (val tBool theirs)] _ _ _ from (br_ifr (tx_b (ev_var (i := 2) (T := tBool) rfl)) (show BK _ [some (val tBool finished), some (val tBool answered), some (val tBool theirs)] _ _ _ from (br_ret (ev_ifp (tx_b (ev_var (i := 1) (T := tBool) rfl)) ev_str ev_str) fun _ => fgt_nil)) (show BK _ [some (val tBool finished), some (val tBool answered), some (val tBool theirs)] _ _ _ from (br_ret (ev_ifp (tx_b (ev_var (i := 1) (T := tBool) rfl)) ev_str ev_str) fun _ => fgt_nil))))))
    (by unfold m_open_phase; first | (simp -implicitDefEqProofs only [Option.bind_some, Option.map_some, id_eq]; done) | (simp -implicitDefEqProofs only [Option.bind_some, Option.map_some, id_eq, Option.bind_assoc]; done))
/-! ### next_phase -/
abbrev s_next_phase : Stmt := topS 2
abbrev N_next_phase : List Str := ["phase", "opened", "finished", "answered", "theirs"]
theorem sc_next_phase : FnScope N_next_phase ["phase", "opened", "finished", "answered", "theirs"] (defScope s_next_phase) := ⟨rfl, rfl, rfl, by decide +kernel, rfl, by decide +kernel, by decide +kernel⟩
abbrev sp_next_phase (K : PySem.W.Frag) : Sp := spG (fun a : Str × Bool × Bool × Bool × Bool => [val tStr a.1, val tBool a.2.1, val tBool a.2.2.1, val tBool a.2.2.2.1, val tBool a.2.2.2.2]) (fun a => m_next_phase a.1 a.2.1 a.2.2.1 a.2.2.2.1 a.2.2.2.2) (fun _ => (val tStr)) (fun _ _ => [])
set_option maxHeartbeats 4000000 in
theorem ok_next_phase {P : Program} {w : World} {K : PySem.W.Frag} {mg : Str → Option Value} {base : Heap} {f : Addr} {fd : FuncData} (T : Txt K mg) (F : FunD K "next_phase" "next_phase" (defArgs s_next_phase) (defBody s_next_phase) (defScope s_next_phase) [] [] f fd) (C_open_phase_k0 : CalK P w K mg base 1 "open_phase" ["finished", "answered", "theirs"] 0 ["finished", "answered", "theirs"] (sp_open_phase K)) : FnOk P w K mg base CX0 2 f fd ["phase", "opened", "finished", "answered", "theirs"] (sp_next_phase K) := by
  obtain ⟨f_open_phase_k0, fd_open_phase_k0, g_open_phase_k0, k_open_phase_k0, b_open_phase_k0, G_open_phase_k0⟩ := C_open_phase_k0
  refine F.ok sc_next_phase (fun vs H Q E h => spG_len h fun _ => rfl) (fun cdv A outer s H vs Q E hr h => ?_)
  refine ⟨_, PSs.nox (pss_cons (ps_if (PW.pt (pw_or (pt_cmpR op_eq (pv 0) pe_str (nomark _)) (pw_or1 (PW.pt (pw_and (pt_cmpR op_eq (pv 0) pe_str (nomark _)) (pw_and1 (pt_val (pv 1))))))))
       (pss_one (ps_ret (pe_callN0 G_open_phase_k0 (hr.mono (by decide)) (by rfl) g_open_phase_k0 k_open_phase_k0 b_open_phase_k0 pass0 (pk_cons (pv 2) (pk_cons (pv 3) (pk_cons (pv 4) pk_nil))))))
       pss_nil)
       (pss_cons (ps_if (pt_cmpR (op_in_seqK (K := K) rfl) (pv 0) (pe_tup (pa_cons pe_str (pa_cons pe_str (pa_cons pe_str pa_nil)))) (by rfl))
       (pss_one (ps_ret (pe_callN0 G_open_phase_k0 (hr.mono (by decide)) (by rfl) g_open_phase_k0 k_open_phase_k0 b_open_phase_k0 pass0 (pk_cons pe_bl (pk_cons (pv 3) (pk_cons (pv 4) pk_nil))))))
       pss_nil)
       (pss_cons (ps_if (PW.pt (pw_and (pt_cmpR op_eq (pv 0) pe_str (nomark _)) (pw_and1 (pt_val (pv 2)))))
       (pss_one (ps_ret (pe_ifExp (pt_val (pv 3)) pe_str pe_str)))
       pss_nil)
       (pss_cons (ps_if (PW.pt (pw_and (pt_cmpR op_eq (pv 0) pe_str (nomark _)) (pw_and1 (pt_val (pv 3)))))
       (pss_one (ps_ret pe_str))
       pss_nil)
       (pss_one (ps_ret (pv 0))))))), ?_⟩
  refine run_G h (fun _ => Nat.le_of_ble_eq_true rfl) rfl (by intros _ _ _ _ h; simp at h) ?_
  rintro ⟨phase, opened, finished, answered, theirs⟩ E0
  show BK _ [some (val tStr phase), some (val tBool opened), some (val tBool finished), some (val tBool answered), some (val tBool theirs)] _ (m_next_phase phase opened finished answered theirs) _
  exact bk_eq
    (show BK _ [some (val tStr phase), some (val tBool opened), some (val tBool finished), some (val tBool answered), some (val tBool theirs)] _ _ _ from (br_ifr (tx_orp (tx_e (ev_opp (ev_var (i := 0) (T := tStr) rfl) ev_str o2_eqS)) (tx_andp (tx_e (ev_opp (ev_var (i := 0) (T := tStr) rfl) ev_str o2_eqS)) (tx_b (ev_var (i := 1) (T := tBool) rfl)))) (show BK _ [some (val tStr phase), some (val tBool opened), some (val tBool finished), some (val tBool answered), some (val tBool theirs)] _ _ _ from (br_ret (ex_callN (S := (val tStr)) (n := 0) (l := 3) (fun _ => []) [.arg 0, .arg 1, .arg 2] (fun us zs h1 h2 => match us, zs, h1, h2 with | [], [_, _, _], _, _ => rfl) (fun _ => lok0) (axk_nil (ax_cons (ev_var (i := 2) (T := tBool) rfl) fun a1 => (ax_cons (ev_var (i := 3) (T := tBool) rfl) fun a2 => (ax_cons (ev_var (i := 4) (T := tBool) rfl) fun a3 => (ax_nil fun c h => ⟨rfl, ⟨a1, a2, a3⟩, ⟨h, rfl, ⟨.inl ⟨_, rfl, rfl⟩, .inl ⟨_, rfl, rfl⟩, .inl ⟨_, rfl, rfl⟩, trivial⟩, fun n hn => by cases hn⟩⟩)))))) fun _ => fgt_nil)) (show BK _ [some (val tStr phase), some (val tBool opened), some (val tBool finished), some (val tBool answered), some (val tBool theirs)] _ _ _ from (br_ifr (tx_e (ev_opp (ev_var (i := 0) (T := tStr) rfl) (ev_tupU (T := tStr) (ax_cons ev_str fun a4 => (ax_cons ev_str fun a5 => (ax_cons ev_str fun a6 => (ax_nil (m := some ([a4, a5, a6] : List Str)) fun c h => by cases h; exact ⟨rfl, Nat.le_of_ble_eq_true rfl⟩))))) (o2_inU fcStr))) (show BK _ [some (val tStr phase), some (val tBool opened), some (val tBool finished), some (val tBool answered), some (val tBool theirs)] _ _ _ from (br_ret (ex_callN (S := (val tStr)) (n := 0) (l := 3) (fun _ => []) [.arg 0, .arg 1, .arg 2] (fun us zs h1 h2 => match us, zs, h1, h2 with | [], [_, _, _], _, _ => rfl) (fun _ => lok0) (axk_nil (ax_cons ev_bl fun a7 => (ax_cons (ev_var (i := 3) (T := tBool) rfl) fun a8 => (ax_cons (ev_var (i := 4) (T := tBool) rfl) fun a9 => (ax_nil fun c h => ⟨rfl, ⟨a7, a8, a9⟩, ⟨h, rfl, ⟨.inl ⟨_, rfl, rfl⟩, .inl ⟨_, rfl, rfl⟩, .inl ⟨_, rfl, rfl⟩, trivial⟩, fun n hn => by cases hn⟩⟩)))))) fun _ => fgt_nil)) (show BK _ [some (val tStr phase), some (val tBool opened), some (val tBool finished), some (val tBool answered), some (val tBool theirs)] _ _ _ from (br_ifr (tx_andp (tx_e (ev_opp (ev_var (i := 0) (T := tStr) rfl) ev_str o2_eqS)) (tx_b (ev_var (i := 2) (T := tBool) rfl))) (show BK _ [some (val tStr phase), some (val tBool opened), some (val tBool finished), some (val tBool answered), some (val tBool theirs)] _ _ _ from (br_ret (ev_ifp (tx_b (ev_var (i := 3) (T := tBool) rfl)) ev_str ev_str) fun _ => fgt_nil)) (show BK _ [some (val tStr phase), some (val tBool opened), some (val tBool finished), some (val tBool answered), some (val tBool theirs)] _ _ _ from (br_ifr (tx_andp (tx_e (ev_opp (ev_var (i := 0) (T := tStr) rfl) ev_str o2_eqS)) (tx_b (ev_var (i := 3) (T := tBool) rfl))) (show BK _ [some (val tStr phase), some (val tBool opened), some (val tBool finished), some (val tBool answered), some (val tBool theirs)] _ _ _ from (br_ret ev_str fun _ => fgt_nil)) (show BK _ [some (val tStr phase), some (val tBool opened), some (val tBool finished), some (val tBool answered), some (val tBool theirs)] _ _ _ from (br_ret (ev_var (i := 0) (T := tStr) rfl) fun _ => fgt_nil))))))))))
    (by unfold m_next_phase; first | (simp -implicitDefEqProofs only [Option.bind_some, Option.map_some, id_eq]; done) | (simp -implicitDefEqProofs only [Option.bind_some, Option.map_some, id_eq, Option.bind_assoc]; done))
/-! ### _law_rows -/
abbrev s__law_rows : Stmt := topS 4
abbrev N__law_rows : List Str := ["_law_script", "_law_count", "_law_rows_here", "_law_k", "_law_cell"]
theorem sc__law_rows : FnScope N__law_rows ["_law_script", "_law_count"] (defScope s__law_rows) := ⟨rfl, rfl, rfl, by decide +kernel, rfl, by decide +kernel, by decide +kernel⟩
abbrev sp__law_rows (K : PySem.W.Frag) : Sp := spF (fun a : (List Int) × Int => [vp (tS K tInt) a.1, vp tInt a.2]) (fun a => m__law_rows a.1 a.2) (val (tL tInt))
set_option maxHeartbeats 4000000 in
theorem ok__law_rows {P : Program} {w : World} {K : PySem.W.Frag} {mg : Str → Option Value} {base : Heap} {f : Addr} {fd : FuncData} (T : Txt K mg) (F : FunD K "_law_rows" "_law_rows" (defArgs s__law_rows) (defBody s__law_rows) (defScope s__law_rows) [] [] f fd)  : FnOk P w K mg base CX0 1 f fd ["_law_script", "_law_count"] (sp__law_rows K) := by
  refine F.ok sc__law_rows (fun vs H Q E h => spF_len h fun _ => rfl) (fun cdv A outer s H vs Q E hr h => ?_)
  refine ⟨_, PSs.nox (pss_cons (ps_set (i := 2) sc__law_rows.nd rfl (.inl rfl) (pe_lst pa_nil))
       (pss_cons (ps_for PassesOwn.never rfl (pi_range1 (by rfl) T.b_range (pa_cons (pv 1) pa_nil)) (pg_name (i := 3) sc__law_rows.nd rfl (.inl rfl))
       (pss_cons (ps_set (i := 4) sc__law_rows.nd rfl (.inl rfl) pe_int)
       (pss_cons (ps_if (pt_cmpR op_gt (pe_callB (call_len_seqK (K := K) rfl) (by rfl) T.b_len boot_len (pa_cons (pv 0) pa_nil)) pe_int (nomark _))
       (pss_cons (ps_set (i := 4) sc__law_rows.nd rfl (.inl rfl) (pe_callTy call_int1 (by rfl) T.b_int boot_int (pa_cons (pe_ix (ix_listK (K := K) rfl) (pv 0) (pe_op op_mod (pe_callTy call_int1 (by rfl) T.b_int boot_int (pa_cons (pv 3) pa_nil)) (pe_callB (call_len_seqK (K := K) rfl) (by rfl) T.b_len boot_len (pa_cons (pv 0) pa_nil))) (fun _ _ => rfl)) pa_nil)))
       pss_nil)
       pss_nil)
       (pss_cons (ps_if (pt_cmpR op_lt (pv 4) pe_int (nomark _))
       (pss_cons (ps_set (i := 4) sc__law_rows.nd rfl (.inl rfl) (pe_op op_sub pe_int (pe_op op_mul pe_int (pv 4))))
       pss_nil)
       pss_nil)
       (pss_cons (ps_if (PW.pt (pw_or (pt_cmpR op_ge (pv 3) (pe_callB (call_len_seqK (K := K) rfl) (by rfl) T.b_len boot_len (pa_cons (pv 0) pa_nil)) (nomark _)) (pw_or1 (pt_cmpR op_lt (pv 4) pe_int (nomark _)))))
       (pss_cons (ps_set (i := 4) sc__law_rows.nd rfl (.inl rfl) (pe_op op_mod (pe_callTy call_int1 (by rfl) T.b_int boot_int (pa_cons (pe_op op_add (pe_op op_mul (pe_op op_add (pe_op op_add (pv 4) (pe_op op_mul pe_int (pv 3))) pe_int) pe_int) (pe_op op_mul (pe_op op_mulW (pv 3) (pv 3)) pe_int)) pa_nil)) pe_int))
       (pss_cons (ps_set (i := 4) sc__law_rows.nd rfl (.inl rfl) (pe_op op_mod (pe_callTy call_int1 (by rfl) T.b_int boot_int (pa_cons (pe_op op_mul (pe_op op_add (pe_op op_add (pv 4) (pe_op op_mul pe_int (pv 3))) pe_int) pe_int) pa_nil)) pe_int))
       pss_nil))
       pss_nil)
       (pss_cons (ps_expr (pe_bm PySem.F.plainAttrs_list PySem.F.slot_list_append PySem.F.type_list_append mt_append (pv 2) (pa_cons (pv 4) pa_nil)))
       pss_nil))))))
       (pss_one (ps_ret (pv 2))))), ?_⟩
  refine run_F (eR := fun _ => []) h (fun _ => Nat.le_of_ble_eq_true rfl) rfl ?_
  rintro ⟨script, count⟩ F0 H0
  show BK _ [some (val (tS K tInt) script), some (val tInt count), none, none, none] _ (m__law_rows script count) _
  exact bk_eq
    (show BK _ [some (val (tS K tInt) script), some (val tInt count), none, none, none] _ _ _ from (bk_asg (ev_lst (T := tInt) (ax_nil (m := some ([] : List Int)) fun c h => by cases h; exact ⟨rfl, Nat.le_of_ble_eq_true rfl⟩)) fun rows_here_10 => (show BK _ [some (val (tS K tInt) script), some (val tInt count), some (own tInt rows_here_10), none, none] _ _ _ from (bk_forN (eL := fun (s11 : (List Int)) => [some (val (tS K tInt) script), some (val tInt count), some (own tInt s11), none, none]) (s0 := rows_here_10) (ix_R1p (ev_var (i := 1) (T := tInt) rfl)) (fgt_c (fgt_c (fgt_c (fgt_n (fgt_n fgt_0))))) (fun x12 s11 => (as_name)) (fun x12 s11 => (show BK _ [some (val (tS K tInt) script), some (val tInt count), some (own tInt s11), some (val tInt x12), none] _ _ _ from (bk_asg ev_int fun cell_13 => (show BK _ [some (val (tS K tInt) script), some (val tInt count), some (own tInt s11), some (val tInt x12), some (val tInt cell_13)] _ _ _ from (bk_ifj (eJ := fun (s14 : Int) => [some (val (tS K tInt) script), some (val tInt count), some (own tInt s11), some (val tInt x12), some (val tInt s14)]) (tx_e (ev_opp (ev_cb1p (ev_var (i := 0) (T := (tS K tInt)) rfl) o1_lenS) ev_int o2_cmp)) (show BK _ [some (val (tS K tInt) script), some (val tInt count), some (own tInt s11), some (val tInt x12), some (val tInt cell_13)] _ _ _ from (bk_asg (ev_cb1 (ev_opl (ev_var (i := 0) (T := (tS K tInt)) rfl) (ev_opp (ev_cb1p (ev_var (i := 3) (T := tInt) rfl) o1_int) (ev_cb1p (ev_var (i := 0) (T := (tS K tInt)) rfl) o1_lenS) o2_mod) fun _ => o2_ixS) fun _ => o1_int) fun cell_17 => (show BK _ [some (val (tS K tInt) script), some (val tInt count), some (own tInt s11), some (val tInt x12), some (val tInt cell_17)] _ _ _ from (bn_nx (a := cell_17) (fgt_c (fgt_c (fgt_c (fgt_c (fgt_c fgt_0))))))))) (show BK _ [some (val (tS K tInt) script), some (val tInt count), some (own tInt s11), some (val tInt x12), some (val tInt cell_13)] _ _ _ from (bn_nx (a := cell_13) (fgt_c (fgt_c (fgt_c (fgt_c (fgt_c fgt_0))))))) fun s14 => (show BK _ [some (val (tS K tInt) script), some (val tInt count), some (own tInt s11), some (val tInt x12), some (val tInt s14)] _ _ _ from (bk_ifj (eJ := fun (s18 : Int) => [some (val (tS K tInt) script), some (val tInt count), some (own tInt s11), some (val tInt x12), some (val tInt s18)]) (tx_e (ev_opp (ev_var (i := 4) (T := tInt) rfl) ev_int o2_cmp)) (show BK _ [some (val (tS K tInt) script), some (val tInt count), some (own tInt s11), some (val tInt x12), some (val tInt s14)] _ _ _ from (bk_asg (ev_opp ev_int (ev_opp ev_int (ev_var (i := 4) (T := tInt) rfl) (o2_int (C := CMul) (.inl ⟨by decide, by decide⟩))) o2_int0) fun cell_19 => (show BK _ [some (val (tS K tInt) script), some (val tInt count), some (own tInt s11), some (val tInt x12), some (val tInt cell_19)] _ _ _ from (bn_nx (a := cell_19) (fgt_c (fgt_c (fgt_c (fgt_c (fgt_c fgt_0))))))))) (show BK _ [some (val (tS K tInt) script), some (val tInt count), some (own tInt s11), some (val tInt x12), some (val tInt s14)] _ _ _ from (bn_nx (a := s14) (fgt_c (fgt_c (fgt_c (fgt_c (fgt_c fgt_0))))))) fun s18 => (show BK _ [some (val (tS K tInt) script), some (val tInt count), some (own tInt s11), some (val tInt x12), some (val tInt s18)] _ _ _ from (bk_ifj (eJ := fun (s20 : Int) => [some (val (tS K tInt) script), some (val tInt count), some (own tInt s11), some (val tInt x12), some (val tInt s20)]) (tx_orp (tx_e (ev_opp (ev_var (i := 3) (T := tInt) rfl) (ev_cb1p (ev_var (i := 0) (T := (tS K tInt)) rfl) o1_lenS) o2_cmp)) (tx_e (ev_opp (ev_var (i := 4) (T := tInt) rfl) ev_int o2_cmp))) (show BK _ [some (val (tS K tInt) script), some (val tInt count), some (own tInt s11), some (val tInt x12), some (val tInt s18)] _ _ _ from (bk_asg (ev_opr (ev_cb1 (ev_opl (ev_opp (ev_opp (ev_opp (ev_var (i := 4) (T := tInt) rfl) (ev_opp ev_int (ev_var (i := 3) (T := tInt) rfl) (o2_int (C := CMul) (.inl ⟨by decide, by decide⟩))) o2_int0) ev_int o2_int0) ev_int (o2_int (C := CMul) (.inr ⟨by decide, by decide⟩))) (ev_opr (ev_opp (ev_var (i := 3) (T := tInt) rfl) (ev_var (i := 3) (T := tInt) rfl) o2_mulW) ev_int fun _ => (o2_int (C := CMul) (.inr ⟨by decide, by decide⟩))) fun _ => o2_int0) fun _ => o1_int) ev_int fun _ => (o2_int (C := fun _ j => 0 < j) (by decide))) fun cell_25 => (show BK _ [some (val (tS K tInt) script), some (val tInt count), some (own tInt s11), some (val tInt x12), some (val tInt cell_25)] _ _ _ from (bk_asg (ev_opp (ev_cb1p (ev_opp (ev_opp (ev_opp (ev_var (i := 4) (T := tInt) rfl) (ev_opp ev_int (ev_var (i := 3) (T := tInt) rfl) (o2_int (C := CMul) (.inl ⟨by decide, by decide⟩))) o2_int0) ev_int o2_int0) ev_int (o2_int (C := CMul) (.inr ⟨by decide, by decide⟩))) o1_int) ev_int (o2_int (C := fun _ j => 0 < j) (by decide))) fun cell_26 => (show BK _ [some (val (tS K tInt) script), some (val tInt count), some (own tInt s11), some (val tInt x12), some (val tInt cell_26)] _ _ _ from (bn_nx (a := cell_26) (fgt_c (fgt_c (fgt_c (fgt_c (fgt_c fgt_0))))))))))) (show BK _ [some (val (tS K tInt) script), some (val tInt count), some (own tInt s11), some (val tInt x12), some (val tInt s18)] _ _ _ from (bn_nx (a := s18) (fgt_c (fgt_c (fgt_c (fgt_c (fgt_c fgt_0))))))) fun s20 => (show BK _ [some (val (tS K tInt) script), some (val tInt count), some (own tInt s11), some (val tInt x12), some (val tInt s20)] _ _ _ from (bk_expr (ex_append rfl (ev_var (i := 4) (T := tInt) rfl)) fun rows_here_27 => (show BK _ [some (val (tS K tInt) script), some (val tInt count), some (own tInt rows_here_27), some (val tInt x12), some (val tInt s20)] _ _ _ from (bn_nx (a := rows_here_27) (fgt_c (fgt_c (fgt_c (fgt_n (fgt_n fgt_0)))))))))))))))))) fun s28 => (show BK _ [some (val (tS K tInt) script), some (val tInt count), some (own tInt s28), none, none] _ _ _ from (bk_frz 2 rfl (br_ret (ev_var (i := 2) (T := (tL tInt)) rfl) fun _ => fgt_nil)))))))
    (by unfold m__law_rows; first | (simp -implicitDefEqProofs only [Option.bind_some, Option.map_some, id_eq]; done) | (simp -implicitDefEqProofs only [Option.bind_some, Option.map_some, id_eq, Option.bind_assoc]; done))
/-! ### _law_open -/
abbrev s__law_open : Stmt := topS 5
abbrev N__law_open : List Str := ["_law_finished", "_law_answered", "_law_theirs"]
theorem sc__law_open : FnScope N__law_open ["_law_finished", "_law_answered", "_law_theirs"] (defScope s__law_open) := ⟨rfl, rfl, rfl, by decide +kernel, rfl, by decide +kernel, by decide +kernel⟩
abbrev sp__law_open (K : PySem.W.Frag) : Sp := spF (fun a : Bool × Bool × Bool => [vp tBool a.1, vp tBool a.2.1, vp tBool a.2.2]) (fun a => m__law_open a.1 a.2.1 a.2.2) (val tStr)
set_option maxHeartbeats 4000000 in
theorem ok__law_open {P : Program} {w : World} {K : PySem.W.Frag} {mg : Str → Option Value} {base : Heap} {f : Addr} {fd : FuncData} (T : Txt K mg) (F : FunD K "_law_open" "_law_open" (defArgs s__law_open) (defBody s__law_open) (defScope s__law_open) [] [] f fd)  : FnOk P w K mg base CX0 1 f fd ["_law_finished", "_law_answered", "_law_theirs"] (sp__law_open K) := by
  refine F.ok sc__law_open (fun vs H Q E h => spF_len h fun _ => rfl) (fun cdv A outer s H vs Q E hr h => ?_)
  refine ⟨_, PSs.nox (pss_cons (ps_if (PW.pt (pw_and (pt_val (pv 0)) (pw_and1 (pt_val (pv 2)))))
       (pss_one (ps_ret (pe_ifExp (pt_val (pv 1)) pe_str pe_str)))
       pss_nil)
       (pss_cons (ps_if (pt_val (pv 0))
       (pss_one (ps_ret (pe_ifExp (pt_val (pv 1)) pe_str pe_str)))
       pss_nil)
       (pss_one (ps_ret (pe_ifExp (pt_val (pv 2)) pe_str pe_str))))), ?_⟩
  refine run_F (eR := fun _ => []) h (fun _ => Nat.le_of_ble_eq_true rfl) rfl ?_
  rintro ⟨finished, answered, theirs⟩ F0 H0
  show BK _ [some (val tBool finished), some (val tBool answered), some (val tBool theirs)] _ (m__law_open finished answered theirs) _
  exact bk_eq
    (show BK _ [some (val tBool finished), some (val tBool answered), some (val tBool theirs)] _ _ _ from (br_ifr (tx_andp (tx_b (ev_var (i := 0) (T := tBool) rfl)) (tx_b (ev_var (i := 2) (T := tBool) rfl))) (show BK _ [some (val tBool finished), some (val tBool answered), some (val tBool theirs)] _ _ _ from (br_ret (ev_ifp (tx_b (ev_var (i := 1) (T := tBool) rfl)) ev_str ev_str) fun _ => fgt_nil)) (show BK _ [some (val tBool finished), some (val tBool answered), some (val tBool theirs)] _ _ _ from (br_ifr (tx_b (ev_var (i := 0) (T := tBool) rfl)) (show BK _ [some (val tBool finished), some (val tBool answered), some (val tBool theirs)] _ _ _ from (br_ret (ev_ifp (tx_b (ev_var (i := 1) (T := tBool) rfl)) ev_str ev_str) fun _ => fgt_nil)) (show BK _ [some (val tBool finished), some (val tBool answered), some (val tBool theirs)] _ _ _ from (br_ret (ev_ifp (tx_b (ev_var (i := 2) (T := tBool) rfl)) ev_str ev_str) fun _ => fgt_nil))))))
    (by unfold m__law_open; first | (simp -implicitDefEqProofs only [Option.bind_some, Option.map_some, id_eq]; done) | (simp -implicitDefEqProofs only [Option.bind_some, Option.map_some, id_eq, Option.bind_assoc]; done))
/-! ### _law_next -/
abbrev s__law_next : Stmt := topS 6
abbrev N__law_next : List Str := ["_law_phase", "_law_opened", "_law_finished", "_law_answered", "_law_theirs"]
theorem sc__law_next : FnScope N__law_next ["_law_phase", "_law_opened", "_law_finished", "_law_answered", "_law_theirs"] (defScope s__law_next) := ⟨rfl, rfl, rfl, by decide +kernel, rfl, by decide +kernel, by decide +kernel⟩
abbrev sp__law_next (K : PySem.W.Frag) : Sp := spF (fun a : Str × Bool × Bool × Bool × Bool => [vp tStr a.1, vp tBool a.2.1, vp tBool a.2.2.1, vp tBool a.2.2.2.1, vp tBool a.2.2.2.2]) (fun a => m__law_next a.1 a.2.1 a.2.2.1 a.2.2.2.1 a.2.2.2.2) (val tStr)
set_option maxHeartbeats 4000000 in
theorem ok__law_next {P : Program} {w : World} {K : PySem.W.Frag} {mg : Str → Option Value} {base : Heap} {f : Addr} {fd : FuncData} (T : Txt K mg) (F : FunD K "_law_next" "_law_next" (defArgs s__law_next) (defBody s__law_next) (defScope s__law_next) [] [] f fd) (C__law_open : Cal P w K mg base 1 "_law_open" ["_law_finished", "_law_answered", "_law_theirs"] (sp__law_open K)) : FnOk P w K mg base CX0 2 f fd ["_law_phase", "_law_opened", "_law_finished", "_law_answered", "_law_theirs"] (sp__law_next K) := by
  obtain ⟨f__law_open, fd__law_open, g__law_open, k__law_open, b__law_open, G__law_open⟩ := C__law_open
  refine F.ok sc__law_next (fun vs H Q E h => spF_len h fun _ => rfl) (fun cdv A outer s H vs Q E hr h => ?_)
  refine ⟨_, PSs.nox (pss_cons (ps_if (pt_cmpR op_eq (pv 0) pe_str (nomark _))
       (pss_one (ps_ret (pe_ifExp (pt_val (pv 1)) (pe_call G__law_open (hr.mono (by decide)) (by rfl) g__law_open k__law_open b__law_open .nil pass0 (pa_cons (pv 2) (pa_cons (pv 3) (pa_cons (pv 4) pa_nil)))) (pv 0))))
       pss_nil)
       (pss_cons (ps_if (pt_cmpR op_eq (pv 0) pe_str (nomark _))
       (pss_one (ps_ret (pe_call G__law_open (hr.mono (by decide)) (by rfl) g__law_open k__law_open b__law_open .nil pass0 (pa_cons (pv 2) (pa_cons (pv 3) (pa_cons (pv 4) pa_nil))))))
       pss_nil)
       (pss_cons (ps_if (PW.pt (pw_or (pt_cmpR op_eq (pv 0) pe_str (nomark _)) (pw_or (pt_cmpR op_eq (pv 0) pe_str (nomark _)) (pw_or1 (pt_cmpR op_eq (pv 0) pe_str (nomark _))))))
       (pss_one (ps_ret (pe_call G__law_open (hr.mono (by decide)) (by rfl) g__law_open k__law_open b__law_open .nil pass0 (pa_cons pe_bl (pa_cons (pv 3) (pa_cons (pv 4) pa_nil))))))
       pss_nil)
       (pss_cons (ps_if (pt_cmpR op_eq (pv 0) pe_str (nomark _))
       (pss_cons (ps_if (pt_not (pt_val (pv 2)))
       (pss_one (ps_ret (pv 0)))
       pss_nil)
       (pss_one (ps_ret (pe_ifExp (pt_val (pv 3)) pe_str pe_str))))
       pss_nil)
       (pss_cons (ps_if (pt_cmpR op_eq (pv 0) pe_str (nomark _))
       (pss_one (ps_ret (pe_ifExp (pt_val (pv 3)) pe_str (pv 0))))
       pss_nil)
       (pss_one (ps_ret (pv 0)))))))), ?_⟩
  refine run_F (eR := fun _ => []) h (fun _ => Nat.le_of_ble_eq_true rfl) rfl ?_
  rintro ⟨phase, opened, finished, answered, theirs⟩ F0 H0
  show BK _ [some (val tStr phase), some (val tBool opened), some (val tBool finished), some (val tBool answered), some (val tBool theirs)] _ (m__law_next phase opened finished answered theirs) _
  exact bk_eq
    (show BK _ [some (val tStr phase), some (val tBool opened), some (val tBool finished), some (val tBool answered), some (val tBool theirs)] _ _ _ from (br_ifr (tx_e (ev_opp (ev_var (i := 0) (T := tStr) rfl) ev_str o2_eqS)) (show BK _ [some (val tStr phase), some (val tBool opened), some (val tBool finished), some (val tBool answered), some (val tBool theirs)] _ _ _ from (br_ret (ev_if (tx_b (ev_var (i := 1) (T := tBool) rfl)) (ev_call (ax_cons (ev_var (i := 2) (T := tBool) rfl) fun a30 => (ax_cons (ev_var (i := 3) (T := tBool) rfl) fun a31 => (ax_cons (ev_var (i := 4) (T := tBool) rfl) fun a32 => (ax_nil fun c h => ⟨⟨a30, a31, a32⟩, rfl, h⟩))))) (ev_var (i := 0) (T := tStr) rfl)) fun _ => fgt_nil)) (show BK _ [some (val tStr phase), some (val tBool opened), some (val tBool finished), some (val tBool answered), some (val tBool theirs)] _ _ _ from (br_ifr (tx_e (ev_opp (ev_var (i := 0) (T := tStr) rfl) ev_str o2_eqS)) (show BK _ [some (val tStr phase), some (val tBool opened), some (val tBool finished), some (val tBool answered), some (val tBool theirs)] _ _ _ from (br_ret (ev_call (ax_cons (ev_var (i := 2) (T := tBool) rfl) fun a33 => (ax_cons (ev_var (i := 3) (T := tBool) rfl) fun a34 => (ax_cons (ev_var (i := 4) (T := tBool) rfl) fun a35 => (ax_nil fun c h => ⟨⟨a33, a34, a35⟩, rfl, h⟩))))) fun _ => fgt_nil)) (show BK _ [some (val tStr phase), some (val tBool opened), some (val tBool finished), some (val tBool answered), some (val tBool theirs)] _ _ _ from (br_ifr (tx_orp (tx_e (ev_opp (ev_var (i := 0) (T := tStr) rfl) ev_str o2_eqS)) (tx_orp (tx_e (ev_opp (ev_var (i := 0) (T := tStr) rfl) ev_str o2_eqS)) (tx_e (ev_opp (ev_var (i := 0) (T := tStr) rfl) ev_str o2_eqS)))) (show BK _ [some (val tStr phase), some (val tBool opened), some (val tBool finished), some (val tBool answered), some (val tBool theirs)] _ _ _ from (br_ret (ev_call (ax_cons ev_bl fun a36 => (ax_cons (ev_var (i := 3) (T := tBool) rfl) fun a37 => (ax_cons (ev_var (i := 4) (T := tBool) rfl) fun a38 => (ax_nil fun c h => ⟨⟨a36, a37, a38⟩, rfl, h⟩))))) fun _ => fgt_nil)) (show BK _ [some (val tStr phase), some (val tBool opened), some (val tBool finished), some (val tBool answered), some (val tBool theirs)] _ _ _ from (br_ifr (tx_e (ev_opp (ev_var (i := 0) (T := tStr) rfl) ev_str o2_eqS)) (show BK _ [some (val tStr phase), some (val tBool opened), some (val tBool finished), some (val tBool answered), some (val tBool theirs)] _ _ _ from (br_ifr (tx_notp (tx_b (ev_var (i := 2) (T := tBool) rfl))) (show BK _ [some (val tStr phase), some (val tBool opened), some (val tBool finished), some (val tBool answered), some (val tBool theirs)] _ _ _ from (br_ret (ev_var (i := 0) (T := tStr) rfl) fun _ => fgt_nil)) (show BK _ [some (val tStr phase), some (val tBool opened), some (val tBool finished), some (val tBool answered), some (val tBool theirs)] _ _ _ from (br_ret (ev_ifp (tx_b (ev_var (i := 3) (T := tBool) rfl)) ev_str ev_str) fun _ => fgt_nil)))) (show BK _ [some (val tStr phase), some (val tBool opened), some (val tBool finished), some (val tBool answered), some (val tBool theirs)] _ _ _ from (br_ifr (tx_e (ev_opp (ev_var (i := 0) (T := tStr) rfl) ev_str o2_eqS)) (show BK _ [some (val tStr phase), some (val tBool opened), some (val tBool finished), some (val tBool answered), some (val tBool theirs)] _ _ _ from (br_ret (ev_ifp (tx_b (ev_var (i := 3) (T := tBool) rfl)) ev_str (ev_var (i := 0) (T := tStr) rfl)) fun _ => fgt_nil)) (show BK _ [some (val tStr phase), some (val tBool opened), some (val tBool finished), some (val tBool answered), some (val tBool theirs)] _ _ _ from (br_ret (ev_var (i := 0) (T := tStr) rfl) fun _ => fgt_nil))))))))))))
    (by unfold m__law_next; first | (simp -implicitDefEqProofs only [Option.bind_some, Option.map_some, id_eq]; done) | (simp -implicitDefEqProofs only [Option.bind_some, Option.map_some, id_eq, Option.bind_assoc]; done))
/-! ### law -/
abbrev s_law : Stmt := topS 7
abbrev N_law : List Str := ["_law_script", "_law_rows_here", "_law_phases", "_law_k", "_law_pick", "_law_bits", "_law_opened", "_law_finished", "_law_answered", "_law_theirs", "_law_told", "_law_phase"]
theorem sc_law : FnScope N_law ["_law_script"] (defScope s_law) := ⟨rfl, rfl, rfl, by decide +kernel, rfl, by decide +kernel, by decide +kernel⟩
abbrev sp_law (K : PySem.W.Frag) : Sp := spF (fun a : (List Int) => [vp (tS K tInt) a]) (fun a => m_law a) (val tBool)
set_option maxHeartbeats 4000000 in
theorem ok_law {P : Program} {w : World} {K : PySem.W.Frag} {mg : Str → Option Value} {base : Heap} {f : Addr} {fd : FuncData} (T : Txt K mg) (F : FunD K "law" "law" (defArgs s_law) (defBody s_law) (defScope s_law) [] [] f fd) (C_open_phase_k0 : CalK P w K mg base 1 "open_phase" ["finished", "answered", "theirs"] 0 ["finished", "answered", "theirs"] (sp_open_phase K)) (C_next_phase_k0 : CalK P w K mg base 2 "next_phase" ["phase", "opened", "finished", "answered", "theirs"] 1 ["opened", "finished", "answered", "theirs"] (sp_next_phase K)) (C__law_rows : Cal P w K mg base 1 "_law_rows" ["_law_script", "_law_count"] (sp__law_rows K)) (C__law_open : Cal P w K mg base 1 "_law_open" ["_law_finished", "_law_answered", "_law_theirs"] (sp__law_open K)) (C__law_next : Cal P w K mg base 2 "_law_next" ["_law_phase", "_law_opened", "_law_finished", "_law_answered", "_law_theirs"] (sp__law_next K)) : FnOk P w K mg base CX0 3 f fd ["_law_script"] (sp_law K) := by
  obtain ⟨f_open_phase_k0, fd_open_phase_k0, g_open_phase_k0, k_open_phase_k0, b_open_phase_k0, G_open_phase_k0⟩ := C_open_phase_k0
  obtain ⟨f_next_phase_k0, fd_next_phase_k0, g_next_phase_k0, k_next_phase_k0, b_next_phase_k0, G_next_phase_k0⟩ := C_next_phase_k0
  obtain ⟨f__law_rows, fd__law_rows, g__law_rows, k__law_rows, b__law_rows, G__law_rows⟩ := C__law_rows
  obtain ⟨f__law_open, fd__law_open, g__law_open, k__law_open, b__law_open, G__law_open⟩ := C__law_open
  obtain ⟨f__law_next, fd__law_next, g__law_next, k__law_next, b__law_next, G__law_next⟩ := C__law_next
  refine F.ok sc_law (fun vs H Q E h => spF_len h fun _ => rfl) (fun cdv A outer s H vs Q E hr h => ?_)
  refine ⟨_, PSs.nox (pss_cons (ps_set (i := 1) sc_law.nd rfl (.inl rfl) (pe_call G__law_rows (hr.mono (by decide)) (by rfl) g__law_rows k__law_rows b__law_rows .nil pass0 (pa_cons (pv 0) (pa_cons pe_int pa_nil))))
       (pss_cons (ps_set (i := 2) sc_law.nd rfl (.inl rfl) (pe_lst (pa_cons pe_str (pa_cons pe_str (pa_cons pe_str (pa_cons pe_str (pa_cons pe_str (pa_cons pe_str (pa_cons pe_str pa_nil)))))))))
       (pss_cons (ps_set (i := 2) sc_law.nd rfl (.inl rfl) (pe_op op_cat (pv 2) (pe_lst (pa_cons pe_str (pa_cons pe_str (pa_cons pe_str pa_nil))))))
       (pss_cons (ps_for PassesOwn.never rfl (pi_range1 (by rfl) T.b_range (pa_cons (pe_op op_add pe_int pe_int) pa_nil)) (pg_name (i := 3) sc_law.nd rfl (.inl rfl))
       (pss_cons (ps_set (i := 4) sc_law.nd rfl (.inl rfl) (pv 3))
       (pss_cons (ps_if (pt_cmpR op_ge (pv 3) pe_int (nomark _))
       (pss_cons (ps_set (i := 4) sc_law.nd rfl (.inl rfl) (pe_op op_mod (pe_callTy call_int1 (by rfl) T.b_int boot_int (pa_cons (pe_ix (ix_listK (K := K) rfl) (pv 1) (pe_op op_sub (pv 3) pe_int) (fun _ _ => rfl)) pa_nil)) pe_int))
       pss_nil)
       pss_nil)
       (pss_cons (ps_set (i := 5) sc_law.nd rfl (.inl rfl) (pe_op op_fdiv (pv 4) pe_int))
       (pss_cons (ps_set (i := 6) sc_law.nd rfl (.inl rfl) (pe_cmpR op_eq (pe_op op_mod (pv 5) pe_int) pe_int (nomark _)))
       (pss_cons (ps_set (i := 7) sc_law.nd rfl (.inl rfl) (pe_cmpR op_eq (pe_op op_mod (pe_op op_fdiv (pv 5) pe_int) pe_int) pe_int (nomark _)))
       (pss_cons (ps_set (i := 8) sc_law.nd rfl (.inl rfl) (pe_cmpR op_eq (pe_op op_mod (pe_op op_fdiv (pv 5) pe_int) pe_int) pe_int (nomark _)))
       (pss_cons (ps_set (i := 9) sc_law.nd rfl (.inl rfl) (pe_cmpR op_eq (pe_op op_mod (pe_op op_fdiv (pv 5) pe_int) pe_int) pe_int (nomark _)))
       (pss_cons (ps_set (i := 10) sc_law.nd rfl (.inl rfl) (pe_callN0 G_open_phase_k0 (hr.mono (by decide)) (by rfl) g_open_phase_k0 k_open_phase_k0 b_open_phase_k0 pass0 (pk_cons (pv 7) (pk_cons (pv 8) (pk_cons (pv 9) pk_nil)))))
       (pss_cons (ps_if (PW.pt (pw_or (pt_not (pt_val (pe_callB (call_isiKK (K := K) rfl) (by rfl) T.b_isinstance boot_isinstance (pa_cons (pv 10) (pa_cons (pe_bltn (v := .ty "str") (by rfl) T.b_str boot_str rfl) pa_nil))))) (pw_or1 (pt_cmpR op_ne (pv 10) (pe_call G__law_open (hr.mono (by decide)) (by rfl) g__law_open k__law_open b__law_open .nil pass0 (pa_cons (pv 7) (pa_cons (pv 8) (pa_cons (pv 9) pa_nil)))) (nomark _)))))
       (pss_one (ps_ret pe_bl))
       pss_nil)
       (pss_cons (ps_set (i := 11) sc_law.nd rfl (.inl rfl) (pe_ix (ix_listK (K := K) rfl) (pv 2) (pe_op op_mod (pv 4) pe_int) (fun _ _ => rfl)))
       (pss_cons (ps_set (i := 10) sc_law.nd rfl (.inl rfl) (pe_callN G_next_phase_k0 (hr.mono (by decide)) (by rfl) g_next_phase_k0 k_next_phase_k0 b_next_phase_k0 pass0 (pa_cons (pv 11) pa_nil) (pk_cons (pv 6) (pk_cons (pv 7) (pk_cons (pv 8) (pk_cons (pv 9) pk_nil))))))
       (pss_one (ps_if (PW.pt (pw_or (pt_not (pt_val (pe_callB (call_isiKK (K := K) rfl) (by rfl) T.b_isinstance boot_isinstance (pa_cons (pv 10) (pa_cons (pe_bltn (v := .ty "str") (by rfl) T.b_str boot_str rfl) pa_nil))))) (pw_or1 (pt_cmpR op_ne (pv 10) (pe_call G__law_next (hr.mono (by decide)) (by rfl) g__law_next k__law_next b__law_next .nil pass0 (pa_cons (pv 11) (pa_cons (pv 6) (pa_cons (pv 7) (pa_cons (pv 8) (pa_cons (pv 9) pa_nil)))))) (nomark _)))))
       (pss_one (ps_ret pe_bl))
       pss_nil))))))))))))))
       (pss_one (ps_ret pe_bl)))))), ?_⟩
  refine run_F (eR := fun _ => []) h (fun _ => Nat.le_of_ble_eq_true rfl) rfl ?_
  rintro script F0 H0
  show BK _ [some (val (tS K tInt) script), none, none, none, none, none, none, none, none, none, none, none] _ (m_law script) _
  exact bk_eq
    (show BK _ [some (val (tS K tInt) script), none, none, none, none, none, none, none, none, none, none, none] _ _ _ from (bk_asg (ev_call (ax_cons (ev_var (i := 0) (T := (tS K tInt)) rfl) fun a39 => (ax_cons ev_int fun a40 => (ax_nil fun c h => ⟨⟨a39, a40⟩, rfl, h⟩)))) fun rows_here_41 => (show BK _ [some (val (tS K tInt) script), some (val (tL tInt) rows_here_41), none, none, none, none, none, none, none, none, none, none] _ _ _ from (bk_asg (ev_frz (ev_lst (T := tStr) (ax_cons ev_str fun a42 => (ax_cons ev_str fun a43 => (ax_cons ev_str fun a44 => (ax_cons ev_str fun a45 => (ax_cons ev_str fun a46 => (ax_cons ev_str fun a47 => (ax_cons ev_str fun a48 => (ax_nil (m := some ([a42, a43, a44, a45, a46, a47, a48] : List Str)) fun c h => by cases h; exact ⟨rfl, Nat.le_of_ble_eq_true rfl⟩)))))))))) fun phases_49 => (show BK _ [some (val (tS K tInt) script), some (val (tL tInt) rows_here_41), some (val (tL tStr) phases_49), none, none, none, none, none, none, none, none, none] _ _ _ from (bk_asg (ev_frz (ev_opp (ev_var (i := 2) (T := (tL tStr)) rfl) (ev_frz (ev_lst (T := tStr) (ax_cons ev_str fun a50 => (ax_cons ev_str fun a51 => (ax_cons ev_str fun a52 => (ax_nil (m := some ([a50, a51, a52] : List Str)) fun c h => by cases h; exact ⟨rfl, Nat.le_of_ble_eq_true rfl⟩)))))) o2_cat)) fun phases_53 => (show BK _ [some (val (tS K tInt) script), some (val (tL tInt) rows_here_41), some (val (tL tStr) phases_53), none, none, none, none, none, none, none, none, none] _ _ _ from (bk_forL (eL := fun (s54 : Unit) => [some (val (tS K tInt) script), some (val (tL tInt) rows_here_41), some (val (tL tStr) phases_53), none, none, none, none, none, none, none, none, none]) (s0 := ()) (emb := id) emb_R (ix_R1p (ev_opp ev_int ev_int o2_int0)) (fgt_c (fgt_c (fgt_c (fgt_n (fgt_n (fgt_n (fgt_n (fgt_n (fgt_n (fgt_n (fgt_n (fgt_n fgt_0)))))))))))) (fun x55 s54 => (as_name)) (fun x55 s54 => (show BK _ [some (val (tS K tInt) script), some (val (tL tInt) rows_here_41), some (val (tL tStr) phases_53), some (val tInt x55), none, none, none, none, none, none, none, none] _ _ _ from (bk_asg (ev_var (i := 3) (T := tInt) rfl) fun pick_56 => (show BK _ [some (val (tS K tInt) script), some (val (tL tInt) rows_here_41), some (val (tL tStr) phases_53), some (val tInt x55), some (val tInt pick_56), none, none, none, none, none, none, none] _ _ _ from (bk_ifj (eJ := fun (s57 : Int) => [some (val (tS K tInt) script), some (val (tL tInt) rows_here_41), some (val (tL tStr) phases_53), some (val tInt x55), some (val tInt s57), none, none, none, none, none, none, none]) (tx_e (ev_opp (ev_var (i := 3) (T := tInt) rfl) ev_int o2_cmp)) (show BK _ [some (val (tS K tInt) script), some (val (tL tInt) rows_here_41), some (val (tL tStr) phases_53), some (val tInt x55), some (val tInt pick_56), none, none, none, none, none, none, none] _ _ _ from (bk_asg (ev_opr (ev_cb1 (ev_opp (ev_var (i := 1) (T := (tL tInt)) rfl) (ev_opp (ev_var (i := 3) (T := tInt) rfl) ev_int o2_int0) o2_ixL) fun _ => o1_int) ev_int fun _ => (o2_int (C := fun _ j => 0 < j) (by decide))) fun pick_60 => (show BK _ [some (val (tS K tInt) script), some (val (tL tInt) rows_here_41), some (val (tL tStr) phases_53), some (val tInt x55), some (val tInt pick_60), none, none, none, none, none, none, none] _ _ _ from (bn_nx (a := pick_60) (fgt_c (fgt_c (fgt_c (fgt_c (fgt_c (fgt_n (fgt_n (fgt_n (fgt_n (fgt_n (fgt_n (fgt_n fgt_0)))))))))))))))) (show BK _ [some (val (tS K tInt) script), some (val (tL tInt) rows_here_41), some (val (tL tStr) phases_53), some (val tInt x55), some (val tInt pick_56), none, none, none, none, none, none, none] _ _ _ from (bn_nx (a := pick_56) (fgt_c (fgt_c (fgt_c (fgt_c (fgt_c (fgt_n (fgt_n (fgt_n (fgt_n (fgt_n (fgt_n (fgt_n fgt_0)))))))))))))) fun s57 => (show BK _ [some (val (tS K tInt) script), some (val (tL tInt) rows_here_41), some (val (tL tStr) phases_53), some (val tInt x55), some (val tInt s57), none, none, none, none, none, none, none] _ _ _ from (bk_asg (ev_opp (ev_var (i := 4) (T := tInt) rfl) ev_int (o2_int (C := CDiv) ⟨by decide, by decide⟩)) fun bits_61 => (show BK _ [some (val (tS K tInt) script), some (val (tL tInt) rows_here_41), some (val (tL tStr) phases_53), some (val tInt x55), some (val tInt s57), some (val tInt bits_61), none, none, none, none, none, none] _ _ _ from (bk_asg (ev_opp (ev_opp (ev_var (i := 5) (T := tInt) rfl) ev_int (o2_int (C := fun _ j => 0 < j) (by decide))) ev_int o2_eqI) fun opened_62 => (show BK _ [some (val (tS K tInt) script), some (val (tL tInt) rows_here_41), some (val (tL tStr) phases_53), some (val tInt x55), some (val tInt s57), some (val tInt bits_61), some (val tBool opened_62), none, none, none, none, none] _ _ _ from (bk_asg (ev_opp (ev_opp (ev_opp (ev_var (i := 5) (T := tInt) rfl) ev_int (o2_int (C := CDiv) ⟨by decide, by decide⟩)) ev_int (o2_int (C := fun _ j => 0 < j) (by decide))) ev_int o2_eqI) fun finished_63 => (show BK _ [some (val (tS K tInt) script), some (val (tL tInt) rows_here_41), some (val (tL tStr) phases_53), some (val tInt x55), some (val tInt s57), some (val tInt bits_61), some (val tBool opened_62), some (val tBool finished_63), none, none, none, none] _ _ _ from (bk_asg (ev_opp (ev_opp (ev_opp (ev_var (i := 5) (T := tInt) rfl) ev_int (o2_int (C := CDiv) ⟨by decide, by decide⟩)) ev_int (o2_int (C := fun _ j => 0 < j) (by decide))) ev_int o2_eqI) fun answered_64 => (show BK _ [some (val (tS K tInt) script), some (val (tL tInt) rows_here_41), some (val (tL tStr) phases_53), some (val tInt x55), some (val tInt s57), some (val tInt bits_61), some (val tBool opened_62), some (val tBool finished_63), some (val tBool answered_64), none, none, none] _ _ _ from (bk_asg (ev_opp (ev_opp (ev_opp (ev_var (i := 5) (T := tInt) rfl) ev_int (o2_int (C := CDiv) ⟨by decide, by decide⟩)) ev_int (o2_int (C := fun _ j => 0 < j) (by decide))) ev_int o2_eqI) fun theirs_65 => (show BK _ [some (val (tS K tInt) script), some (val (tL tInt) rows_here_41), some (val (tL tStr) phases_53), some (val tInt x55), some (val tInt s57), some (val tInt bits_61), some (val tBool opened_62), some (val tBool finished_63), some (val tBool answered_64), some (val tBool theirs_65), none, none] _ _ _ from (bk_asg (ex_callN (S := (val tStr)) (n := 0) (l := 3) (fun _ => []) [.arg 0, .arg 1, .arg 2] (fun us zs h1 h2 => match us, zs, h1, h2 with | [], [_, _, _], _, _ => rfl) (fun _ => lok0) (axk_nil (ax_cons (ev_var (i := 7) (T := tBool) rfl) fun a66 => (ax_cons (ev_var (i := 8) (T := tBool) rfl) fun a67 => (ax_cons (ev_var (i := 9) (T := tBool) rfl) fun a68 => (ax_nil fun c h => ⟨rfl, ⟨a66, a67, a68⟩, ⟨h, rfl, ⟨.inl ⟨_, rfl, rfl⟩, .inl ⟨_, rfl, rfl⟩, .inl ⟨_, rfl, rfl⟩, trivial⟩, fun n hn => by cases hn⟩⟩)))))) fun told_69 => (show BK _ [some (val (tS K tInt) script), some (val (tL tInt) rows_here_41), some (val (tL tStr) phases_53), some (val tInt x55), some (val tInt s57), some (val tInt bits_61), some (val tBool opened_62), some (val tBool finished_63), some (val tBool answered_64), some (val tBool theirs_65), some (val tStr told_69), none] _ _ _ from (bk_ifr emb_L (tx_or (tx_notp (tx_b (ev_cb2p (ev_var (i := 10) (T := tStr) rfl) ev_ty (o2_is (b := true) ty_str (by decide +kernel))))) (tx_e (ev_opl (ev_var (i := 10) (T := tStr) rfl) (ev_call (ax_cons (ev_var (i := 7) (T := tBool) rfl) fun a70 => (ax_cons (ev_var (i := 8) (T := tBool) rfl) fun a71 => (ax_cons (ev_var (i := 9) (T := tBool) rfl) fun a72 => (ax_nil fun c h => ⟨⟨a70, a71, a72⟩, rfl, h⟩))))) fun _ => o2_neS))) (show BK _ [some (val (tS K tInt) script), some (val (tL tInt) rows_here_41), some (val (tL tStr) phases_53), some (val tInt x55), some (val tInt s57), some (val tInt bits_61), some (val tBool opened_62), some (val tBool finished_63), some (val tBool answered_64), some (val tBool theirs_65), some (val tStr told_69), none] _ _ _ from (br_ret ev_bl fun _ => fgt_nil)) (show BK _ [some (val (tS K tInt) script), some (val (tL tInt) rows_here_41), some (val (tL tStr) phases_53), some (val tInt x55), some (val tInt s57), some (val tInt bits_61), some (val tBool opened_62), some (val tBool finished_63), some (val tBool answered_64), some (val tBool theirs_65), some (val tStr told_69), none] _ _ _ from (bk_asg (ev_opp (ev_var (i := 2) (T := (tL tStr)) rfl) (ev_opp (ev_var (i := 4) (T := tInt) rfl) ev_int (o2_int (C := fun _ j => 0 < j) (by decide))) o2_ixL) fun phase_74 => (show BK _ [some (val (tS K tInt) script), some (val (tL tInt) rows_here_41), some (val (tL tStr) phases_53), some (val tInt x55), some (val tInt s57), some (val tInt bits_61), some (val tBool opened_62), some (val tBool finished_63), some (val tBool answered_64), some (val tBool theirs_65), some (val tStr told_69), some (val tStr phase_74)] _ _ _ from (bk_asg (ex_callN (S := (val tStr)) (n := 1) (l := 4) (fun _ => []) [.arg 0, .arg 1, .arg 2, .arg 3, .arg 4] (fun us zs h1 h2 => match us, zs, h1, h2 with | [_], [_, _, _, _], _, _ => rfl) (fun _ => lok0) (axk_cons (ev_var (i := 11) (T := tStr) rfl) fun a75 => (axk_nil (ax_cons (ev_var (i := 6) (T := tBool) rfl) fun a76 => (ax_cons (ev_var (i := 7) (T := tBool) rfl) fun a77 => (ax_cons (ev_var (i := 8) (T := tBool) rfl) fun a78 => (ax_cons (ev_var (i := 9) (T := tBool) rfl) fun a79 => (ax_nil fun c h => ⟨rfl, ⟨a75, a76, a77, a78, a79⟩, ⟨h, rfl, ⟨.inl ⟨_, rfl, rfl⟩, .inl ⟨_, rfl, rfl⟩, .inl ⟨_, rfl, rfl⟩, .inl ⟨_, rfl, rfl⟩, .inl ⟨_, rfl, rfl⟩, trivial⟩, fun n hn => by cases hn⟩⟩)))))))) fun told_80 => (show BK _ [some (val (tS K tInt) script), some (val (tL tInt) rows_here_41), some (val (tL tStr) phases_53), some (val tInt x55), some (val tInt s57), some (val tInt bits_61), some (val tBool opened_62), some (val tBool finished_63), some (val tBool answered_64), some (val tBool theirs_65), some (val tStr told_80), some (val tStr phase_74)] _ _ _ from (bk_if (tx_or (tx_notp (tx_b (ev_cb2p (ev_var (i := 10) (T := tStr) rfl) ev_ty (o2_is (b := true) ty_str (by decide +kernel))))) (tx_e (ev_opl (ev_var (i := 10) (T := tStr) rfl) (ev_call (ax_cons (ev_var (i := 11) (T := tStr) rfl) fun a81 => (ax_cons (ev_var (i := 6) (T := tBool) rfl) fun a82 => (ax_cons (ev_var (i := 7) (T := tBool) rfl) fun a83 => (ax_cons (ev_var (i := 8) (T := tBool) rfl) fun a84 => (ax_cons (ev_var (i := 9) (T := tBool) rfl) fun a85 => (ax_nil fun c h => ⟨⟨a81, a82, a83, a84, a85⟩, rfl, h⟩))))))) fun _ => o2_neS))) (show BK _ [some (val (tS K tInt) script), some (val (tL tInt) rows_here_41), some (val (tL tStr) phases_53), some (val tInt x55), some (val tInt s57), some (val tInt bits_61), some (val tBool opened_62), some (val tBool finished_63), some (val tBool answered_64), some (val tBool theirs_65), some (val tStr told_80), some (val tStr phase_74)] _ _ _ from (bl_ret ev_bl fun _ => fgt_nil)) (show BK _ [some (val (tS K tInt) script), some (val (tL tInt) rows_here_41), some (val (tL tStr) phases_53), some (val tInt x55), some (val tInt s57), some (val tInt bits_61), some (val tBool opened_62), some (val tBool finished_63), some (val tBool answered_64), some (val tBool theirs_65), some (val tStr told_80), some (val tStr phase_74)] _ _ _ from (bl_nx (a := ()) (fgt_c (fgt_c (fgt_c (fgt_n (fgt_n (fgt_n (fgt_n (fgt_n (fgt_n (fgt_n (fgt_n (fgt_n fgt_0))))))))))))))))))))))))))))))))))))))) fun s87 => (show BK _ [some (val (tS K tInt) script), some (val (tL tInt) rows_here_41), some (val (tL tStr) phases_53), none, none, none, none, none, none, none, none, none] _ _ _ from (br_ret ev_bl fun _ => fgt_nil))))))))))
    (by unfold m_law; first | (simp -implicitDefEqProofs only [Option.bind_some, Option.map_some, id_eq]; done) | (simp -implicitDefEqProofs only [Option.bind_some, Option.map_some, id_eq, Option.bind_assoc]; done))
end LW

set_option Elab.async false
set_option linter.all false
set_option maxRecDepth 100000
set_option maxHeartbeats 4000000
namespace LW
open PySem PySem.Spec PyProof.Rows L2 ML
theorem rows_ex (ns : List Int) (hl : ns.length ≤ 63) : ∃ r, m__law_rows ns 60 = some r ∧ r.length = 60 := by
  simp -implicitDefEqProofs only [m__law_rows]
  rw [show range1 (60 : Int) = some (rangeL 0 60) from range1_nat (n := 60) (by omega), Option.bind_some]
  refine forN_rangeB (fun o => ∃ r : List Int, o = some r ∧ r.length = 60) (fun i (s : List Int) => s.length = i) rfl ?_ (fun s h => ⟨s, rfl, h⟩)
  intro i s hi hs
  have hx : (0 : Int) + (i : Int) = (i : Int) := by omega
  rw [hx]
  have hg : ((i : Int).natAbs.log2 + (i : Int).natAbs.log2 < 1000000) := by
    have := log2_small (a := (i : Int)) (n := 20) (by omega) (by omega) (by omega)
    omega
  have h1 : ∃ c, (if decide ((0 : Int) < (ns.length : Int)) = true then ((grd (0 < (ns.length : Int)) (some ((i : Int) % (ns.length : Int)))).bind fun v15 => atI ns v15).bind fun v16 => some v16 else some (0 : Int)) = some c := by
    by_cases h : (0 : Int) < (ns.length : Int)
    · rw [if_pos (decide_eq_true h), grd_pos h, Option.bind_some]
      obtain ⟨x, _, e⟩ := atI_mem (xs := ns) (i := (i : Int) % (ns.length : Int)) (Int.emod_nonneg _ (by omega)) (Int.emod_lt_of_pos _ h)
      rw [e]
      exact ⟨x, rfl⟩
    · rw [if_neg (by simpa using h)]
      exact ⟨_, rfl⟩
  obtain ⟨c, hc⟩ := h1
  simp -implicitDefEqProofs only [Option.bind_some, grd_pos hg, Option.bind_fun_some] at hc ⊢
  rw [hc]
  simp -implicitDefEqProofs only [Option.bind_some]
  have h2 : ∀ (b : Bool) (x y : Int), ∃ z, (if b = true then some x else some y) = some z := fun b x y => by cases b <;> exact ⟨_, rfl⟩
  obtain ⟨z, hz⟩ := h2 (decide (c < 0)) (1 - 2 * c) c
  rw [hz]
  simp -implicitDefEqProofs only [Option.bind_some]
  split
  · simp -implicitDefEqProofs only [Option.bind_some]
    rw [grd_pos (by omega)]
    exact ⟨_, rfl, by simp [hs]⟩
  · simp -implicitDefEqProofs only [Option.bind_some]
    rw [grd_pos (by omega)]
    exact ⟨_, rfl, by simp [hs]⟩
def bs : List Bool := [true, false]
def phs : List Str := ([(Str.ofString "syn sent"), (Str.ofString "syn received"), (Str.ofString "established"), (Str.ofString "fin wait 1"), (Str.ofString "fin wait 2"), (Str.ofString "closing"), (Str.ofString "close wait")] : List Str) ++ ([(Str.ofString "last ack"), (Str.ofString "time wait"), (Str.ofString "ended")] : List Str)
theorem open_all : (bs.all fun f => bs.all fun a => bs.all fun t => decide (m_open_phase f a t = m__law_open f a t) && (m_open_phase f a t).isSome) = true := by decide +kernel
theorem next_all : (phs.all fun p => bs.all fun o => bs.all fun f => bs.all fun a => bs.all fun t => decide (m_next_phase p o f a t = m__law_next p o f a t) && (m_next_phase p o f a t).isSome) = true := by decide +kernel
theorem b_mem (b : Bool) : b ∈ bs := by cases b <;> decide
theorem open_eq (f a t : Bool) : ∃ s, m_open_phase f a t = some s ∧ m__law_open f a t = some s := by
  have h := List.all_eq_true.mp (List.all_eq_true.mp (List.all_eq_true.mp open_all f (b_mem f)) a (b_mem a)) t (b_mem t)
  rw [Bool.and_eq_true, decide_eq_true_eq] at h
  obtain ⟨s, hs⟩ := Option.isSome_iff_exists.mp h.2
  exact ⟨s, hs, by rw [← h.1]; exact hs⟩
theorem next_eq (p : Str) (hp : p ∈ phs) (o f a t : Bool) : ∃ s, m_next_phase p o f a t = some s ∧ m__law_next p o f a t = some s := by
  have h := List.all_eq_true.mp (List.all_eq_true.mp (List.all_eq_true.mp (List.all_eq_true.mp (List.all_eq_true.mp next_all p hp) o (b_mem o)) f (b_mem f)) a (b_mem a)) t (b_mem t)
  rw [Bool.and_eq_true, decide_eq_true_eq] at h
  obtain ⟨s, hs⟩ := Option.isSome_iff_exists.mp h.2
  exact ⟨s, hs, by rw [← h.1]; exact hs⟩
theorem law_true (ns : List Int) (hl : ns.length ≤ 63) : m_law ns = some true := by
  simp -implicitDefEqProofs only [m_law]
  obtain ⟨r, hr, hr2⟩ := rows_ex ns hl
  rw [hr, Option.bind_some, grd_pos (by decide), Option.bind_some]
  rw [show range1 ((160 : Int) + 60) = some (rangeL 0 220) from range1_nat (n := 220) (by omega), Option.bind_some]
  rw [forL_rangeU fun i hi => ?_]
  · rfl
  · have h1 : ∃ k, (if decide ((160 : Int) ≤ 0 + (i : Int)) = true then ((atI r (0 + (i : Int) - 160)).bind fun v58 => some v58).bind fun v59 => some (v59 % (160 : Int)) else some (0 + (i : Int))) = some k ∧ 0 ≤ k := by
      by_cases h : (160 : Int) ≤ 0 + (i : Int)
      · rw [if_pos (decide_eq_true h)]
        obtain ⟨x, _, e⟩ := atI_mem (xs := r) (i := 0 + (i : Int) - 160) (by omega) (by omega)
        rw [e]
        exact ⟨_, rfl, by omega⟩
      · rw [if_neg (by simpa using h)]
        exact ⟨_, rfl, by omega⟩
    obtain ⟨k, hk, hk0⟩ := h1
    simp -implicitDefEqProofs only [Option.bind_some, Option.bind_fun_some] at hk ⊢
    rw [hk]
    simp -implicitDefEqProofs only [Option.bind_some]
    obtain ⟨s, e1, e2⟩ := open_eq (decide (k / 10 / 2 % 2 = 1)) (decide (k / 10 / 4 % 2 = 1)) (decide (k / 10 / 8 % 2 = 1))
    rw [e1, e2]
    obtain ⟨p, hp, ep⟩ := atI_mem (xs := phs) (i := k % 10) (by omega) (by show k % 10 < 10; omega)
    have ep' := ep
    unfold phs at ep'
    obtain ⟨s2, e3, e4⟩ := next_eq p hp (decide (k / 10 % 2 = 1)) (decide (k / 10 / 2 % 2 = 1)) (decide (k / 10 / 4 % 2 = 1)) (decide (k / 10 / 8 % 2 = 1))
    rw [ep']
    simp -implicitDefEqProofs only [Option.bind_some]
    rw [e3, e4]
    simp
end LW

namespace LW
open PySem PySem.Spec PyProof.Rows L2 ML
set_option maxHeartbeats 0
def d_open_phase : He.DefD := ⟨("open_phase", none), "open_phase", "open_phase", defArgs s_open_phase, defBody s_open_phase, defScope s_open_phase, [], []⟩
def d_next_phase : He.DefD := ⟨("next_phase", none), "next_phase", "next_phase", defArgs s_next_phase, defBody s_next_phase, defScope s_next_phase, [], []⟩
def d__law_rows : He.DefD := ⟨("_law_rows", none), "_law_rows", "_law_rows", defArgs s__law_rows, defBody s__law_rows, defScope s__law_rows, [], []⟩
def d__law_open : He.DefD := ⟨("_law_open", none), "_law_open", "_law_open", defArgs s__law_open, defBody s__law_open, defScope s__law_open, [], []⟩
def d__law_next : He.DefD := ⟨("_law_next", none), "_law_next", "_law_next", defArgs s__law_next, defBody s__law_next, defScope s__law_next, [], []⟩
def d_law : He.DefD := ⟨("law", none), "law", "law", defArgs s_law, defBody s_law, defScope s_law, [], []⟩
def fn_ : List He.DefD := [d_open_phase, d_next_phase, d__law_rows, d__law_open, d__law_next, d_law]
def fa_ : List He.Fa := [.glo "open_phase", .glo "next_phase", .glo "_law_rows", .glo "_law_open", .glo "_law_next", .glo "law", .free "int", .free "isinstance", .free "len", .free "range", .free "str"]
def loose_ : List Str := ["open_phase", "next_phase", "_law_rows", "_law_open", "_law_next"]
abbrev R_ : PySem.W.OpenRow := PySem.W.OpenLaw.row law_
abbrev hk : PySem.W.Hook := He.hookD 6 fa_ fn_
def ob (s : PySem.W.SharedT) : He.AlD := He.obsDG 6 fa_ fn_ (HandSHeadRun.getT s)
theorem ob_eq (s : PySem.W.SharedT) : ob s = hk.obs s.abs := He.obsDG_eq (HandSHeadRun.getT_eq s)
theorem run_ (w : World) : HandSHeadRun.RunEq R_ (PySem.W.view R_.prog [7]) hk ob 20000 loose_ w := by
  intro os
  kernel_rfl
theorem facts {P : Program} {w : World} {K : PySem.W.Frag} {h : Heap} {mg : Str → Option Value} {f : Addr} (X : K.In h) (G : h.Ns mainGlobals mg) (hfa : mg ("law" : Str) = some (.ref f)) (c : He.SaysD fa_ fn_ K) :
    ∃ fd : FuncData, (∀ (s : Shared) (v : Value), BindsTo s fd ⟨[v], []⟩ [("_law_script", v)]) ∧ ∀ base : Heap, K.In base → base.Ns mainGlobals mg → FnOk P w K mg base CX0 3 f fd ["_law_script"] (sp_law K) := by
  have T : Txt K mg := ⟨He.free_ok X G (c.fact 6 rfl), He.free_ok X G (c.fact 7 rfl), He.free_ok X G (c.fact 8 rfl), He.free_ok X G (c.fact 9 rfl), He.free_ok X G (c.fact 10 rfl)⟩
  obtain ⟨fd_open_phase, F_open_phase⟩ := c.def_ 0 (d := d_open_phase) rfl
  have g_open_phase : mg "open_phase" = some (.ref (He.fAd K d_open_phase.at_)) := He.glo_ok X G (c.fact 0 (f := .glo "open_phase") rfl)
  obtain ⟨fd_next_phase, F_next_phase⟩ := c.def_ 1 (d := d_next_phase) rfl
  have g_next_phase : mg "next_phase" = some (.ref (He.fAd K d_next_phase.at_)) := He.glo_ok X G (c.fact 1 (f := .glo "next_phase") rfl)
  obtain ⟨fd__law_rows, F__law_rows⟩ := c.def_ 2 (d := d__law_rows) rfl
  have g__law_rows : mg "_law_rows" = some (.ref (He.fAd K d__law_rows.at_)) := He.glo_ok X G (c.fact 2 (f := .glo "_law_rows") rfl)
  obtain ⟨fd__law_open, F__law_open⟩ := c.def_ 3 (d := d__law_open) rfl
  have g__law_open : mg "_law_open" = some (.ref (He.fAd K d__law_open.at_)) := He.glo_ok X G (c.fact 3 (f := .glo "_law_open") rfl)
  obtain ⟨fd__law_next, F__law_next⟩ := c.def_ 4 (d := d__law_next) rfl
  have g__law_next : mg "_law_next" = some (.ref (He.fAd K d__law_next.at_)) := He.glo_ok X G (c.fact 4 (f := .glo "_law_next") rfl)
  obtain ⟨fd_law, F_law⟩ := c.def_ 5 (d := d_law) rfl
  have g_law : mg "law" = some (.ref (He.fAd K d_law.at_)) := He.glo_ok X G (c.fact 5 (f := .glo "law") rfl)
  have e := hfa.symm.trans g_law
  cases e
  have b := FunD.bindsA (ps := ["_law_script"]) F_law fun _ _ _ _ _ _ us hl => match us, hl with | [_], _ => rfl
  refine ⟨fd_law, fun s v => b s [v] rfl, fun base _ _ => ?_⟩
  have C_open_phase_k0 : CalK P w K mg base 1 "open_phase" ["finished", "answered", "theirs"] 0 ["finished", "answered", "theirs"] (sp_open_phase K) := ⟨_, fd_open_phase, g_open_phase, F_open_phase.kp, FunD.kbindsN F_open_phase 0 ["finished", "answered", "theirs"] fun _ _ _ _ _ _ us ws h1 h2 => match us, ws, h1, h2 with | [], [_, _, _], _, _ => rfl, ok_open_phase T F_open_phase ⟩
  have C_next_phase_k0 : CalK P w K mg base 2 "next_phase" ["phase", "opened", "finished", "answered", "theirs"] 1 ["opened", "finished", "answered", "theirs"] (sp_next_phase K) := ⟨_, fd_next_phase, g_next_phase, F_next_phase.kp, FunD.kbindsN F_next_phase 1 ["opened", "finished", "answered", "theirs"] fun _ _ _ _ _ _ us ws h1 h2 => match us, ws, h1, h2 with | [_], [_, _, _, _], _, _ => rfl, ok_next_phase T F_next_phase C_open_phase_k0⟩
  have C__law_rows : Cal P w K mg base 1 "_law_rows" ["_law_script", "_law_count"] (sp__law_rows K) := ⟨_, fd__law_rows, g__law_rows, F__law_rows.kp, FunD.bindsN F__law_rows fun _ _ _ _ _ _ us hl => match us, hl with | [_, _], _ => rfl, ok__law_rows T F__law_rows ⟩
  have C__law_open : Cal P w K mg base 1 "_law_open" ["_law_finished", "_law_answered", "_law_theirs"] (sp__law_open K) := ⟨_, fd__law_open, g__law_open, F__law_open.kp, FunD.bindsN F__law_open fun _ _ _ _ _ _ us hl => match us, hl with | [_, _, _], _ => rfl, ok__law_open T F__law_open ⟩
  have C__law_next : Cal P w K mg base 2 "_law_next" ["_law_phase", "_law_opened", "_law_finished", "_law_answered", "_law_theirs"] (sp__law_next K) := ⟨_, fd__law_next, g__law_next, F__law_next.kp, FunD.bindsN F__law_next fun _ _ _ _ _ _ us hl => match us, hl with | [_, _, _, _, _], _ => rfl, ok__law_next T F__law_next C__law_open⟩
  exact ok_law T F_law C_open_phase_k0 C_next_phase_k0 C__law_rows C__law_open C__law_next
end LW
open PySem PySem.W PySem.Calls PyProof.Rows
set_option maxRecDepth 100000 in
set_option maxHeartbeats 0 in
theorem PySem.Challenge.cw_throughline_k39_phases_holds : PySem.Challenge.rw_throughline_k39_phases.Holds := by
  w_on; o_law
  refine HandSHeadRun.head_any (r := OpenLaw.row PySem.Challenge.rw_throughline_k39_phases) (q := view (OpenLaw.row PySem.Challenge.rw_throughline_k39_phases).prog [7]) (H := LW.hk) (ob := LW.ob) (M := 20000) (loose := LW.loose_) (d := HandSHeadRun.topDef (OpenLaw.row PySem.Challenge.rw_throughline_k39_phases).prog 7) (kwd := []) LW.ob_eq
    (by kernel_rfl) (fun s => by kernel_rfl) LW.run_ (by kernel_rfl) (by kernel_rfl) (by kernel_rfl) (by rfl) (by first | assumption | decide +kernel) (by decide +kernel) ⟨rfl, rfl, rfl, rfl, rfl, by decide +kernel⟩ ?hw ?hc
  case hw => w_witness2
  case hc =>
    refine L2.walk_ofE (l := PySem.Challenge.rw_throughline_k39_phases) (n := 63) (k := 3) (x := "_law_script") (CX := L2.CX0) rfl (by decide) (by kernel_rfl) ⟨rfl, by decide, by decide⟩ ?F (fun _ _ _ _ z => z)
    intro w mg fa h Y G hmg0
    obtain ⟨K, KX, c⟩ := Y
    have hmg : mg ("law" : PySem.Str) = some (.ref fa) := by
      have e : (HandSHeadRun.topDef (OpenLaw.row PySem.Challenge.rw_throughline_k39_phases).prog 7).name = ("law" : PySem.Str) := by kernel_rfl
      rw [← e]
      exact hmg0
    obtain ⟨fd, hb, hF⟩ := LW.facts (P := (PySem.Challenge.rw_throughline_k39_phases).prog) (w := w) KX G hmg c
    exact ⟨K, fd, LW.sp_law K, KX, hb, fun H a ns hl _ hS => ML.spF_law hS (LW.law_true ns hl), hF⟩
#print axioms PySem.Challenge.cw_throughline_k39_phases_holds
