import PyProof.Rows.All
import Wide.All
import OpenK.AllK
import Wide.FinOn
import HandS.ForMost
import HandS.ForSpec
import HandS.Wide
import HandS.IsInst
import HandS.Defaults
import HandS.MakeKwOnly
import HandS.Style
import HandS.More
import HandS.Words
import HandS.WordsExc
import HandS.Head0
import HandS.Head1
import HandS.Head2
import HandS.HeadEnd
import HandS.HeadHook1
import HandS.HeadHook2
import HandS.SortInts
import KE.KStateDown
import PySem.Challenge.RW_throughline_k18_cube_roots_and_curves
set_option Elab.async false
set_option linter.all false
set_option maxRecDepth 100000
set_option Elab.async false
set_option linter.all false
set_option maxRecDepth 100000
set_option maxHeartbeats 2000000
/-! ML: typed values over the layer: what a reading does, by a plain function of typed data. -/
namespace ML
open PySem PySem.Spec PyProof.Rows L2

/-! ### types: how a datum lies in a heap that only grows -/
structure Ty (α : Type) where
  rp : Hp → V → α → Prop
  mono : ∀ {F F' : Hp} {v : V} {x : α}, Same F F' → rp F v x → rp F' v x
def tInt : Ty Int := ⟨fun _ v x => v = .int x, fun _ h => h⟩
def tBool : Ty Bool := ⟨fun _ v x => v = .bl x, fun _ h => h⟩
def tStr : Ty Str := ⟨fun _ v x => v = .str x, fun _ h => h⟩
def tNon : Ty Unit := ⟨fun _ v _ => v = .non, fun _ h => h⟩
/-- a scalar whose kind is not told -/
def tDyn : Ty V := ⟨fun _ v x => v = x, fun _ h => h⟩
def tOpt {α : Type} (T : Ty α) : Ty (Option α) := ⟨fun F v x => match x with
  | none => v = .non
  | some y => T.rp F v y, fun {F F' v x} s h => by
    cases x with
    | none => exact h
    | some y => exact T.mono s h⟩
theorem Paired.mono {α β : Type} {f g : α → β → Prop} : ∀ {l : List α} {m : List β}, Paired f l m → (∀ a b, f a b → g a b) → Paired g l m
  | _, _, .nil, _ => .nil
  | _, _, .cons r t, h => .cons (h _ _ r) (Paired.mono t h)
/-- a tracked list -/
def tL {α : Type} (T : Ty α) : Ty (List α) := ⟨fun F v xs => ∃ a vs, v = .ref a ∧ F a = some (.lst vs) ∧ Paired (T.rp F) vs xs, fun s ⟨a, vs, e, h, p⟩ => ⟨a, vs, e, s _ _ h, Paired.mono p fun _ _ => T.mono s⟩⟩
/-- a list that is read: also the script, a constant -/
def tS {α : Type} (K : PySem.W.Frag) (T : Ty α) : Ty (List α) := ⟨fun F v xs => ∃ a vs, v = .ref a ∧ SqL K F a vs ∧ Paired (T.rp F) vs xs, fun s ⟨a, vs, e, h, p⟩ => ⟨a, vs, e, s.seq h, Paired.mono p fun _ _ => T.mono s⟩⟩
/-- a tuple of any length, one kind -/
def tU {α : Type} (T : Ty α) : Ty (List α) := ⟨fun F v xs => ∃ a vs, v = .ref a ∧ F a = some (.tup vs) ∧ Paired (T.rp F) vs xs, fun s ⟨a, vs, e, h, p⟩ => ⟨a, vs, e, s _ _ h, Paired.mono p fun _ _ => T.mono s⟩⟩
def tP {α β : Type} (T : Ty α) (U : Ty β) : Ty (α × β) := ⟨fun F v p => ∃ a x y, v = .ref a ∧ F a = some (.tup [x, y]) ∧ T.rp F x p.1 ∧ U.rp F y p.2, fun s ⟨a, x, y, e, h, p, q⟩ => ⟨a, x, y, e, s _ _ h, T.mono s p, U.mono s q⟩⟩

/-! ### slots -/
structure SP where
  ok : Hp → Hp → (Addr → Prop) → V → Prop
  mono : ∀ {F F' H H' : Hp} {o : Addr → Prop} {v : V}, ok F H o v → Same F F' → (∀ a, o a → H' a = H a) → ok F' H' o v
structure VP where
  p : Hp → V → Prop
  mono : ∀ {F F' : Hp} {v : V}, Same F F' → p F v → p F' v
def VP.sp (q : VP) : SP := ⟨fun F _ _ v => q.p F v, fun h s _ => q.mono s h⟩
def vp {α : Type} (T : Ty α) (x : α) : VP := ⟨fun F v => T.rp F v x, fun s h => T.mono s h⟩
/-- a value -/
def val {α : Type} (T : Ty α) (x : α) : SP := (vp T x).sp
/-- anything -/
def anyS : SP := ⟨fun _ _ _ _ => True, fun _ _ _ => trivial⟩
/-- a list of one's own: nothing else knows it -/
def muL {α : Type} (φ : V → Prop) (T : Ty α) (xs : List α) : SP := ⟨fun F H o v => ∃ a vs, v = .ref a ∧ φ v ∧ (∀ b, o b ↔ b = a) ∧ H a = some (.lst vs) ∧ Paired (T.rp F) vs xs,
  fun ⟨a, vs, e, f, ho, h, p⟩ s k => ⟨a, vs, e, f, ho, (k a ((ho a).mpr rfl)).trans h, Paired.mono p fun _ _ => T.mono s⟩⟩
def yes : V → Prop := fun _ => True
abbrev own {α : Type} (T : Ty α) (xs : List α) : SP := muL yes T xs

inductive Lb where
  | e (i : Nat) | s (i : Nat)
  deriving DecidableEq
abbrev Ow := Addr → Option Lb
def Ow.of (w : Ow) (l : Lb) : Addr → Prop := fun a => w a = some l
abbrev En := List (Option SP)
def StOk (F H : Hp) (w : Ow) : List SP → List V → Prop
  | [], [] => True
  | S :: st, v :: vs => S.ok F H (w.of (.s st.length)) v ∧ StOk F H w st vs
  | _, _ => False
def EnvOk (F H : Hp) (w : Ow) (env : En) (σ : L2.St) : Prop := env.length ≤ σ.length ∧ ∀ (i : Nat) (S : SP), env[i]? = some (some S) → ∃ v, σ[i]? = some (some v) ∧ S.ok F H (w.of (.e i)) v

/-- from (F0, H0) to (F, H): what F holds is held, only what P owns has changed -/
structure Ext (F0 H0 : Hp) (P : Addr → Prop) (F H : Hp) : Prop where
  f : Same F0 F
  s : Same F H
  h : ∀ b o, ¬ P b → H0 b = some o → H b = some o
  n : ∀ b, H0 b ≠ none → F b = F0 b
  t : ∀ b, H b = none → H0 b = none
theorem Ext.refl {F H : Hp} {P : Addr → Prop} (s : Same F H) : Ext F H P F H := ⟨Same.refl F, s, fun _ _ _ h => h, fun _ _ => rfl, fun _ h => h⟩
theorem some_ne {α : Type} {x : Option α} {y : α} (h : x = some y) : x ≠ none := by rw [h]; intro z; cases z
theorem ne_some {α : Type} {x : Option α} (h : x ≠ none) : ∃ y, x = some y := by
  cases x with
  | none => exact absurd rfl h
  | some y => exact ⟨y, rfl⟩
theorem Ext.tr {F0 H0 F H F' H' : Hp} {P M : Addr → Prop} (e : Ext F0 H0 P F H) (u : Ext F H M F' H') (hm : ∀ b, M b → H0 b = none ∨ P b) : Ext F0 H0 P F' H' where
  f := e.f.trans u.f
  s := u.s
  h := fun b o np h0 => u.h b o (fun m => by
    rcases hm b m with z | z
    · rw [h0] at z; cases z
    · exact np z) (e.h b o np h0)
  n := fun b h0 => by
    have hb : H b ≠ none := fun z => h0 (e.t b z)
    rw [u.n b hb, e.n b h0]
  t := fun b hb => e.t b (u.t b hb)

/-- the entry: its heaps; what it may change, and at which names that stands -/
structure Ent where
  F : Hp
  H : Hp
  P : Addr → Prop
  I : Nat → Prop
abbrev Ent.mk0 (F H : Hp) : Ent := ⟨F, H, fun _ => False, fun _ => False⟩
structure GG (E : Ent) (env : En) (st : List SP) (σ : L2.St) (vs : List V) (H : Hp) (F : Hp) (w : Ow) : Prop where
  ext : Ext E.F E.H E.P F H
  env : EnvOk F H w env σ
  st : StOk F H w st vs
  own : ∀ a l, w a = some l → F a = none ∧ H a ≠ none ∧ (E.H a = none ∨ (E.P a ∧ ∃ i, l = .e i ∧ E.I i))
def G (E : Ent) (env : En) (st : List SP) (σ : L2.St) (vs : List V) (H : Hp) : Prop := ∃ F w, GG E env st σ vs H F w

theorem StOk.len {F H : Hp} {w : Ow} : ∀ {st : List SP} {vs : List V}, StOk F H w st vs → st.length = vs.length
  | [], [], _ => rfl
  | _ :: st, _ :: vs, h => by
    have := StOk.len (st := st) (vs := vs) h.2
    simp [this]
  | [], _ :: _, h => h.elim
  | _ :: _, [], h => h.elim
theorem ofq {w w' : Ow} {l : Lb} (h : ∀ a, w' a = some l ↔ w a = some l) : w'.of l = w.of l := funext fun a => propext (h a)
/-- slots whose ownership stays, behind a step that changed M -/
theorem SP.step {S : SP} {F H F' H' : Hp} {M : Addr → Prop} {w w' : Ow} {l : Lb} {v : V} (u : Ext F H M F' H') (h : S.ok F H (w.of l) v) (hl : ∀ a, w' a = some l ↔ w a = some l) (hM : ∀ a, w a = some l → ¬ M a ∧ H a ≠ none) : S.ok F' H' (w'.of l) v := by
  rw [ofq hl]
  refine S.mono h u.f fun a ha => ?_
  obtain ⟨nm, hn⟩ := hM a ha
  obtain ⟨o, e⟩ := ne_some hn
  rw [e]
  exact u.h a o nm e
theorem StOk.step {F H F' H' : Hp} {M : Addr → Prop} {w w' : Ow} (u : Ext F H M F' H') : ∀ {st : List SP} {vs : List V}, StOk F H w st vs → (∀ i, i < st.length → ∀ a, (w' a = some (.s i) ↔ w a = some (.s i)) ∧ (w a = some (.s i) → ¬ M a ∧ H a ≠ none)) → StOk F' H' w' st vs
  | [], [], _, _ => trivial
  | S :: st, v :: vs, h, k => by
    have k0 := k st.length (by simp)
    exact ⟨SP.step u h.1 (fun a => (k0 a).1) (fun a => (k0 a).2), StOk.step u h.2 fun i hi => k i (by simp; omega)⟩
  | [], _ :: _, h, _ => h.elim
  | _ :: _, [], h, _ => h.elim
theorem EnvOk.step {F H F' H' : Hp} {M : Addr → Prop} {w w' : Ow} {env : En} {σ : L2.St} (u : Ext F H M F' H') (h : EnvOk F H w env σ) (k : ∀ (i : Nat) (S : SP), env[i]? = some (some S) → ∀ a, (w' a = some (.e i) ↔ w a = some (.e i)) ∧ (w a = some (.e i) → ¬ M a ∧ H a ≠ none)) : EnvOk F' H' w' env σ :=
  ⟨h.1, fun i S e => by
    obtain ⟨v, e1, e2⟩ := h.2 i S e
    exact ⟨v, e1, SP.step u e2 (fun a => (k i S e a).1) (fun a => (k i S e a).2)⟩⟩

/-- the one step lemma: F', H', w' behind a change of M (owned), env and st as told -/
theorem GG.step {E : Ent} {env env' : En} {st st' : List SP} {σ σ' : L2.St} {vs vs' : List V} {H F F' H' : Hp} {w w' : Ow} {M : Addr → Prop} (g : GG E env st σ vs H F w) (u : Ext F H M F' H') (hM : ∀ b, M b → ∃ l, w b = some l)
    (hw : ∀ a l, w' a = some l → (∃ l0, w a = some l0 ∧ (l0 = l ∨ ∃ i, l0 = .s i)) ∨ (H a = none ∧ F' a = none ∧ H' a ≠ none)) (he : EnvOk F' H' w' env' σ') (hs : StOk F' H' w' st' vs') : GG E env' st' σ' vs' H' F' w' where
  ext := g.ext.tr u fun b m => by
    obtain ⟨l, e⟩ := hM b m
    rcases (g.own b l e).2.2 with z | z
    · exact .inl z
    · exact .inr z.1
  env := he
  st := hs
  own := fun a l e => by
    rcases hw a l e with ⟨l0, e0, hl⟩ | ⟨h1, h2, h3⟩
    · obtain ⟨q1, q2, q3⟩ := g.own a l0 e0
      refine ⟨(u.n a q2).trans q1, fun z => q2 (u.t a z), ?_⟩
      rcases q3 with z | ⟨z, i, hi, hI⟩
      · exact .inl z
      · rcases hl with z2 | ⟨j, z2⟩
        · exact .inr ⟨z, i, by rw [← z2]; exact hi, hI⟩
        · rw [z2] at hi; cases hi
    · exact ⟨h2, h3, .inl (g.ext.t a h1)⟩
/-- no change of the heap -/
theorem GG.re {E : Ent} {env env' : En} {st st' : List SP} {σ σ' : L2.St} {vs vs' : List V} {H F : Hp} {w w' : Ow} (g : GG E env st σ vs H F w) (hw : ∀ a l, w' a = some l → ∃ l0, w a = some l0 ∧ (l0 = l ∨ ∃ i, l0 = .s i)) (he : EnvOk F H w' env' σ') (hs : StOk F H w' st' vs') : GG E env' st' σ' vs' H F w' :=
  g.step (M := fun _ => False) (Ext.refl g.ext.s) (fun _ z => z.elim) (fun a l e => .inl (hw a l e)) he hs
theorem GG.pushV {E : Ent} {env : En} {st : List SP} {σ : L2.St} {vs : List V} {H F : Hp} {w : Ow} {α : Type} {T : Ty α} {x : α} {v : V} (g : GG E env st σ vs H F w) (h : T.rp F v x) : GG E env (val T x :: st) σ (v :: vs) H F w :=
  g.re (fun a l e => ⟨l, e, .inl rfl⟩) g.env ⟨h, g.st⟩
theorem GG.pop {E : Ent} {env : En} {S : SP} {st : List SP} {σ : L2.St} {v : V} {vs : List V} {H F : Hp} {w : Ow} (g : GG E env (S :: st) σ (v :: vs) H F w) : GG E env st σ vs H F w :=
  g.re (fun a l e => ⟨l, e, .inl rfl⟩) g.env g.st.2
theorem GG.mid {E : Ent} {env : En} {α : Type} {T : Ty α} {x : α} {st : List SP} {σ : L2.St} {v : V} {vs : List V} {H F : Hp} {w : Ow} : ∀ {st1 : List SP} {vs1 : List V}, st1.length = vs1.length → GG E env (st1 ++ val T x :: st) σ (vs1 ++ v :: vs) H F w → T.rp F v x
  | [], [], _, g => g.st.1
  | _ :: st1, _ :: vs1, e, g => GG.mid (st1 := st1) (vs1 := vs1) (by simpa using e) g.pop
  | [], _ :: _, e, _ => by simp at e
  | _ :: _, [], e, _ => by simp at e
theorem GG.top {E : Ent} {env : En} {α : Type} {T : Ty α} {x : α} {st : List SP} {σ : L2.St} {v : V} {vs : List V} {H F : Hp} {w : Ow} (g : GG E env (val T x :: st) σ (v :: vs) H F w) : T.rp F v x := g.st.1
/-- a new object that all may know: F grows by it -/
theorem Ext.newF {F H : Hp} {p : Addr} {o : HO} (s : Same F H) (hp : H p = none) : Ext F H (fun _ => False) (upd F p o) (upd H p o) where
  f := fun b u e => by
    have hb : b ≠ p := fun z => by
      rw [z] at e
      have := s p u e
      rw [hp] at this; cases this
    rw [upd_ne hb]; exact e
  s := fun b u e => by
    by_cases hb : b = p
    · subst hb; rw [upd_same] at e ⊢; exact e
    · rw [upd_ne hb] at e ⊢; exact s b u e
  h := fun b u _ e => by rw [upd_ne (ne_of_none e hp)]; exact e
  n := fun b h => upd_ne fun z => h (by rw [z]; exact hp)
  t := fun b h => by
    by_cases hb : b = p
    · rw [hb, upd_same] at h; cases h
    · rw [upd_ne hb] at h; exact h
/-- a new object of one's own -/
theorem Ext.newO {F H : Hp} {p : Addr} {o : HO} (s : Same F H) (hp : H p = none) : Ext F H (fun _ => False) F (upd H p o) where
  f := Same.refl F
  s := fun b u e => by
    have := s b u e
    rw [upd_ne (ne_of_none this hp)]; exact this
  h := fun b u _ e => by rw [upd_ne (ne_of_none e hp)]; exact e
  n := fun _ _ => rfl
  t := fun b h => by
    by_cases hb : b = p
    · rw [hb, upd_same] at h; cases h
    · rw [upd_ne hb] at h; exact h
/-- an own object changed -/
theorem Ext.chg {F H : Hp} {p : Addr} {o : HO} (s : Same F H) (hf : F p = none) : Ext F H (fun b => b = p) F (upd H p o) where
  f := Same.refl F
  s := fun b u e => by
    rw [upd_ne (ne_of_none e hf)]; exact s b u e
  h := fun b u nb e => by rw [upd_ne nb]; exact e
  n := fun _ _ => rfl
  t := fun b h => by
    by_cases hb : b = p
    · rw [hb, upd_same] at h; cases h
    · rw [upd_ne hb] at h; exact h
/-- behind a step that changed nothing that is owned: the same slots -/
theorem GG.grow {E : Ent} {env : En} {st : List SP} {σ : L2.St} {vs : List V} {H F F' H' : Hp} {w : Ow} (g : GG E env st σ vs H F w) (u : Ext F H (fun _ => False) F' H') : GG E env st σ vs H' F' w :=
  g.step u (fun _ z => z.elim) (fun a l e => .inl ⟨l, e, .inl rfl⟩)
    (g.env.step u fun i S _ a => ⟨Iff.rfl, fun e => ⟨fun z => z, (g.own a _ e).2.1⟩⟩)
    (g.st.step u fun i _ a => ⟨Iff.rfl, fun e => ⟨fun z => z, (g.own a _ e).2.1⟩⟩)
/-- w with the label l's set made N -/
noncomputable def Ow.put (w : Ow) (l : Lb) (N : Addr → Prop) : Ow := fun a => by
  classical
  exact if N a then some l else if w a = some l then none else w a
theorem Ow.put_of {w : Ow} {l : Lb} {N : Addr → Prop} : (w.put l N).of l = N := by
  classical
  funext a
  unfold Ow.of Ow.put
  by_cases h : N a
  · simp [h]
  · by_cases h2 : w a = some l
    · simp [h, h2]
    · simp [h, h2]
theorem Ow.put_ne {w : Ow} {l k : Lb} {N : Addr → Prop} (hk : k ≠ l) (hN : ∀ a, N a → w a = none ∨ w a = some l) (a : Addr) : (w.put l N) a = some k ↔ w a = some k := by
  classical
  unfold Ow.put
  by_cases h : N a
  · simp only [h, if_true]
    constructor
    · intro e; exact absurd (Option.some.inj e).symm hk
    · intro e
      rcases hN a h with z | z
      · rw [z] at e; cases e
      · rw [z] at e; exact absurd (Option.some.inj e).symm hk
  · by_cases h2 : w a = some l
    · simp only [h, if_false, h2, if_true]
      constructor
      · intro e; cases e
      · intro e; exact absurd (Option.some.inj e).symm hk
    · simp [h, h2]
theorem Ow.put_sub {w : Ow} {l k : Lb} {N : Addr → Prop} {a : Addr} (h : (w.put l N) a = some k) : N a ∨ w a = some k := by
  classical
  unfold Ow.put at h
  by_cases hN : N a
  · exact .inl hN
  · by_cases h2 : w a = some l
    · simp [hN, h2] at h
    · simp [hN, h2] at h
      exact .inr h
/-- a new object of one's own comes to the top -/
theorem GG.pushO {E : Ent} {env : En} {st : List SP} {σ : L2.St} {vs : List V} {H F : Hp} {w : Ow} {p : Addr} {o : HO} {S : SP} (g : GG E env st σ vs H F w) (hp : H p = none) (h : S.ok F (upd H p o) (fun b => b = p) (.ref p)) :
    GG E env (S :: st) σ (.ref p :: vs) (upd H p o) F (w.put (.s st.length) fun b => b = p) := by
  have u : Ext F H (fun _ => False) F (upd H p o) := Ext.newO (o := o) g.ext.s hp
  have wp : w p = none := by
    cases e : w p with
    | none => rfl
    | some l => exact absurd hp (g.own p l e).2.1
  have hN : ∀ a, a = p → w a = none ∨ w a = some (Lb.s st.length) := fun a z => .inl (by rw [z]; exact wp)
  refine g.step u (fun _ z => z.elim) (fun a l e => ?_) ?_ ⟨?_, ?_⟩
  · rcases Ow.put_sub e with z | z
    · refine .inr ?_
      rw [z]
      refine ⟨hp, ?_, by rw [upd_same]; intro q; cases q⟩
      cases q : F p with
      | none => rfl
      | some x => have := g.ext.s p x q; rw [hp] at this; cases this
    · exact .inl ⟨l, z, .inl rfl⟩
  · exact g.env.step u fun i S _ a => ⟨Ow.put_ne (by intro z; cases z) hN a, fun e => ⟨fun z => z, (g.own a _ e).2.1⟩⟩
  · rw [Ow.put_of]; exact h
  · exact g.st.step u fun i hi a => ⟨Ow.put_ne (by intro z; cases z; omega) hN a, fun e => ⟨fun z => z, (g.own a _ e).2.1⟩⟩
/-- the top's slot goes to the name i -/
theorem GG.store {E : Ent} {env : En} {S : SP} {st : List SP} {σ : L2.St} {v : V} {vs : List V} {H F : Hp} {w : Ow} {i : Nat} (g : GG E env (S :: st) σ (v :: vs) H F w) (hi : i < env.length) :
    ∃ w', GG E (env.set i (some S)) st (σ.set i (some v)) vs H F w' := by
  classical
  refine ⟨fun a => if w a = some (.s st.length) then some (.e i) else if w a = some (.e i) then none else w a, g.re (fun a l e => ?_) ⟨by simpa using g.env.1, fun j S' e => ?_⟩ ?_⟩
  · by_cases h : w a = some (.s st.length)
    · exact ⟨_, h, .inr ⟨_, rfl⟩⟩
    · by_cases h2 : w a = some (.e i)
      · simp [h2] at e
      · simp [h, h2] at e; exact ⟨_, e, .inl rfl⟩
  · by_cases hj : i = j
    · subst hj
      have e1 : S = S' := by
        rw [List.getElem?_set_self hi] at e
        exact Option.some.inj (Option.some.inj e)
      subst e1
      refine ⟨v, by rw [List.getElem?_set_self (Nat.lt_of_lt_of_le hi g.env.1)], ?_⟩
      have hq := g.st.1
      have ee : Ow.of (fun a => if w a = some (.s st.length) then some (.e i) else if w a = some (.e i) then none else w a) (.e i) = w.of (.s st.length) := by
        funext a
        unfold Ow.of
        by_cases h : w a = some (.s st.length)
        · simp [h]
        · by_cases h2 : w a = some (.e i)
          · simp [h, h2]
          · simp [h, h2]
      rw [ee]
      exact hq
    · rw [List.getElem?_set_ne hj] at e
      obtain ⟨u, e1, e2⟩ := g.env.2 j S' e
      refine ⟨u, by rw [List.getElem?_set_ne hj]; exact e1, ?_⟩
      have ee : Ow.of (fun a => if w a = some (.s st.length) then some (.e i) else if w a = some (.e i) then none else w a) (.e j) = w.of (.e j) := by
        funext a
        unfold Ow.of
        by_cases h : w a = some (.s st.length)
        · simp [h]; exact fun z => hj z
        · by_cases h2 : w a = some (.e i)
          · simp [h, h2]; exact fun z => hj z
          · simp [h, h2]
      rw [ee]
      exact e2
  · refine g.st.2.step (M := fun _ => False) (Ext.refl g.ext.s) fun k hk a => ⟨?_, fun e => ⟨fun z => z, (g.own a _ e).2.1⟩⟩
    show (if w a = some (.s st.length) then some (.e i) else if w a = some (.e i) then none else w a) = some (.s k) ↔ w a = some (.s k)
    by_cases h : w a = some (.s st.length)
    · simp [h]; omega
    · by_cases h2 : w a = some (.e i)
      · simp [h, h2]
      · simp [h, h2]
/-- names may be forgotten -/
def Fgt (env env' : En) : Prop := env'.length ≤ env.length ∧ ∀ (i : Nat) (S : SP), env'[i]? = some (some S) → env[i]? = some (some S)
theorem Fgt.refl (env : En) : Fgt env env := ⟨Nat.le_refl _, fun _ _ h => h⟩
theorem G.fgt {E : Ent} {env env' : En} {st : List SP} {σ : L2.St} {vs : List V} {H : Hp} (g : G E env st σ vs H) (h : Fgt env env') : G E env' st σ vs H := by
  obtain ⟨F, w, g⟩ := g
  exact ⟨F, w, g.re (fun a l e => ⟨l, e, .inl rfl⟩) ⟨Nat.le_trans h.1 g.env.1, fun i S e => g.env.2 i S (h.2 i S e)⟩ g.st⟩
/-- the slot below the top goes -/
theorem GG.nip {E : Ent} {env : En} {S Z : SP} {st : List SP} {σ : L2.St} {v z : V} {vs : List V} {H F : Hp} {w : Ow} (g : GG E env (S :: Z :: st) σ (v :: z :: vs) H F w) : ∃ w', GG E env (S :: st) σ (v :: vs) H F w' := by
  have hq := g.st.1
  have hS : ∀ a, w a = some (.s (Z :: st).length) → a = a := fun _ _ => rfl
  classical
  refine ⟨fun a => if w a = some (.s (st.length + 1)) then some (.s st.length) else if w a = some (.s st.length) then none else w a, g.re (fun a l e => ?_) (g.env.step (M := fun _ => False) (Ext.refl g.ext.s) fun i S' _ a => ⟨?_, fun e => ⟨fun z => z, (g.own a _ e).2.1⟩⟩) ⟨?_, g.st.2.2.step (M := fun _ => False) (Ext.refl g.ext.s) fun k hk a => ⟨?_, fun e => ⟨fun z => z, (g.own a _ e).2.1⟩⟩⟩⟩
  · by_cases h : w a = some (.s (st.length + 1))
    · exact ⟨_, h, .inr ⟨_, rfl⟩⟩
    · by_cases h2 : w a = some (.s st.length)
      · simp [h2] at e
      · simp [h, h2] at e; exact ⟨_, e, .inl rfl⟩
  · show (if w a = some (.s (st.length + 1)) then some (.s st.length) else if w a = some (.s st.length) then none else w a) = some (.e i) ↔ w a = some (.e i)
    by_cases h : w a = some (.s (st.length + 1))
    · simp [h]
    · by_cases h2 : w a = some (.s st.length)
      · simp [h, h2]
      · simp [h, h2]
  · have ee : Ow.of (fun a => if w a = some (.s (st.length + 1)) then some (.s st.length) else if w a = some (.s st.length) then none else w a) (.s st.length) = w.of (.s (st.length + 1)) := by
      funext a
      unfold Ow.of
      by_cases h : w a = some (.s (st.length + 1))
      · simp [h]
      · by_cases h2 : w a = some (.s st.length)
        · simp [h, h2]
        · simp [h, h2]
    rw [ee]
    simpa using hq
  · show (if w a = some (.s (st.length + 1)) then some (.s st.length) else if w a = some (.s st.length) then none else w a) = some (.s k) ↔ w a = some (.s k)
    by_cases h : w a = some (.s (st.length + 1))
    · simp [h]; omega
    · by_cases h2 : w a = some (.s st.length)
      · simp [h, h2]; omega
      · simp [h, h2]
/-- the top's own list becomes a value that all may know -/
theorem GG.freeze {E : Ent} {env : En} {α : Type} {φ : V → Prop} {T : Ty α} {xs : List α} {st : List SP} {σ : L2.St} {v : V} {vs : List V} {H F : Hp} {w : Ow} (g : GG E env (muL φ T xs :: st) σ (v :: vs) H F w) :
    ∃ F' w', GG E env (val (tL T) xs :: st) σ (v :: vs) H F' w' := by
  obtain ⟨a, us, e, f, ho, h, p⟩ := g.st.1
  have wa : w a = some (.s st.length) := (ho a).mpr rfl
  obtain ⟨q1, q2, q3⟩ := g.own a _ wa
  have q3' : E.H a = none := by
    rcases q3 with z | z
    · exact z
    · obtain ⟨_, i, hi, _⟩ := z
      cases hi
  have sF : Same F (upd F a (.lst us)) := fun b o e => by rw [upd_ne (ne_of_none e q1)]; exact e
  have sH : Same (upd F a (.lst us)) H := fun b o e => by
    by_cases hb : b = a
    · subst hb; rw [upd_same] at e; rw [h]; exact e
    · rw [upd_ne hb] at e; exact g.ext.s b o e
  refine ⟨upd F a (.lst us), w.put (.s st.length) (fun _ => False), ⟨⟨g.ext.f.trans sF, sH, g.ext.h, fun b hb => ?_, g.ext.t⟩, ⟨g.env.1, fun i S e => ?_⟩, ⟨?_, ?_⟩, fun b l e => ?_⟩⟩
  · rw [upd_ne (fun z => hb (by rw [z]; exact q3'))]
    exact g.ext.n b hb
  · obtain ⟨u, e1, e2⟩ := g.env.2 i S e
    refine ⟨u, e1, ?_⟩
    rw [ofq (Ow.put_ne (by intro z; cases z) (fun _ z => z.elim))]
    exact S.mono e2 sF fun _ _ => rfl
  · exact ⟨a, us, e, upd_same, Paired.mono p fun _ _ => T.mono sF⟩
  · have key : ∀ {st' : List SP} {vs' : List V}, StOk F H w st' vs' → st'.length ≤ st.length → StOk (upd F a (.lst us)) H (w.put (.s st.length) fun _ => False) st' vs' := by
      intro st'
      induction st' with
      | nil => intro vs' h' _; cases vs' with
        | nil => trivial
        | cons _ _ => exact h'.elim
      | cons S st' ih => intro vs' h' hl; cases vs' with
        | nil => exact h'.elim
        | cons v' vs' =>
          refine ⟨?_, ih h'.2 (by simp at hl; omega)⟩
          rw [ofq (Ow.put_ne (by intro z; injection z with z; simp at hl; omega) (fun _ z => z.elim))]
          exact S.mono h'.1 sF fun _ _ => rfl
    exact key g.st.2 (Nat.le_refl _)
  · have hne : b ≠ a := fun z => by
      rw [z] at e
      have : (w.put (.s st.length) fun _ => False) a = none := by
        unfold Ow.put
        simp [wa]
      rw [this] at e; cases e
    rcases Ow.put_sub e with z | z
    · exact z.elim
    · obtain ⟨r1, r2, r3⟩ := g.own b l z
      exact ⟨by rw [upd_ne hne]; exact r1, r2, r3⟩
end ML

set_option Elab.async false
set_option linter.all false
set_option maxRecDepth 100000
set_option maxHeartbeats 2000000
namespace ML
open PySem PySem.Spec PyProof.Rows L2

/-! ### judgements -/
/-- an expression: m its value, if some; S its slot; env' the names behind it -/
def EX {α : Type} (E : Ent) (env : En) (te : TE) (m : Option α) (S : α → SP) (env' : α → En) : Prop :=
  ∀ (st : List SP) (vs : List V) (σ : L2.St) (H : Hp) (Q : VK) (x : α), G E env st σ vs H → m = some x → (∀ v H', G E (env' x) (S x :: st) σ (v :: vs) H' → Q v H') → te σ H Q
abbrev EV {α : Type} (E : Ent) (env : En) (te : TE) (m : Option α) (S : α → SP) : Prop := EX E env te m S fun _ => env
/-- a test -/
def TX (E : Ent) (env : En) (tt : TT) (m : Option Bool) : Prop :=
  ∀ (st : List SP) (vs : List V) (σ : L2.St) (H : Hp) (Q : Bool → Hp → Prop) (b : Bool), G E env st σ vs H → m = some b → (∀ H', G E env st σ vs H' → Q b H') → tt σ H Q
/-- an argument list: acc what has come; Pc what is told of all -/
def AX {γ : Type} (E : Ent) (env : En) (ta : TA) (acc : List SP) (m : Option γ) (Pc : γ → List SP → Prop) : Prop :=
  ∀ (st : List SP) (vs us0 : List V) (σ : L2.St) (H : Hp) (Q : List V → Hp → Prop) (c : γ), G E env (acc ++ st) σ (us0 ++ vs) H → us0.length = acc.length → m = some c → (∀ us H' Ss, Pc c Ss → Ss.length = (us0 ++ us).length → G E env (Ss ++ st) σ (us.reverse ++ us0 ++ vs) H' → Q us H') → ta σ H Q
/-- one value to one; two to one -/
def O1 {γ : Type} (r : V → Hp → VK → Prop) (Sa : SP) (m : Option γ) (S : γ → SP) : Prop :=
  ∀ (E : Ent) (env : En) (st : List SP) (σ : L2.St) (vs : List V) (H : Hp) (Q : VK) (va : V) (c : γ), G E env (Sa :: st) σ (va :: vs) H → m = some c → (∀ v H', G E env (S c :: st) σ (v :: vs) H' → Q v H') → r va H Q
def O2 {γ : Type} (r : R2) (Sa Sb : SP) (m : Option γ) (S : γ → SP) : Prop :=
  ∀ (E : Ent) (env : En) (st : List SP) (σ : L2.St) (vs : List V) (H : Hp) (Q : VK) (va vb : V) (c : γ), G E env (Sb :: Sa :: st) σ (vb :: va :: vs) H → m = some c → (∀ v H', G E env (S c :: st) σ (v :: vs) H' → Q v H') → r va vb H Q

section
variable {α β γ δ : Type} {E : Ent} {env : En} {te ta tb tc : TE} {tt tu : TT}
theorem G.popV {S : SP} {st : List SP} {σ : L2.St} {v : V} {vs : List V} {H : Hp} (g : G E env (S :: st) σ (v :: vs) H) : G E env st σ vs H := by
  obtain ⟨F, w, g⟩ := g
  exact ⟨F, w, g.pop⟩

/-! ### expressions -/
theorem ev_var {i : Nat} {T : Ty α} {x : α} (h : env[i]? = some (some (val T x))) : EV E env (tVar i) (some x) (val T) := by
  intro st vs σ H Q y g hm hq
  cases hm
  obtain ⟨F, w, g⟩ := g
  obtain ⟨v, e1, e2⟩ := g.env.2 i _ h
  exact ⟨v, e1, hq v H ⟨F, w, g.pushV e2⟩⟩
theorem ev_c {T : Ty α} {x : α} {v : V} (h : ∀ F, T.rp F v x) : EV E env (tC v) (some x) (val T) := by
  intro st vs σ H Q y g hm hq
  cases hm
  obtain ⟨F, w, g⟩ := g
  exact hq v H ⟨F, w, g.pushV (h F)⟩
theorem ev_int {i : Int} : EV E env (tC (.int i)) (some i) (val tInt) := ev_c fun _ => rfl
theorem ev_bl {i : Bool} : EV E env (tC (.bl i)) (some i) (val tBool) := ev_c fun _ => rfl
theorem ev_str {i : Str} : EV E env (tC (.str i)) (some i) (val tStr) := ev_c fun _ => rfl
theorem ev_non : EV E env (tC .non) (some ()) (val tNon) := ev_c fun _ => rfl
theorem ev_none {T : Ty α} : EV E env (tC .non) (some (none : Option α)) (val (tOpt T)) := ev_c fun _ => rfl
theorem ev_op {r : R2} {ma : Option α} {mb : α → Option β} {mc : α → β → Option γ} {Sa : α → SP} {Sb : β → SP} {S : γ → SP} (ha : EV E env ta ma Sa) (hb : ∀ a, EV E env tb (mb a) Sb) (hr : ∀ a b, O2 r (Sa a) (Sb b) (mc a b) S) :
    EV E env (tOp r ta tb) (ma.bind fun a => (mb a).bind fun b => mc a b) S := by
  intro st vs σ H Q c g hm hq
  obtain ⟨a, ea, hm⟩ := Option.bind_eq_some_iff.mp hm
  obtain ⟨b, eb, hm⟩ := Option.bind_eq_some_iff.mp hm
  exact ha st vs σ H _ a g ea fun va H1 g1 => hb a _ _ σ H1 _ b g1 eb fun vb H2 g2 => hr a b E env st σ vs H2 Q va vb c g2 hm hq
theorem ev_un {r : V → Hp → VK → Prop} {ma : Option α} {mc : α → Option γ} {Sa : α → SP} {S : γ → SP} (ha : EV E env ta ma Sa) (hr : ∀ a, O1 r (Sa a) (mc a) S) : EV E env (tUn r ta) (ma.bind mc) S := by
  intro st vs σ H Q c g hm hq
  obtain ⟨a, ea, hm⟩ := Option.bind_eq_some_iff.mp hm
  exact ha st vs σ H _ a g ea fun va H1 g1 => hr a E env st σ vs H1 Q va c g1 hm hq
/-- f(e), f(e, e'), f a built-in -/
theorem ev_cb1 {r : List V → Hp → VK → Prop} {ma : Option α} {mc : α → Option γ} {Sa : α → SP} {S : γ → SP} (ha : EV E env ta ma Sa) (hr : ∀ a, O1 (fun v H Q => r [v] H Q) (Sa a) (mc a) S) : EV E env (tCB r (tCons ta tNil)) (ma.bind mc) S := by
  intro st vs σ H Q c g hm hq
  obtain ⟨a, ea, hm⟩ := Option.bind_eq_some_iff.mp hm
  exact ha st vs σ H _ a g ea fun va H1 g1 => hr a E env st σ vs H1 Q va c g1 hm hq
theorem ev_cb2 {r : List V → Hp → VK → Prop} {ma : Option α} {mb : α → Option β} {mc : α → β → Option γ} {Sa : α → SP} {Sb : β → SP} {S : γ → SP} (ha : EV E env ta ma Sa) (hb : ∀ a, EV E env tb (mb a) Sb) (hr : ∀ a b, O2 (fun v u H Q => r [v, u] H Q) (Sa a) (Sb b) (mc a b) S) :
    EV E env (tCB r (tCons ta (tCons tb tNil))) (ma.bind fun a => (mb a).bind fun b => mc a b) S := by
  intro st vs σ H Q c g hm hq
  obtain ⟨a, ea, hm⟩ := Option.bind_eq_some_iff.mp hm
  obtain ⟨b, eb, hm⟩ := Option.bind_eq_some_iff.mp hm
  exact ha st vs σ H _ a g ea fun va H1 g1 => hb a _ _ σ H1 _ b g1 eb fun vb H2 g2 => hr a b E env st σ vs H2 Q va vb c g2 hm hq
/-- a new list of one's own becomes a value -/
theorem ev_frz {T : Ty α} {φ : V → Prop} {m : Option (List α)} (h : EV E env te m (muL φ T)) : EV E env te m (val (tL T)) := by
  intro st vs σ H Q x g hm hq
  refine h st vs σ H Q x g hm fun v H' ⟨F, w, g'⟩ => ?_
  obtain ⟨F', w', g2⟩ := g'.freeze
  exact hq v H' ⟨F', w', g2⟩
/-- another view of the same slot -/
theorem ev_as {m : Option α} {f : α → β} {S : α → SP} {S' : β → SP} (h : EV E env te m S) (k : ∀ x F H o v, (S x).ok F H o v → (S' (f x)).ok F H o v) : EV E env te (m.map f) S' := by
  intro st vs σ H Q y g hm hq
  obtain ⟨x, ex, rfl⟩ := Option.map_eq_some_iff.mp hm
  refine h st vs σ H Q x g ex fun v H' ⟨F, w, g'⟩ => hq v H' ⟨F, w, g'.re (fun a l e => ⟨l, e, .inl rfl⟩) g'.env ⟨k x _ _ _ _ g'.st.1, g'.st.2⟩⟩
theorem ev_to {m : Option α} {S S' : α → SP} (h : EV E env te m S) (k : ∀ x F H o v, (S x).ok F H o v → (S' x).ok F H o v) : EV E env te m S' := by
  intro st vs σ H Q x g hm hq
  refine h st vs σ H Q x g hm fun v H' ⟨F, w, g'⟩ => hq v H' ⟨F, w, g'.re (fun a l e => ⟨l, e, .inl rfl⟩) g'.env ⟨k x _ _ _ _ g'.st.1, g'.st.2⟩⟩
/-- t ? a : b -/
theorem ev_if {mt : Option Bool} {ma mb : Option γ} {S : γ → SP} (ht : TX E env tt mt) (ha : EV E env ta ma S) (hb : EV E env tb mb S) : EV E env (tIf tt ta tb) (mt.bind fun b => if b = true then ma else mb) S := by
  intro st vs σ H Q c g hm hq
  obtain ⟨b, eb, hm⟩ := Option.bind_eq_some_iff.mp hm
  refine ht st vs σ H _ b g eb fun H1 g1 => ?_
  cases b with
  | true => exact ha st vs σ H1 Q c g1 hm hq
  | false => exact hb st vs σ H1 Q c g1 hm hq
/-- and, or, not as values -/
theorem ev_and {ma mb : Option Bool} (ha : EV E env ta ma (val tBool)) (hb : EV E env tb mb (val tBool)) : EV E env (tAndV ta tb) (ma.bind fun b => if b = true then mb else some false) (val tBool) := by
  intro st vs σ H Q c g hm hq
  obtain ⟨b, eb, hm⟩ := Option.bind_eq_some_iff.mp hm
  refine ha st vs σ H _ b g eb fun v H1 ⟨F, w, g1⟩ => ⟨b, g1.top, ?_⟩
  cases b with
  | true => exact hb st vs σ H1 Q c ⟨F, w, g1.pop⟩ hm hq
  | false =>
    cases hm
    exact hq _ _ ⟨F, w, g1.pop.pushV rfl⟩
theorem ev_or {ma mb : Option Bool} (ha : EV E env ta ma (val tBool)) (hb : EV E env tb mb (val tBool)) : EV E env (tOrV ta tb) (ma.bind fun b => if b = true then some true else mb) (val tBool) := by
  intro st vs σ H Q c g hm hq
  obtain ⟨b, eb, hm⟩ := Option.bind_eq_some_iff.mp hm
  refine ha st vs σ H _ b g eb fun v H1 ⟨F, w, g1⟩ => ⟨b, g1.top, ?_⟩
  cases b with
  | true =>
    cases hm
    exact hq _ _ ⟨F, w, g1.pop.pushV rfl⟩
  | false => exact hb st vs σ H1 Q c ⟨F, w, g1.pop⟩ hm hq
theorem ev_not {ma : Option Bool} (ha : EV E env ta ma (val tBool)) : EV E env (tNotV ta) (ma.bind fun b => some (!b)) (val tBool) := by
  intro st vs σ H Q c g hm hq
  obtain ⟨b, eb, hm⟩ := Option.bind_eq_some_iff.mp hm
  cases hm
  exact ha st vs σ H _ b g eb fun v H1 ⟨F, w, g1⟩ => ⟨b, g1.top, hq _ _ ⟨F, w, g1.pop.pushV rfl⟩⟩
/-! ### tests -/
theorem tx_e {m : Option Bool} (h : EV E env te m (val tBool)) : TX E env (tTest te) m := by
  intro st vs σ H Q b g hm hq
  exact h st vs σ H _ b g hm fun v H1 ⟨F, w, g1⟩ => ⟨b, g1.top, hq H1 ⟨F, w, g1.pop⟩⟩
theorem tx_b {m : Option Bool} (h : EV E env te m (val tBool)) : TX E env (tB te) m := by
  intro st vs σ H Q b g hm hq
  exact h st vs σ H _ b g hm fun v H1 ⟨F, w, g1⟩ => ⟨b, g1.top, hq H1 ⟨F, w, g1.pop⟩⟩
theorem tx_and {ma mb : Option Bool} (ha : TX E env tt ma) (hb : TX E env tu mb) : TX E env (tAnd tt tu) (ma.bind fun b => if b = true then mb else some false) := by
  intro st vs σ H Q c g hm hq
  obtain ⟨b, eb, hm⟩ := Option.bind_eq_some_iff.mp hm
  refine ha st vs σ H _ b g eb fun H1 g1 => ?_
  cases b with
  | true => exact hb st vs σ H1 Q c g1 hm hq
  | false => cases hm; exact hq _ g1
theorem tx_or {ma mb : Option Bool} (ha : TX E env tt ma) (hb : TX E env tu mb) : TX E env (tOr tt tu) (ma.bind fun b => if b = true then some true else mb) := by
  intro st vs σ H Q c g hm hq
  obtain ⟨b, eb, hm⟩ := Option.bind_eq_some_iff.mp hm
  refine ha st vs σ H _ b g eb fun H1 g1 => ?_
  cases b with
  | true => cases hm; exact hq _ g1
  | false => exact hb st vs σ H1 Q c g1 hm hq
theorem tx_not {ma : Option Bool} (ha : TX E env tt ma) : TX E env (tNot tt) (ma.bind fun b => some (!b)) := by
  intro st vs σ H Q c g hm hq
  obtain ⟨b, eb, hm⟩ := Option.bind_eq_some_iff.mp hm
  cases hm
  exact ha st vs σ H _ b g eb fun H1 g1 => hq H1 g1
/-- a op b op' c -/
theorem ev_chain {r r' : R2} {ma : Option α} {mb : Option β} {mc : Option γ} {m1 : α → β → Option Bool} {m2 : β → γ → Option Bool} {T : Ty α} {U : Ty β} {W : Ty γ} (ha : EV E env ta ma (val T)) (hb : EV E env tb mb (val U)) (hc : EV E env tc mc (val W))
    (h1 : ∀ a b, O2 r (val T a) (val U b) (m1 a b) (val tBool)) (h2 : ∀ b c, O2 r' (val U b) (val W c) (m2 b c) (val tBool)) :
    EV E env (tChain r r' ta tb tc) (ma.bind fun a => mb.bind fun b => (m1 a b).bind fun k => if k = true then mc.bind fun c => m2 b c else some false) (val tBool) := by
  intro st vs σ H Q c g hm hq
  obtain ⟨a, ea, hm⟩ := Option.bind_eq_some_iff.mp hm
  obtain ⟨b, eb, hm⟩ := Option.bind_eq_some_iff.mp hm
  obtain ⟨k, ek, hm⟩ := Option.bind_eq_some_iff.mp hm
  refine ha st vs σ H _ a g ea fun va H1 g1 => hb _ _ σ H1 _ b g1 eb fun vb H2 g2 => ?_
  obtain ⟨F2, w2, g2⟩ := g2
  have gb : U.rp F2 vb b := g2.top
  -- keep b's value below
  have g2' : GG E env (val U b :: val T a :: val U b :: st) σ (vb :: va :: vb :: vs) H2 F2 w2 := g2.re (fun a l e => ⟨l, e, .inl rfl⟩) g2.env ⟨g2.st.1, g2.st.2.1, gb, g2.st.2.2⟩
  refine h1 a b E env _ σ _ H2 _ va vb k ⟨F2, w2, g2'⟩ ek fun v H3 ⟨F3, w3, g3⟩ => ⟨k, g3.top, ?_⟩
  cases k with
  | true =>
    rw [if_pos rfl]
    obtain ⟨z, ez, hm⟩ := Option.bind_eq_some_iff.mp hm
    exact hc _ _ σ H3 _ z ⟨F3, w3, g3.pop⟩ ez fun vc H4 g4 => h2 b z E env st σ vs H4 Q vb vc c g4 hm hq
  | false =>
    rw [if_neg Bool.false_ne_true] at hm ⊢
    cases hm
    exact hq _ _ ⟨F3, w3, g3.pop.pop.pushV rfl⟩
theorem tx_chain {r r' : R2} {m : Option Bool} (h : EV E env (tChain r r' ta tb tc) m (val tBool)) : TX E env (tTest (tChain r r' ta tb tc)) m := tx_e h
/-! ### arguments -/
theorem ax_nil {acc : List SP} {m : Option γ} {Pc : γ → List SP → Prop} (h : ∀ c, m = some c → Pc c acc) : AX E env tNil acc m Pc := by
  intro st vs us0 σ H Q c g hl hm hq
  exact hq [] H acc (h c hm) (by simp [hl]) g
theorem ax_cons {tr : TA} {acc : List SP} {m1 : Option α} {m2 : α → Option γ} {S : α → SP} {Pc : γ → List SP → Prop} (h1 : EV E env te m1 S) (h2 : ∀ a, AX E env tr (S a :: acc) (m2 a) Pc) : AX E env (tCons te tr) acc (m1.bind m2) Pc := by
  intro st vs us0 σ H Q c g hl hm hq
  obtain ⟨a, ea, hm⟩ := Option.bind_eq_some_iff.mp hm
  refine h1 _ _ σ H _ a g ea fun v H1 g1 => h2 a st vs (v :: us0) σ H1 _ c g1 (by simp [hl]) hm fun us H' Ss hp hz g2 => hq (v :: us) H' Ss hp (by simp at hz ⊢; omega) (by simpa using g2)
/-- a display [..] of values: a new list of one's own -/
theorem vals_of {T : Ty α} {F H : Hp} {w : Ow} : ∀ {st : List SP} {vs : List V} {xs : List α} {us : List V}, StOk F H w ((xs.map (val T)) ++ st) (us ++ vs) → us.length = xs.length → Paired (T.rp F) us xs ∧ StOk F H w st vs
  | _, _, [], [], h, _ => ⟨.nil, h⟩
  | _, _, x :: xs, u :: us, h, e => by
    obtain ⟨p, q⟩ := vals_of (xs := xs) (us := us) h.2 (by simpa using e)
    exact ⟨.cons h.1 p, q⟩
  | _, _, [], _ :: _, _, e => by simp at e
  | _, _, _ :: _, [], _, e => by simp at e
theorem Paired.rev {α β : Type} {f : α → β → Prop} : ∀ {l : List α} {m : List β}, Paired f l m → Paired f l.reverse m.reverse
  | _, _, .nil => .nil
  | _, _, .cons r t => by
    rw [List.reverse_cons, List.reverse_cons]
    exact Paired.snoc (Paired.rev t) r
theorem ev_lst {T : Ty α} {t : TA} {m : Option (List α)} (h : AX E env t [] m fun c Ss => Ss = (c.map (val T)).reverse ∧ c.length ≤ 1000) : EV E env (tLst t) m (own T) := by
  intro st vs σ H Q c g hm hq
  refine h st vs [] σ H _ c g rfl hm fun us H' Ss ⟨hs, hc⟩ hl ⟨F, w, g'⟩ => ?_
  subst hs
  rw [← List.map_reverse] at g'
  have hlen : us.length = c.length := by simpa using hl.symm
  obtain ⟨p, q⟩ := vals_of (xs := c.reverse) (us := us.reverse) (by simpa using g'.st) (by simp [hlen])
  have p2 : Paired (T.rp F) us c := by simpa using Paired.rev p
  refine ⟨Nat.le_of_lt (small1000 (by omega)), fun a ha => hq _ _ ⟨F, _, (g'.re (fun a l e => ⟨l, e, .inl rfl⟩) g'.env q : GG E env st σ vs H' F w).pushO ha ⟨a, us, rfl, trivial, fun b => Iff.rfl, upd_same, p2⟩⟩⟩
/-- a pair (a, b) -/
theorem ev_pair {T : Ty α} {U : Ty β} {ma : Option α} {mb : α → Option β} (ha : EV E env ta ma (val T)) (hb : ∀ a, EV E env tb (mb a) (val U)) : EV E env (tTup (tCons ta (tCons tb tNil))) (ma.bind fun a => (mb a).bind fun b => some (a, b)) (val (tP T U)) := by
  intro st vs σ H Q c g hm hq
  obtain ⟨a, ea, hm⟩ := Option.bind_eq_some_iff.mp hm
  obtain ⟨b, eb, hm⟩ := Option.bind_eq_some_iff.mp hm
  cases hm
  refine ha st vs σ H _ a g ea fun va H1 g1 => hb a _ _ σ H1 _ b g1 eb fun vb H2 ⟨F, w, g2⟩ => ⟨by show 2 ≤ sizeLine; decide, fun p hp => ?_⟩
  have u := Ext.newF (F := F) (o := .tup [va, vb]) g2.ext.s hp
  exact hq _ _ ⟨_, w, (g2.pop.pop.grow u).pushV ⟨p, va, vb, rfl, upd_same, T.mono u.f g2.st.2.1, U.mono u.f g2.st.1⟩⟩
/-! ### the operators -/
/-- nothing is made -/
theorem o2_mk {r : R2} {T : Ty α} {U : Ty β} {W : Ty γ} {a : α} {b : β} {m : Option γ} (hr : ∀ c, m = some c → ∀ (F H : Hp) (Q : VK) (va vb : V), Same F H → T.rp F va a → U.rp F vb b → (∀ v, W.rp F v c → Q v H) → r va vb H Q) : O2 r (val T a) (val U b) m (val W) := by
  intro E env st σ vs H Q va vb c ⟨F, w, g⟩ hm hq
  exact hr c hm F H Q va vb g.ext.s g.st.2.1 g.st.1 fun v hv => hq v H ⟨F, w, g.pop.pop.pushV hv⟩
theorem o1_mk {r : V → Hp → VK → Prop} {T : Ty α} {W : Ty γ} {a : α} {m : Option γ} (hr : ∀ c, m = some c → ∀ (F H : Hp) (Q : VK) (va : V), Same F H → T.rp F va a → (∀ v, W.rp F v c → Q v H) → r va H Q) : O1 r (val T a) m (val W) := by
  intro E env st σ vs H Q va c ⟨F, w, g⟩ hm hq
  exact hr c hm F H Q va g.ext.s g.st.1 fun v hv => hq v H ⟨F, w, g.pop.pushV hv⟩
theorem o2_int {C : Int → Int → Prop} {f : Int → Int → Int} {a b : Int} (hc : C a b) : O2 (rI C fun i j => .int (f i j)) (val tInt a) (val tInt b) (some (f a b)) (val tInt) := o2_mk fun c hm F H Q va vb s ha hb hq => by
  cases hm
  exact ⟨a, b, ha, hb, hc, hq _ rfl⟩
theorem o2_int0 {f : Int → Int → Int} {a b : Int} : O2 (rI0 fun i j => .int (f i j)) (val tInt a) (val tInt b) (some (f a b)) (val tInt) := o2_mk fun c hm F H Q va vb s ha hb hq => by
  cases hm
  exact ⟨a, b, ha, hb, hq _ rfl⟩
theorem o2_cmp {f : Int → Int → Bool} {a b : Int} : O2 (rI0 fun i j => .bl (f i j)) (val tInt a) (val tInt b) (some (f a b)) (val tBool) := o2_mk fun c hm F H Q va vb s ha hb hq => by
  cases hm
  exact ⟨a, b, ha, hb, hq _ rfl⟩
/-- guards -/
def grd (p : Prop) [Decidable p] {γ : Type} (k : Option γ) : Option γ := if p then k else none
theorem grd_some {p : Prop} [Decidable p] {k : Option γ} {c : γ} (h : grd p k = some c) : p ∧ k = some c := by
  unfold grd at h
  split at h
  · exact ⟨‹_›, h⟩
  · cases h
theorem grd_pos {p : Prop} [Decidable p] {k : Option γ} (h : p) : grd p k = k := if_pos h
theorem o2_intG {C : Int → Int → Prop} {f : Int → Int → Int} {p : Int → Int → Prop} [∀ i j, Decidable (p i j)] {a b : Int} (hp : ∀ i j, p i j → C i j) : O2 (rI C fun i j => .int (f i j)) (val tInt a) (val tInt b) (grd (p a b) (some (f a b))) (val tInt) := o2_mk fun c hm F H Q va vb s ha hb hq => by
  obtain ⟨q, hm⟩ := grd_some hm
  cases hm
  exact ⟨a, b, ha, hb, hp _ _ q, hq _ rfl⟩
theorem o2_mulW {a b : Int} : O2 (rI CMulW fun i j => .int (i * j)) (val tInt a) (val tInt b) (grd (a.natAbs.log2 + b.natAbs.log2 < 1000000) (some (a * b))) (val tInt) := o2_intG (f := fun i j => i * j) (p := fun a b => a.natAbs.log2 + b.natAbs.log2 < 1000000) fun _ _ h => h
theorem o2_divW {a b : Int} : O2 (rI CDivW fun i j => .int (i / j)) (val tInt a) (val tInt b) (grd (0 < b ∧ b.natAbs.log2 < 9000) (some (a / b))) (val tInt) := o2_intG (f := fun i j => i / j) (p := fun a b => 0 < b ∧ b.natAbs.log2 < 9000) fun _ _ h => h
theorem o2_mod {a b : Int} : O2 (rI (fun _ j => 0 < j) fun i j => .int (i % j)) (val tInt a) (val tInt b) (grd (0 < b) (some (a % b))) (val tInt) := o2_intG (f := fun i j => i % j) (p := fun a b => 0 < b) fun _ _ h => h
theorem o2_eqI {a b : Int} : O2 rEq (val tInt a) (val tInt b) (some (decide (a = b))) (val tBool) := o2_mk fun c hm F H Q va vb s ha hb hq => by
  cases hm
  cases ha
  cases hb
  refine ⟨rfl, hq _ ?_⟩
  show V.bl _ = V.bl _
  congr 1
  exact decide_eq_decide.mpr ⟨fun e => by injection e, fun e => by rw [e]⟩
theorem o2_neI {a b : Int} : O2 rNe (val tInt a) (val tInt b) (some (!decide (a = b))) (val tBool) := o2_mk fun c hm F H Q va vb s ha hb hq => by
  cases hm
  cases ha
  cases hb
  refine ⟨rfl, hq _ ?_⟩
  show V.bl _ = V.bl _
  congr 2
  exact decide_eq_decide.mpr ⟨fun e => by injection e, fun e => by rw [e]⟩
theorem o2_eqB {a b : Bool} : O2 rEq (val tBool a) (val tBool b) (some (decide (a = b))) (val tBool) := o2_mk fun c hm F H Q va vb s ha hb hq => by
  cases hm
  cases ha
  cases hb
  refine ⟨rfl, hq _ ?_⟩
  show V.bl _ = V.bl _
  congr 1
  exact decide_eq_decide.mpr ⟨fun e => by injection e, fun e => by rw [e]⟩
theorem o2_neB {a b : Bool} : O2 rNe (val tBool a) (val tBool b) (some (!decide (a = b))) (val tBool) := o2_mk fun c hm F H Q va vb s ha hb hq => by
  cases hm
  cases ha
  cases hb
  refine ⟨rfl, hq _ ?_⟩
  show V.bl _ = V.bl _
  congr 2
  exact decide_eq_decide.mpr ⟨fun e => by injection e, fun e => by rw [e]⟩
theorem o2_eqS {a b : Str} : O2 rEq (val tStr a) (val tStr b) (some (decide (a = b))) (val tBool) := o2_mk fun c hm F H Q va vb s ha hb hq => by
  cases hm
  cases ha
  cases hb
  refine ⟨rfl, hq _ ?_⟩
  show V.bl _ = V.bl _
  congr 1
  exact decide_eq_decide.mpr ⟨fun e => by injection e, fun e => by rw [e]⟩
theorem o2_neS {a b : Str} : O2 rNe (val tStr a) (val tStr b) (some (!decide (a = b))) (val tBool) := o2_mk fun c hm F H Q va vb s ha hb hq => by
  cases hm
  cases ha
  cases hb
  refine ⟨rfl, hq _ ?_⟩
  show V.bl _ = V.bl _
  congr 2
  exact decide_eq_decide.mpr ⟨fun e => by injection e, fun e => by rw [e]⟩
/-- scalars of any kind -/
theorem o2_eqD {a b : V} : O2 rEq (val tDyn a) (val tDyn b) (grd (scal a b = true) (some (decide (a = b)))) (val tBool) := o2_mk fun c hm F H Q va vb s ha hb hq => by
  obtain ⟨q, hm⟩ := grd_some hm
  cases hm
  cases ha
  cases hb
  exact ⟨q, hq _ rfl⟩
theorem o2_neD {a b : V} : O2 rNe (val tDyn a) (val tDyn b) (grd (scal a b = true) (some (!decide (a = b)))) (val tBool) := o2_mk fun c hm F H Q va vb s ha hb hq => by
  obtain ⟨q, hm⟩ := grd_some hm
  cases hm
  cases ha
  cases hb
  exact ⟨q, hq _ rfl⟩
theorem o1_neg {a : Int} : O1 (rU fun i => .int (-i)) (val tInt a) (some (-a)) (val tInt) := o1_mk fun c hm F H Q va s ha hq => by
  cases hm
  exact ⟨a, ha, hq _ rfl⟩
/-! ### lists -/
theorem Paired.get {α β : Type} {f : α → β → Prop} : ∀ {l : List α} {m : List β}, Paired f l m → ∀ {i : Nat} {y : β}, m[i]? = some y → ∃ x, l[i]? = some x ∧ f x y
  | _, _, .nil, i, y, h => by simp at h
  | _, _, .cons r t, 0, y, h => by
    have e := Option.some.inj (by simpa using h)
    exact ⟨_, rfl, by rw [← e]; exact r⟩
  | _, _, .cons r t, i + 1, y, h => by
    obtain ⟨x, e1, e2⟩ := ML.Paired.get t (i := i) (y := y) (by simpa using h)
    exact ⟨x, by simpa using e1, e2⟩
theorem atI_paired {f : V → α → Prop} {vs : List V} {xs : List α} (p : Paired f vs xs) {i : Int} {y : α} (h : atI xs i = some y) : ∃ v, atI vs i = some v ∧ f v y := by
  unfold atI at h ⊢
  obtain ⟨j, e1, e2⟩ := Option.bind_eq_some_iff.mp h
  obtain ⟨v, e3, e4⟩ := ML.Paired.get p e2
  refine ⟨v, ?_, e4⟩
  rw [show vs.length = xs.length from p.length, e1]
  exact e3
theorem o2_ixL {K : PySem.W.Frag} {T : Ty α} {xs : List α} {i : Int} : O2 (rIxL K) (val (tL T) xs) (val tInt i) (atI xs i) (val T) := o2_mk fun c hm F H Q va vb s ⟨a, vs, e, h, p⟩ hb hq => by
  obtain ⟨v, e1, e2⟩ := atI_paired p hm
  exact ⟨a, vs, i, v, e, hb, .of (s _ _ h), e1, hq v e2⟩
theorem o2_ixS {K : PySem.W.Frag} {T : Ty α} {xs : List α} {i : Int} : O2 (rIxL K) (val (tS K T) xs) (val tInt i) (atI xs i) (val T) := o2_mk fun c hm F H Q va vb s ⟨a, vs, e, h, p⟩ hb hq => by
  obtain ⟨v, e1, e2⟩ := atI_paired p hm
  exact ⟨a, vs, i, v, e, hb, s.seq h, e1, hq v e2⟩
theorem o1_lenL {K : PySem.W.Frag} {T : Ty α} {xs : List α} : O1 (fun v H Q => ∃ p ys, [v] = [V.ref p] ∧ (SqL K H p ys ∨ SqT K H p ys) ∧ Q (.int ys.length) H) (val (tL T) xs) (some (xs.length : Int)) (val tInt) := o1_mk fun c hm F H Q va s ⟨a, vs, e, h, p⟩ hq => by
  cases hm
  exact ⟨a, vs, by rw [e], .inl (.of (s _ _ h)), hq _ (by show V.int _ = V.int _; rw [p.length])⟩
theorem o1_lenS {K : PySem.W.Frag} {T : Ty α} {xs : List α} : O1 (fun v H Q => ∃ p ys, [v] = [V.ref p] ∧ (SqL K H p ys ∨ SqT K H p ys) ∧ Q (.int ys.length) H) (val (tS K T) xs) (some (xs.length : Int)) (val tInt) := o1_mk fun c hm F H Q va s ⟨a, vs, e, h, p⟩ hq => by
  cases hm
  exact ⟨a, vs, by rw [e], .inl (s.seq h), hq _ (by show V.int _ = V.int _; rw [p.length])⟩
/-- list(xs): a new list of one's own -/
theorem o1_listL {K : PySem.W.Frag} {T : Ty α} {xs : List α} : O1 (fun v H Q => ∃ p ys, [v] = [V.ref p] ∧ (SqL K H p ys ∨ SqT K H p ys) ∧ ∀ l, H l = none → Q (.ref l) (upd H l (.lst ys))) (val (tL T) xs) (some xs) (own T) := by
  intro E env st σ vs H Q va c ⟨F, w, g⟩ hm hq
  cases hm
  obtain ⟨a, us, e, h, p⟩ := g.top
  exact ⟨a, us, by rw [e], .inl (.of (g.ext.s _ _ h)), fun l hl => hq _ _ ⟨F, _, g.pop.pushO hl ⟨l, us, rfl, trivial, fun b => Iff.rfl, upd_same, p⟩⟩⟩
theorem o1_listS {K : PySem.W.Frag} {T : Ty α} {xs : List α} : O1 (fun v H Q => ∃ p ys, [v] = [V.ref p] ∧ (SqL K H p ys ∨ SqT K H p ys) ∧ ∀ l, H l = none → Q (.ref l) (upd H l (.lst ys))) (val (tS K T) xs) (some xs) (own T) := by
  intro E env st σ vs H Q va c ⟨F, w, g⟩ hm hq
  cases hm
  obtain ⟨a, us, e, h, p⟩ := g.top
  exact ⟨a, us, by rw [e], .inl (g.ext.s.seq h), fun l hl => hq _ _ ⟨F, _, g.pop.pushO hl ⟨l, us, rfl, trivial, fun b => Iff.rfl, upd_same, p⟩⟩⟩
end
end ML

set_option Elab.async false
set_option linter.all false
set_option maxRecDepth 100000
set_option maxHeartbeats 2000000
namespace ML
open PySem PySem.Spec PyProof.Rows L2

/-! ### blocks -/
inductive Out (α β ρ : Type) where
  | nx (a : α) | brk (b : β) | ret (r : ρ)
abbrev Post (γ : Type) := γ → List SP → List V → Ends → Prop
def BK {γ : Type} (E : Ent) (env : En) (t : TS) (m : Option γ) (post : Post γ) : Prop :=
  ∀ (st : List SP) (vs : List V) (σ : L2.St) (H : Hp) (D : Ends) (g : γ), G E env st σ vs H → m = some g → post g st vs D → t D σ H
def pN {α : Type} (E : Ent) (eN : α → En) : Post α := fun a st vs D => ∀ σ' H', G E (eN a) st σ' vs H' → D.nx σ' H'
def pR {ρ : Type} (E : Ent) (R : ρ → SP) (eR : ρ → En) : Post ρ := fun r st vs D => ∀ v σ' H', G E (eR r) (R r :: st) σ' (v :: vs) H' → D.rt v H'
def pL {α β ρ : Type} (E : Ent) (eN : α → En) (eB : β → En) (R : ρ → SP) (eR : ρ → En) : Post (Out α β ρ) := fun o st vs D => match o with
  | .nx a => ∀ σ' H', G E (eN a) st σ' vs H' → D.nx σ' H'
  | .brk b => ∀ σ' H', G E (eB b) st σ' vs H' → D.bk σ' H'
  | .ret r => ∀ v σ' H', G E (eR r) (R r :: st) σ' (v :: vs) H' → D.rt v H'

section
variable {α β γ δ ρ τ : Type} {E : Ent} {env : En} {te ta tb tc : TE} {tt : TT} {u t t1 t2 : TS} {post : Post γ}
/-- post does not ask what follows -/
def NoNx (post : Post γ) : Prop := ∀ g st vs (D : Ends) x, post g st vs D → post g st vs { D with nx := x }
theorem bk_asg {m : Option α} {S : α → SP} {e1 : α → En} {k : α → Option γ} {i : Nat} (h : EX E env te m S e1) (hk : ∀ x, BK E ((e1 x).set i (some (S x))) u (k x) post) (hi : ∀ x, Nat.ble (i + 1) (e1 x).length = true := by intro _; rfl)
    (hp : ∀ g st vs D x, post g st vs D → post g st vs { D with nx := x } ∨ True := by intros; exact Or.inr trivial) : BK E env (tSeq (tAsg te (gName i)) u) (m.bind k) post := by
  intro st vs σ H D g gg hm hq
  obtain ⟨x, ex, hm⟩ := Option.bind_eq_some_iff.mp hm
  refine h st vs σ H _ x gg ex fun v H1 ⟨F, w, g1⟩ => ?_
  obtain ⟨w', g2⟩ := g1.store (Nat.le_of_ble_eq_true (hi x))
  exact hk x st vs _ H1 D g ⟨F, w', g2⟩ hm hq
theorem bk_expr {m : Option α} {S : α → SP} {e1 : α → En} {k : α → Option γ} (h : EX E env te m S e1) (hk : ∀ x, BK E (e1 x) u (k x) post) : BK E env (tSeq (tDrop te) u) (m.bind k) post := by
  intro st vs σ H D g gg hm hq
  obtain ⟨x, ex, hm⟩ := Option.bind_eq_some_iff.mp hm
  exact h st vs σ H _ x gg ex fun v H1 g1 => hk x st vs _ H1 D g g1.popV hm hq
theorem bk_pass (hk : ∀ {m : Option γ}, True) {m : Option γ} (h : BK E env u m post) : BK E env (tSeq tNext u) m post := fun st vs σ H D g gg hm hq => h st vs σ H D g gg hm hq
/-- fall through -/
theorem bn_nx {a : α} {eN : α → En} (h : Fgt env (eN a)) : BK E env tNext (some a) (pN E eN) := by
  intro st vs σ H D g gg hm hq
  cases hm
  exact hq σ H (gg.fgt h)
theorem bl_nx {a : α} {eN : α → En} {eB : β → En} {R : ρ → SP} {eR : ρ → En} (h : Fgt env (eN a)) : BK E env tNext (some (.nx a)) (pL E eN eB R eR) := by
  intro st vs σ H D g gg hm hq
  cases hm
  exact hq σ H (gg.fgt h)
theorem bl_brk {b : β} {eN : α → En} {eB : β → En} {R : ρ → SP} {eR : ρ → En} (h : Fgt env (eB b)) : BK E env tBreak (some (.brk b)) (pL E eN eB R eR) := by
  intro st vs σ H D g gg hm hq
  cases hm
  exact hq σ H (gg.fgt h)
theorem br_ret {m : Option ρ} {R : ρ → SP} {eR : ρ → En} {e1 : ρ → En} (h : EX E env te m R e1) (hf : ∀ r, Fgt (e1 r) (eR r)) : BK E env (tRet te) m (pR E R eR) := by
  intro st vs σ H D g gg hm hq
  exact h st vs σ H _ g gg hm fun v H1 g1 => hq v σ H1 (g1.fgt (hf g))
theorem bl_ret {m : Option ρ} {R : ρ → SP} {eR : ρ → En} {e1 : ρ → En} {eN : α → En} {eB : β → En} (h : EX E env te m R e1) (hf : ∀ r, Fgt (e1 r) (eR r)) : BK E env (tRet te) (m.bind fun r => some (.ret r)) (pL E eN eB R eR) := by
  intro st vs σ H D g gg hm hq
  obtain ⟨r, er, hm⟩ := Option.bind_eq_some_iff.mp hm
  cases hm
  exact h st vs σ H _ r gg er fun v H1 g1 => hq v σ H1 (g1.fgt (hf r))
/-- a returning block among others -/
theorem bl_ofR {m : Option ρ} {R : ρ → SP} {eR : ρ → En} {eN : α → En} {eB : β → En} (h : BK E env t m (pR E R eR)) : BK E env t (m.bind fun r => some (.ret r)) (pL E eN eB R eR) := by
  intro st vs σ H D g gg hm hq
  obtain ⟨r, er, hm⟩ := Option.bind_eq_some_iff.mp hm
  cases hm
  exact h st vs σ H D r gg er hq
theorem bl_ofN {m : Option α} {R : ρ → SP} {eR : ρ → En} {eN : α → En} {eB : β → En} (h : BK E env t m (pN E eN)) : BK E env t (m.bind fun r => some (.nx r)) (pL E eN eB R eR) := by
  intro st vs σ H D g gg hm hq
  obtain ⟨r, er, hm⟩ := Option.bind_eq_some_iff.mp hm
  cases hm
  exact h st vs σ H D r gg er hq
/-- how a returned value stands in the wish -/
def Emb (E : Ent) (post : Post γ) (R : ρ → SP) (eR : ρ → En) (emb : ρ → γ) : Prop := ∀ r st vs D, post (emb r) st vs D → pR E R eR r st vs D
theorem emb_R {R : ρ → SP} {eR : ρ → En} : Emb E (pR E R eR) R eR id := fun _ _ _ _ h => h
theorem emb_L {R : ρ → SP} {eR : ρ → En} {eN : α → En} {eB : β → En} : Emb E (pL E eN eB R eR) R eR Out.ret := fun _ _ _ _ h => h
/-- if, both ways the same kind of end (last in its block) -/
theorem bk_if {mt : Option Bool} {ma mb : Option γ} (ht : TX E env tt mt) (ha : BK E env t1 ma post) (hb : BK E env t2 mb post) : BK E env (tIfS tt t1 t2) (mt.bind fun b => if b = true then ma else mb) post := by
  intro st vs σ H D g gg hm hq
  obtain ⟨b, eb, hm⟩ := Option.bind_eq_some_iff.mp hm
  refine ht st vs σ H _ b gg eb fun H1 g1 => ?_
  cases b with
  | true => exact ha st vs σ H1 D g g1 hm hq
  | false => exact hb st vs σ H1 D g g1 hm hq
/-- if whose first way returns, the second is empty -/
theorem bk_ifr {mt : Option Bool} {ma : Option ρ} {mb : Option γ} {R : ρ → SP} {eR : ρ → En} {emb : ρ → γ} (he : Emb E post R eR emb) (ht : TX E env tt mt) (ha : BK E env t1 ma (pR E R eR)) (hb : BK E env u mb post) :
    BK E env (tSeq (tIfS tt t1 tNext) u) (mt.bind fun b => if b = true then ma.bind fun r => some (emb r) else mb) post := by
  intro st vs σ H D g gg hm hq
  obtain ⟨b, eb, hm⟩ := Option.bind_eq_some_iff.mp hm
  refine ht st vs σ H _ b gg eb fun H1 g1 => ?_
  cases b with
  | true =>
    obtain ⟨r, er, hm⟩ := Option.bind_eq_some_iff.mp hm
    cases hm
    exact ha st vs σ H1 _ r g1 er (he r st vs D hq)
  | false => exact hb st vs σ H1 D g g1 hm hq
/-- the same where all of it returns -/
theorem br_ifr {mt : Option Bool} {ma mb : Option ρ} {R : ρ → SP} {eR : ρ → En} (ht : TX E env tt mt) (ha : BK E env t1 ma (pR E R eR)) (hb : BK E env u mb (pR E R eR)) :
    BK E env (tSeq (tIfS tt t1 tNext) u) (mt.bind fun b => if b = true then ma else mb) (pR E R eR) := by
  intro st vs σ H D g gg hm hq
  obtain ⟨b, eb, hm⟩ := Option.bind_eq_some_iff.mp hm
  refine ht st vs σ H _ b gg eb fun H1 g1 => ?_
  cases b with
  | true => exact ha st vs σ H1 _ g g1 hm hq
  | false => exact hb st vs σ H1 D g g1 hm hq
/-- if, both ways fall through to J -/
theorem bk_ifj {mt : Option Bool} {ma mb : Option α} {k : α → Option γ} {eJ : α → En} (ht : TX E env tt mt) (ha : BK E env t1 ma (pN E eJ)) (hb : BK E env t2 mb (pN E eJ)) (hk : ∀ x, BK E (eJ x) u (k x) post) :
    BK E env (tSeq (tIfS tt t1 t2) u) (mt.bind fun b => (if b = true then ma else mb).bind k) post := by
  intro st vs σ H D g gg hm hq
  obtain ⟨b, eb, hm⟩ := Option.bind_eq_some_iff.mp hm
  obtain ⟨x, ex, hm2⟩ := Option.bind_eq_some_iff.mp hm
  refine ht st vs σ H _ b gg eb fun H1 g1 => ?_
  cases b with
  | true => exact ha st vs σ H1 _ x g1 ex fun σ' H' g2 => hk x st vs σ' H' D g g2 hm2 hq
  | false => exact hb st vs σ H1 _ x g1 ex fun σ' H' g2 => hk x st vs σ' H' D g g2 hm2 hq
/-- if, some ways return or break, the others fall through to J -/
def thenO {α β ρ γ : Type} (o : Option (Out α β ρ)) (k : α → Option γ) (hb : β → Option γ) (hr : ρ → Option γ) : Option γ := o.bind fun o => match o with
  | .nx a => k a
  | .brk b => hb b
  | .ret r => hr r
theorem bk_ifm {mt : Option Bool} {ma mb : Option (Out α β ρ)} {k : α → Option γ} {eJ : α → En} {eB : β → En} {R : ρ → SP} {eR : ρ → En} {emb : ρ → γ} {embB : β → γ} (he : Emb E post R eR emb) (heB : ∀ b st vs D, post (embB b) st vs D → ∀ σ' H', G E (eB b) st σ' vs H' → D.bk σ' H')
    (ht : TX E env tt mt) (ha : BK E env t1 ma (pL E eJ eB R eR)) (hb : BK E env t2 mb (pL E eJ eB R eR)) (hk : ∀ x, BK E (eJ x) u (k x) post) :
    BK E env (tSeq (tIfS tt t1 t2) u) (mt.bind fun b => thenO (if b = true then ma else mb) k (fun b => some (embB b)) fun r => some (emb r)) post := by
  intro st vs σ H D g gg hm hq
  obtain ⟨b, eb, hm⟩ := Option.bind_eq_some_iff.mp hm
  unfold thenO at hm
  obtain ⟨x, ex, hm⟩ := Option.bind_eq_some_iff.mp hm
  refine ht st vs σ H _ b gg eb fun H1 g1 => ?_
  have fin : pL E eJ eB R eR x st vs { D with nx := u D } := by
    cases x with
    | nx a => exact fun σ' H' g2 => hk a st vs σ' H' D g g2 hm hq
    | brk b =>
      cases hm
      exact heB b st vs D hq
    | ret r =>
      cases hm
      exact he r st vs D hq
  cases b with
  | true => exact ha st vs σ H1 _ x g1 ex fin
  | false => exact hb st vs σ H1 _ x g1 ex fin

/-! ### targets -/
/-- the top goes to a target -/
def AS (E : Ent) (env : En) (g : TG) (S : SP) (env' : En) : Prop :=
  ∀ (st : List SP) (vs : List V) (σ : L2.St) (H : Hp) (Q : L2.St → Hp → Prop) (v : V), G E env (S :: st) σ (v :: vs) H → (∀ σ' H', G E env' st σ' vs H' → Q σ' H') → g v σ H Q
theorem as_name {i : Nat} {S : SP} (hi : Nat.ble (i + 1) env.length = true := by rfl) : AS E env (gName i) S (env.set i (some S)) := by
  intro st vs σ H Q v ⟨F, w, g⟩ hq
  obtain ⟨w', g2⟩ := g.store (Nat.le_of_ble_eq_true hi)
  exact hq _ H ⟨F, w', g2⟩
/-- a, b = pair -/
theorem as_pair {K : PySem.W.Frag} {i j : Nat} {T : Ty α} {U : Ty β} {p : α × β} (hi : Nat.ble (i + 1) env.length = true := by rfl) (hj : Nat.ble (j + 1) env.length = true := by rfl) :
    AS E env (gTup K 2 (gCons (gName i) (gCons (gName j) gNil))) (val (tP T U) p) ((env.set i (some (val T p.1))).set j (some (val U p.2))) := by
  intro st vs σ H Q v ⟨F, w, g⟩ hq
  obtain ⟨a, x, y, e, h, h1, h2⟩ := g.top
  refine ⟨a, [x, y], e, .of (g.ext.s _ _ h), rfl, x, [y], rfl, y, [], rfl, rfl, ?_⟩
  obtain ⟨w1, g1⟩ := (g.pop.pushV h1).store (i := i) (Nat.le_of_ble_eq_true hi)
  obtain ⟨w2, g2⟩ := (g1.pushV h2).store (i := j) (by rw [List.length_set]; exact Nat.le_of_ble_eq_true hj)
  exact hq _ H ⟨F, w2, g2⟩
theorem bk_asgT {m : Option α} {S : α → SP} {e1 e2 : α → En} {k : α → Option γ} {g : TG} (h : EX E env te m S e1) (ha : ∀ x, AS E (e1 x) g (S x) (e2 x)) (hk : ∀ x, BK E (e2 x) u (k x) post) : BK E env (tSeq (tAsg te g) u) (m.bind k) post := by
  intro st vs σ H D y gg hm hq
  obtain ⟨x, ex, hm⟩ := Option.bind_eq_some_iff.mp hm
  exact h st vs σ H _ x gg ex fun v H1 g1 => ha x st vs σ H1 _ v g1 fun σ' H' g2 => hk x st vs σ' H' D y g2 hm hq

/-! ### what is walked -/
/-- J gives the items xs, one a turn, as slots S, while Z (at v) stands on top -/
def Wk {α : Type} (J : It) (xs : List α) (S : α → SP) (Z : SP) (v : V) : Prop :=
  ∀ (E : Ent) (env : En) (st1 st : List SP) (σ : L2.St) (vs1 vs : List V) (H : Hp) (i : Nat), st1.length = vs1.length → G E env (st1 ++ Z :: st) σ (vs1 ++ v :: vs) H →
    (∀ y, xs[i]? = some y → J.go i H ∧ ∀ x H', J.yld i H x H' → G E env (S y :: (st1 ++ Z :: st)) σ (x :: (vs1 ++ v :: vs)) H') ∧ (xs.length ≤ i → J.stop i H)
def IX {α : Type} (E : Ent) (env : En) (wi : TI) (m : Option (List α)) (S : α → SP) : Prop :=
  ∀ (st : List SP) (vs : List V) (σ : L2.St) (H : Hp) (R : It → Hp → Prop) (xs : List α), G E env st σ vs H → m = some xs → (∀ J Z v H', Wk J xs S Z v → G E env (Z :: st) σ (v :: vs) H' → R J H') → wi σ H R
theorem wk_L {K : PySem.W.Frag} {T : Ty α} {xs : List α} {a : Addr} : Wk (Itl K a) xs (val T) (val (tL T) xs) (.ref a) := by
  intro E env st1 st σ vs1 vs H i hl1 ⟨F, w, g⟩
  obtain ⟨a', us, e, h, p⟩ := GG.mid hl1 g
  cases e
  have hs : SqL K H a us := .of (g.ext.s _ _ h)
  refine ⟨fun y hy => ?_, fun hl => ⟨us, hs, by rw [p.length]; exact hl⟩⟩
  obtain ⟨x, e1, e2⟩ := ML.Paired.get p hy
  refine ⟨⟨us, x, hs, e1⟩, fun x' H' ⟨eH, hx⟩ => ?_⟩
  cases eH
  have := hx us hs
  rw [e1] at this
  cases this
  exact ⟨F, w, g.pushV e2⟩
theorem wk_U {K : PySem.W.Frag} {T : Ty α} {xs : List α} {a : Addr} : Wk (Itt K a) xs (val T) (val (tU T) xs) (.ref a) := by
  intro E env st1 st σ vs1 vs H i hl1 ⟨F, w, g⟩
  obtain ⟨a', us, e, h, p⟩ := GG.mid hl1 g
  cases e
  have hs : SqT K H a us := .of (g.ext.s _ _ h)
  refine ⟨fun y hy => ?_, fun hl => ⟨us, hs, by rw [p.length]; exact hl⟩⟩
  obtain ⟨x, e1, e2⟩ := ML.Paired.get p hy
  refine ⟨⟨us, x, hs, e1⟩, fun x' H' ⟨eH, hx⟩ => ?_⟩
  cases eH
  have := hx us hs
  rw [e1] at this
  cases this
  exact ⟨F, w, g.pushV e2⟩
theorem ix_L {K : PySem.W.Frag} {T : Ty α} {m : Option (List α)} (h : EV E env te m (val (tL T))) : IX E env (iList K te) m (val T) := by
  intro st vs σ H R xs gg hm hq
  refine h st vs σ H _ xs gg hm fun v H1 ⟨F, w, g1⟩ => ?_
  obtain ⟨a, us, e, hh, p⟩ := g1.top
  cases e
  exact ⟨a, rfl, ⟨us, .of (g1.ext.s _ _ hh)⟩, hq _ _ _ _ wk_L ⟨F, w, g1⟩⟩
theorem ix_U {K : PySem.W.Frag} {T : Ty α} {m : Option (List α)} (h : EV E env te m (val (tU T))) : IX E env (iTup K te) m (val T) := by
  intro st vs σ H R xs gg hm hq
  refine h st vs σ H _ xs gg hm fun v H1 ⟨F, w, g1⟩ => ?_
  obtain ⟨a, us, e, hh, p⟩ := g1.top
  cases e
  exact ⟨a, rfl, ⟨us, .of (g1.ext.s _ _ hh)⟩, hq _ _ _ _ wk_U ⟨F, w, g1⟩⟩
theorem wk_S {K : PySem.W.Frag} {T : Ty α} {xs : List α} {a : Addr} (one : ∀ (F : Hp) (us us' : List V), SqL K F a us → SqL K F a us' → us = us') : Wk (Itl K a) xs (val T) (val (tS K T) xs) (.ref a) := by
  intro E env st1 st σ vs1 vs H i hl1 ⟨F, w, g⟩
  obtain ⟨a', us, e, h, p⟩ := GG.mid hl1 g
  cases e
  have hs : SqL K H a us := g.ext.s.seq h
  refine ⟨fun y hy => ?_, fun hl => ⟨us, hs, by rw [p.length]; exact hl⟩⟩
  obtain ⟨x, e1, e2⟩ := ML.Paired.get p hy
  refine ⟨⟨us, x, hs, e1⟩, fun x' H' ⟨eH, hx⟩ => ?_⟩
  cases eH
  have := hx us hs
  rw [e1] at this
  cases this
  exact ⟨F, w, g.pushV e2⟩
/-- a range -/
def rangeL (a : Int) (n : Nat) : List Int := (List.range n).map fun i => a + (i : Nat)
theorem rangeL_get {a : Int} {n i : Nat} {y : Int} (h : (rangeL a n)[i]? = some y) : i < n ∧ y = a + (i : Nat) := by
  unfold rangeL at h
  rw [List.getElem?_map] at h
  obtain ⟨j, e1, e2⟩ := Option.map_eq_some_iff.mp h
  have hi : i < n := by
    have := (List.getElem?_eq_some_iff.mp e1).1
    simpa using this
  rw [List.getElem?_range hi] at e1
  cases e1
  exact ⟨hi, e2.symm⟩
theorem rangeL_len {a : Int} {n : Nat} : (rangeL a n).length = n := by simp [rangeL]
theorem wk_R {a : Int} {n : Nat} : Wk (Itr a n) (rangeL a n) (val tInt) anyS .non := by
  intro E env st1 st σ vs1 vs H i hl1 ⟨F, w, g⟩
  refine ⟨fun y hy => ?_, fun hl => by rw [rangeL_len] at hl; exact hl⟩
  obtain ⟨hi, ey⟩ := rangeL_get hy
  refine ⟨hi, fun x H' ⟨eH, hx⟩ => ?_⟩
  cases eH
  exact ⟨F, w, g.pushV (by rw [hx, ey]; rfl)⟩
theorem G.pushAny {st : List SP} {σ : L2.St} {vs : List V} {H : Hp} {v : V} (g : G E env st σ vs H) : G E env (anyS :: st) σ (v :: vs) H := by
  obtain ⟨F, w, g⟩ := g
  exact ⟨F, w, g.re (fun a l e => ⟨l, e, .inl rfl⟩) g.env ⟨trivial, g.st⟩⟩
def range1 (n : Int) : Option (List Int) := grd (n < 4611686018427387904 ∧ -4611686018427387904 ≤ n) (some (rangeL 0 n.toNat))
def range2 (a b : Int) : Option (List Int) := grd (-4611686018427387904 ≤ a ∧ a < 4611686018427387904 ∧ -4611686018427387904 ≤ b ∧ b < 4611686018427387904) (some (rangeL a (b - a).toNat))
theorem ix_R1 {m : Option Int} (h : EV E env te m (val tInt)) : IX E env (iRng1 (tCons te tNil)) (m.bind range1) (val tInt) := by
  intro st vs σ H R xs gg hm hq
  obtain ⟨n, en, hm⟩ := Option.bind_eq_some_iff.mp hm
  obtain ⟨⟨h1, h2⟩, hm⟩ := grd_some hm
  cases hm
  refine h st vs σ H _ n gg en fun v H1 ⟨F, w, g1⟩ => ⟨n, by rw [show v = V.int n from g1.top], h2, h1, hq _ anyS .non _ wk_R (G.pushAny ⟨F, w, g1.pop⟩)⟩
theorem ix_R2 {ma : Option Int} {mb : Int → Option Int} (ha : EV E env ta ma (val tInt)) (hb : ∀ a, EV E env tb (mb a) (val tInt)) : IX E env (iRng2 (tCons ta (tCons tb tNil))) (ma.bind fun a => (mb a).bind fun b => range2 a b) (val tInt) := by
  intro st vs σ H R xs gg hm hq
  obtain ⟨a, ea, hm⟩ := Option.bind_eq_some_iff.mp hm
  obtain ⟨b, eb, hm⟩ := Option.bind_eq_some_iff.mp hm
  obtain ⟨hc, hm⟩ := grd_some hm
  cases hm
  refine ha st vs σ H _ a gg ea fun v H1 g1 => hb a _ _ σ H1 _ b g1 eb fun u H2 ⟨F, w, g2⟩ => ⟨a, b, ?_, hc, hq _ anyS .non _ wk_R (G.pushAny ⟨F, w, g2.pop.pop⟩)⟩
  rw [show u = V.int b from g2.top, show v = V.int a from g2.st.2.1]

/-! ### for -/
def forN {α σ : Type} : List α → σ → (α → σ → Option σ) → Option σ
  | [], s, _ => some s
  | x :: xs, s, f => (f x s).bind fun s' => forN xs s' f
def forK {σ ρ : Type} (k : σ → Option (Sum σ ρ)) : Out σ σ ρ → Option (Sum σ ρ)
  | .nx s => k s
  | .brk s => some (.inl s)
  | .ret r => some (.inr r)
def forL {α σ ρ : Type} : List α → σ → (α → σ → Option (Out σ σ ρ)) → Option (Sum σ ρ)
  | [], s, _ => some (.inl s)
  | x :: xs, s, f => (f x s).bind (forK fun s' => forL xs s' f)
theorem drop_cons {α : Type} {xs : List α} {i : Nat} {y : α} {r : List α} (h : xs.drop i = y :: r) : xs[i]? = some y ∧ xs.drop (i + 1) = r := by
  constructor
  · have := congrArg (fun l : List α => l[0]?) h
    simpa using this
  · have := congrArg List.tail h
    simpa using this
theorem drop_nil {α : Type} {xs : List α} {i : Nat} (h : xs.drop i = []) : xs.length ≤ i := List.drop_eq_nil_iff.mp h
/-- the body always falls through -/
theorem bk_forN {σs : Type} {wi : TI} {g : TG} {tb : TS} {mx : Option (List α)} {S : α → SP} {eL : σs → En} {eX : α → σs → En} {s0 : σs} {f : α → σs → Option σs} {k : σs → Option γ} (hi : IX E env wi mx S) (h0 : Fgt env (eL s0)) (hg : ∀ x s, AS E (eL s) g (S x) (eX x s))
    (hb : ∀ x s, BK E (eX x s) tb (f x s) (pN E eL)) (hk : ∀ s, BK E (eL s) u (k s) post) : BK E env (tSeq (tFor wi g tb) u) (mx.bind fun xs => (forN xs s0 f).bind k) post := by
  intro st vs σ H D y gg hm hq
  obtain ⟨xs, exs, hm⟩ := Option.bind_eq_some_iff.mp hm
  obtain ⟨s1, es, hm⟩ := Option.bind_eq_some_iff.mp hm
  refine hi st vs σ H _ xs gg exs fun J Z v H1 wk g1 => ?_
  refine ⟨fun i m σ' H' => m = xs.length - i ∧ ∃ s, G E (eL s) (Z :: st) σ' (v :: vs) H' ∧ forN (xs.drop i) s f = some s1, ⟨_, rfl, s0, g1.fgt h0, by simpa using es⟩, ?_⟩
  rintro i m σ' H' ⟨rfl, s, g2, e⟩
  obtain ⟨w1, w2⟩ := wk E (eL s) [] st σ' [] vs H' i rfl g2
  cases hd : xs.drop i with
  | nil =>
    rw [hd] at e
    cases e
    exact .inl ⟨w2 (drop_nil hd), hk s1 st vs σ' H' D y g2.popV hm hq⟩
  | cons x r =>
    rw [hd] at e
    obtain ⟨d1, d2⟩ := drop_cons hd
    obtain ⟨s', e1, e2⟩ := Option.bind_eq_some_iff.mp (show ((f x s).bind fun s' => forN r s' f) = some s1 from e)
    obtain ⟨w3, w4⟩ := w1 x d1
    have hlt : i < xs.length := (List.getElem?_eq_some_iff.mp d1).1
    refine .inr ⟨w3, fun σ'' H'' => ∃ m', m' < xs.length - i ∧ m' = xs.length - (i + 1) ∧ ∃ s, G E (eL s) (Z :: st) σ'' (v :: vs) H'' ∧ forN (xs.drop (i + 1)) s f = some s1, fun σ'' H'' ⟨m', h1, h2, h3⟩ => ⟨m', h1, h2, h3⟩, fun xv H'' hy => ?_⟩
    refine hg x s _ _ σ' H'' _ xv (w4 xv H'' hy) fun σ2 H2 g3 => ?_
    exact hb x s _ _ σ2 H2 _ s' g3 e1 fun σ3 H3 g4 => ⟨_, by omega, rfl, s', g4, by rw [d2]; exact e2⟩
def thenS {σ ρ γ : Type} (o : Option (Sum σ ρ)) (k : σ → Option γ) (h : ρ → Option γ) : Option γ := o.bind fun o => match o with
  | .inl s => k s
  | .inr r => h r
theorem G.nip {S Z : SP} {st : List SP} {σ : L2.St} {v z : V} {vs : List V} {H : Hp} (g : G E env (S :: Z :: st) σ (v :: z :: vs) H) : G E env (S :: st) σ (v :: vs) H := by
  obtain ⟨F, w, g⟩ := g
  obtain ⟨w', g'⟩ := g.nip
  exact ⟨F, w', g'⟩
/-- the body may return, break -/
theorem bk_forL {σs : Type} {wi : TI} {g : TG} {tb : TS} {mx : Option (List α)} {S : α → SP} {eL : σs → En} {eX : α → σs → En} {s0 : σs} {f : α → σs → Option (Out σs σs ρ)} {k : σs → Option γ} {R : ρ → SP} {eR : ρ → En} {emb : ρ → γ} (he : Emb E post R eR emb)
    (hi : IX E env wi mx S) (h0 : Fgt env (eL s0)) (hg : ∀ x s, AS E (eL s) g (S x) (eX x s)) (hb : ∀ x s, BK E (eX x s) tb (f x s) (pL E eL eL R eR)) (hk : ∀ s, BK E (eL s) u (k s) post) :
    BK E env (tSeq (tFor wi g tb) u) (mx.bind fun xs => thenS (forL xs s0 f) k fun r => some (emb r)) post := by
  intro st vs σ H D y gg hm hq
  obtain ⟨xs, exs, hm⟩ := Option.bind_eq_some_iff.mp hm
  unfold thenS at hm
  obtain ⟨s1, es, hm⟩ := Option.bind_eq_some_iff.mp hm
  refine hi st vs σ H _ xs gg exs fun J Z v H1 wk g1 => ?_
  have nxt : ∀ s, s1 = .inl s → ∀ σ' H', G E (eL s) (Z :: st) σ' (v :: vs) H' → u D σ' H' := fun s e σ' H' g2 => by
    subst e
    exact hk s st vs σ' H' D y g2.popV hm hq
  refine ⟨fun i m σ' H' => m = xs.length - i ∧ ∃ s, G E (eL s) (Z :: st) σ' (v :: vs) H' ∧ forL (xs.drop i) s f = some s1, ⟨_, rfl, s0, g1.fgt h0, by simpa using es⟩, ?_⟩
  rintro i m σ' H' ⟨rfl, s, g2, e⟩
  obtain ⟨w1, w2⟩ := wk E (eL s) [] st σ' [] vs H' i rfl g2
  cases hd : xs.drop i with
  | nil =>
    rw [hd] at e
    have e' : s1 = .inl s := (Option.some.inj e).symm
    exact .inl ⟨w2 (drop_nil hd), nxt s e' σ' H' g2⟩
  | cons x r =>
    rw [hd] at e
    obtain ⟨d1, d2⟩ := drop_cons hd
    obtain ⟨o, e1, e2⟩ := Option.bind_eq_some_iff.mp (show ((f x s).bind (forK fun s' => forL r s' f)) = some s1 from e)
    obtain ⟨w3, w4⟩ := w1 x d1
    have hlt : i < xs.length := (List.getElem?_eq_some_iff.mp d1).1
    refine .inr ⟨w3, fun σ'' H'' => ∃ m', m' < xs.length - i ∧ m' = xs.length - (i + 1) ∧ ∃ s, G E (eL s) (Z :: st) σ'' (v :: vs) H'' ∧ forL (xs.drop (i + 1)) s f = some s1, fun σ'' H'' ⟨m', h1, h2, h3⟩ => ⟨m', h1, h2, h3⟩, fun xv H'' hy => ?_⟩
    refine hg x s _ _ σ' H'' _ xv (w4 xv H'' hy) fun σ2 H2 g3 => ?_
    refine hb x s _ _ σ2 H2 _ o g3 e1 ?_
    cases o with
    | nx s' => exact fun σ3 H3 g4 => ⟨_, by omega, rfl, s', g4, by rw [d2]; exact e2⟩
    | brk s' => exact fun σ3 H3 g4 => nxt s' (Option.some.inj e2).symm σ3 H3 g4
    | ret r' =>
      have e3 : s1 = .inr r' := (Option.some.inj e2).symm
      subst e3
      cases hm
      exact fun v' σ3 H3 g4 => he r' st vs D hq v' σ3 H3 g4.nip
/-! ### while -/
def whileN {σ : Type} : Nat → σ → (σ → Option Bool) → (σ → Option σ) → Option σ
  | 0, _, _, _ => none
  | n + 1, s, c, f => (c s).bind fun b => if b = true then (f s).bind fun s' => whileN n s' c f else some s
theorem bk_whileN {σs : Type} {tc : TT} {tb : TS} {eL : σs → En} {s0 : σs} {c : σs → Option Bool} {f : σs → Option σs} {k : σs → Option γ} (n : Nat) (h0 : Fgt env (eL s0)) (hc : ∀ s, TX E (eL s) tc (c s)) (hb : ∀ s, BK E (eL s) tb (f s) (pN E eL)) (hk : ∀ s, BK E (eL s) u (k s) post) :
    BK E env (tSeq (tWhile tc tb) u) ((whileN n s0 c f).bind k) post := by
  intro st vs σ H D y gg hm hq
  obtain ⟨s1, es, hm⟩ := Option.bind_eq_some_iff.mp hm
  refine ⟨fun m σ' H' => ∃ s, G E (eL s) st σ' vs H' ∧ whileN m s c f = some s1, ⟨n, s0, gg.fgt h0, es⟩, ?_⟩
  rintro m σ' H' ⟨s, g2, e⟩
  rcases m with _ | m
  · cases e
  · obtain ⟨b, eb, e⟩ := Option.bind_eq_some_iff.mp (show ((c s).bind fun b => if b = true then (f s).bind fun s' => whileN m s' c f else some s) = some s1 from e)
    refine hc s st vs σ' H' _ b g2 eb fun H2 g3 => ?_
    cases b with
    | true =>
      obtain ⟨s', e1, e2⟩ := Option.bind_eq_some_iff.mp e
      exact ⟨fun σ'' H'' => ∃ s, G E (eL s) st σ'' vs H'' ∧ whileN m s c f = some s1, fun σ'' H'' h => ⟨m, Nat.lt_succ_self m, h⟩, hb s st vs σ' H2 _ s' g3 e1 fun σ3 H3 g4 => ⟨s', g4, e2⟩⟩
    | false =>
      have e3 : some s = some s1 := e
      rw [← Option.some.inj e3] at hm
      exact hk s st vs σ' H2 D y g3 hm hq
end
end ML

set_option Elab.async false
set_option linter.all false
set_option maxRecDepth 100000
set_option maxHeartbeats 2000000
namespace ML
open PySem PySem.Spec PyProof.Rows L2

section
variable {α β γ δ ρ τ : Type} {E : Ent} {env : En} {te ta tb tc ti : TE} {tt : TT} {u t t1 t2 : TS} {post : Post γ}
/-! ### a name that holds a list of one's own -/
theorem GG.mutE {φ : V → Prop} {T : Ty α} {xs : List α} {i : Nat} {st : List SP} {σ : L2.St} {vs : List V} {H F : Hp} {w : Ow} (g : GG E env st σ vs H F w) (h : env[i]? = some (some (muL φ T xs))) :
    ∃ a us, σ[i]? = some (some (.ref a)) ∧ H a = some (.lst us) ∧ Paired (T.rp F) us xs ∧ ∀ us' ys, Paired (T.rp F) us' ys → GG E (env.set i (some (muL φ T ys))) st σ vs (upd H a (.lst us')) F w := by
  obtain ⟨v, e1, a, us, rfl, hf, ho, hh, p⟩ := g.env.2 i _ h
  have wa : w a = some (.e i) := (ho a).mpr rfl
  obtain ⟨q1, q2, q3⟩ := g.own a _ wa
  have hi : i < env.length := (List.getElem?_eq_some_iff.mp h).1
  refine ⟨a, us, e1, hh, p, fun us' ys p' => ?_⟩
  have u := Ext.chg (o := .lst us') g.ext.s q1
  refine g.step u (fun b hb => ⟨.e i, by rw [hb]; exact wa⟩) (fun b l e => .inl ⟨l, e, .inl rfl⟩) ⟨by simpa using g.env.1, fun j S e => ?_⟩ (g.st.step u fun k hk b => ⟨Iff.rfl, fun e => ⟨fun z => ?_, (g.own b _ e).2.1⟩⟩)
  · by_cases hj : i = j
    · subst hj
      rw [List.getElem?_set_self hi] at e
      cases e
      exact ⟨_, e1, a, us', rfl, hf, ho, upd_same, p'⟩
    · rw [List.getElem?_set_ne hj] at e
      obtain ⟨v, e2, e3⟩ := g.env.2 j S e
      refine ⟨v, e2, SP.step u e3 (fun _ => Iff.rfl) fun b eb => ⟨fun z => ?_, (g.own b _ eb).2.1⟩⟩
      rw [z, wa] at eb
      cases eb
      exact hj rfl
  · rw [z, wa] at e
    cases e
theorem tyV_lst {K : PySem.W.Frag} {a : Addr} {us : List V} {H : Hp} (h : H a = some (.lst us)) : tyV K "list" (.ref a) H := .inl ⟨rfl, us, .of h⟩
/-- x.append(e) -/
theorem ex_append {K : PySem.W.Frag} {φ : V → Prop} {T : Ty α} {xs : List α} {i : Nat} {m : Option α} (h : env[i]? = some (some (muL φ T xs))) (he : EV E env te m (val T)) :
    EX E env (tBM K "list" rAppend (tVar i) (tCons te tNil)) (m.bind fun x => grd (xs.length < 16777216) (some (xs ++ [x]))) (fun _ => val tNon ()) fun ys => env.set i (some (muL φ T ys)) := by
  intro st vs σ H Q c gg hm hq
  obtain ⟨x, ex, hm⟩ := Option.bind_eq_some_iff.mp hm
  obtain ⟨hlen, hm⟩ := grd_some hm
  cases hm
  obtain ⟨F, w, g⟩ := id gg
  obtain ⟨a, us, e1, hh, p, _⟩ := g.mutE h
  refine ⟨_, e1, tyV_lst hh, he st vs σ H _ x gg ex fun v H2 ⟨F2, w2, g2⟩ => ?_⟩
  obtain ⟨a', us2, e2, hh2, p2, k⟩ := g2.pop.mutE h
  rw [e1] at e2
  cases e2
  refine ⟨a, us2, v, rfl, rfl, hh2, by rw [p2.length, sizeLine_eq]; exact hlen, hq _ _ ⟨F2, w2, (k (us2 ++ [v]) (xs ++ [x]) (Paired.snoc p2 g2.top)).pushV (T := tNon) rfl⟩⟩
/-- x.reverse(), x.clear() -/
theorem ex_reverse {K : PySem.W.Frag} {φ : V → Prop} {T : Ty α} {xs : List α} {i : Nat} (h : env[i]? = some (some (muL φ T xs))) :
    EX E env (tBM0 K "list" rReverse (tVar i)) (some xs.reverse) (fun _ => val tNon ()) fun ys => env.set i (some (muL φ T ys)) := by
  intro st vs σ H Q c ⟨F, w, g⟩ hm hq
  cases hm
  obtain ⟨a, us, e1, hh, p, k⟩ := g.mutE h
  exact ⟨_, e1, tyV_lst hh, a, us, rfl, rfl, hh, hq _ _ ⟨F, w, (k us.reverse xs.reverse (Paired.rev p)).pushV (T := tNon) rfl⟩⟩
theorem ex_clear {K : PySem.W.Frag} {φ : V → Prop} {T : Ty α} {xs : List α} {i : Nat} (h : env[i]? = some (some (muL φ T xs))) :
    EX E env (tBM0 K "list" rClear (tVar i)) (some []) (fun _ => val tNon ()) fun ys => env.set i (some (muL φ T ys)) := by
  intro st vs σ H Q c ⟨F, w, g⟩ hm hq
  cases hm
  obtain ⟨a, us, e1, hh, p, k⟩ := g.mutE h
  exact ⟨_, e1, tyV_lst hh, a, us, rfl, rfl, hh, hq _ _ ⟨F, w, (k [] [] .nil).pushV (T := tNon) rfl⟩⟩
/-- x[i] = e -/
theorem Paired.set {α β : Type} {f : α → β → Prop} {a : α} {b : β} (r : f a b) : ∀ {l : List α} {m : List β} (j : Nat), Paired f l m → Paired f (l.set j a) (m.set j b)
  | _, _, _, .nil => .nil
  | _, _, 0, .cons _ t => .cons r t
  | _, _, j + 1, .cons q t => .cons q (Paired.set r j t)
def setI (xs : List α) (i : Int) (x : α) : Option (List α) := (ixN xs.length i).map fun j => xs.set j x
theorem bk_setI {φ : V → Prop} {T : Ty α} {xs : List α} {j : Nat} {m : Option α} {mi : Option Int} {k : List α → Option γ} (h : env[j]? = some (some (muL φ T xs))) (he : EV E env te m (val T)) (hi : EV E env ti mi (val tInt))
    (hk : ∀ ys, BK E (env.set j (some (muL φ T ys))) u (k ys) post) : BK E env (tSeq (tAsg te (gSub (tVar j) ti rSetL)) u) (m.bind fun x => mi.bind fun i => (setI xs i x).bind k) post := by
  intro st vs σ H D y gg hm hq
  obtain ⟨x, ex, hm⟩ := Option.bind_eq_some_iff.mp hm
  obtain ⟨i, ei, hm⟩ := Option.bind_eq_some_iff.mp hm
  obtain ⟨ys, ey, hm⟩ := Option.bind_eq_some_iff.mp hm
  obtain ⟨j', ej, rfl⟩ := Option.map_eq_some_iff.mp ey
  refine he st vs σ H _ x gg ex fun v H2 gg2 => ?_
  obtain ⟨F2, w2, g2⟩ := id gg2
  obtain ⟨a, us, e1, hh, p, _⟩ := g2.mutE h
  refine ⟨_, e1, hi _ _ σ H2 _ i gg2 ei fun iv H3 ⟨F3, w3, g3⟩ => ?_⟩
  obtain ⟨a', us3, e2, hh3, p3, k3⟩ := g3.pop.pop.mutE h
  rw [e1] at e2
  cases e2
  refine ⟨a, us3, i, j', rfl, g3.top, hh3, by rw [p3.length]; exact ej, ?_⟩
  exact hk _ st vs σ _ D y ⟨F3, w3, k3 _ _ (ML.Paired.set (f := T.rp F3) (show T.rp F3 v x from g3.st.2.1) j' p3)⟩ hm hq
/-! ### from now on all may know it -/
theorem GG.frzE {φ : V → Prop} {T : Ty α} {xs : List α} {i : Nat} {st : List SP} {σ : L2.St} {vs : List V} {H F : Hp} {w : Ow} (g : GG E env st σ vs H F w) (h : env[i]? = some (some (muL φ T xs))) (hI : ¬ E.I i) : ∃ F' w', GG E (env.set i (some (val (tL T) xs))) st σ vs H F' w' := by
  obtain ⟨v, e1, a, us, rfl, hf, ho, hh, p⟩ := g.env.2 i _ h
  have wa : w a = some (.e i) := (ho a).mpr rfl
  obtain ⟨q1, q2, q3⟩ := g.own a _ wa
  have q3' : E.H a = none := by
    rcases q3 with z | ⟨_, k, hk, hIk⟩
    · exact z
    · cases hk; exact absurd hIk hI
  have hi : i < env.length := (List.getElem?_eq_some_iff.mp h).1
  have sF : Same F (upd F a (.lst us)) := fun b o e => by rw [upd_ne (ne_of_none e q1)]; exact e
  have sH : Same (upd F a (.lst us)) H := fun b o e => by
    by_cases hb : b = a
    · subst hb; rw [upd_same] at e; rw [hh]; exact e
    · rw [upd_ne hb] at e; exact g.ext.s b o e
  refine ⟨upd F a (.lst us), w.put (.e i) (fun _ => False), ⟨⟨g.ext.f.trans sF, sH, g.ext.h, fun b hb => ?_, g.ext.t⟩, ⟨by simpa using g.env.1, fun j S e => ?_⟩, ?_, fun b l e => ?_⟩⟩
  · rw [upd_ne (fun z => hb (by rw [z]; exact q3'))]
    exact g.ext.n b hb
  · by_cases hj : i = j
    · subst hj
      rw [List.getElem?_set_self hi] at e
      cases e
      exact ⟨_, e1, a, us, rfl, upd_same, Paired.mono p fun _ _ => T.mono sF⟩
    · rw [List.getElem?_set_ne hj] at e
      obtain ⟨v, e2, e3⟩ := g.env.2 j S e
      refine ⟨v, e2, ?_⟩
      rw [ofq (Ow.put_ne (by intro z; injection z with z; exact hj z.symm) (fun _ z => z.elim))]
      exact S.mono e3 sF fun _ _ => rfl
  · have key : ∀ {st' : List SP} {vs' : List V}, StOk F H w st' vs' → StOk (upd F a (.lst us)) H (w.put (.e i) fun _ => False) st' vs' := by
      intro st'
      induction st' with
      | nil => intro vs' h'; cases vs' with
        | nil => trivial
        | cons _ _ => exact h'.elim
      | cons S st' ih => intro vs' h'; cases vs' with
        | nil => exact h'.elim
        | cons v' vs' =>
          refine ⟨?_, ih h'.2⟩
          rw [ofq (Ow.put_ne (by intro z; cases z) (fun _ z => z.elim))]
          exact S.mono h'.1 sF fun _ _ => rfl
    exact key g.st
  · have hne : b ≠ a := fun z => by
      rw [z] at e
      have : (w.put (.e i) fun _ => False) a = none := by
        unfold Ow.put
        simp [wa]
      rw [this] at e; cases e
    rcases Ow.put_sub e with z | z
    · exact z.elim
    · obtain ⟨r1, r2, r3⟩ := g.own b l z
      exact ⟨by rw [upd_ne hne]; exact r1, r2, r3⟩
theorem bk_frz {φ : V → Prop} {T : Ty α} {xs : List α} (i : Nat) {m : Option γ} (h : env[i]? = some (some (muL φ T xs))) (hk : BK E (env.set i (some (val (tL T) xs))) u m post) (hI : ¬ E.I i := by exact id) : BK E env u m post := by
  intro st vs σ H D y ⟨F, w, g⟩ hm hq
  obtain ⟨F', w', g'⟩ := g.frzE h hI
  exact hk st vs σ H D y ⟨F', w', g'⟩ hm hq
/-! ### read only: lists of one's own are values for one expression -/
/-- the value does not lie in the heap -/
def Flat (T : Ty α) : Prop := ∀ F F' v x, T.rp F v x → T.rp F' v x
theorem flat_int : Flat tInt := fun _ _ _ _ h => h
theorem flat_bool : Flat tBool := fun _ _ _ _ h => h
theorem flat_str : Flat tStr := fun _ _ _ _ h => h
theorem flat_non : Flat tNon := fun _ _ _ _ h => h
theorem flat_dyn : Flat tDyn := fun _ _ _ _ h => h
def Brw (env env' : En) : Prop := env'.length ≤ env.length ∧ ∀ (i : Nat) (S' : SP), env'[i]? = some (some S') → (∃ q : VP, S' = q.sp ∧ env[i]? = some (some q.sp)) ∨ ∃ (α : Type) (φ : V → Prop) (T : Ty α) (xs : List α), S' = val (tL T) xs ∧ env[i]? = some (some (muL φ T xs))
theorem GG.brw {env' : En} {st : List SP} {σ : L2.St} {vs : List V} {H F : Hp} {w : Ow} (g : GG E env st σ vs H F w) (b : Brw env env') :
    ∃ Fp, Same F Fp ∧ Same Fp H ∧ (∀ a, w a = none → Fp a = F a) ∧ GG (.mk0 Fp H) env' [] σ [] H Fp (fun _ => none) := by
  classical
  let L : Addr → Prop := fun a => ∃ i us, w a = some (.e i) ∧ H a = some (.lst us)
  let Fp : Hp := fun a => if L a then H a else F a
  have s1 : Same F Fp := fun a o e => by
    show (if L a then H a else F a) = some o
    by_cases h : L a
    · rw [if_pos h]; exact g.ext.s a o e
    · rw [if_neg h]; exact e
  have s2 : Same Fp H := fun a o e => by
    have e' : (if L a then H a else F a) = some o := e
    by_cases h : L a
    · rw [if_pos h] at e'; exact e'
    · rw [if_neg h] at e'; exact g.ext.s a o e'
  refine ⟨Fp, s1, s2, fun a h => ?_, Ext.refl s2, ⟨Nat.le_trans b.1 g.env.1, fun i S' e => ?_⟩, trivial, fun a l e => by cases e⟩
  · show (if L a then H a else F a) = F a
    rw [if_neg]
    rintro ⟨i, us, e, _⟩
    rw [h] at e; cases e
  · rcases b.2 i S' e with ⟨q, rfl, e2⟩ | ⟨α, φ, T, xs, rfl, e2⟩
    · obtain ⟨v, e3, e4⟩ := g.env.2 i _ e2
      exact ⟨v, e3, q.mono s1 e4⟩
    · obtain ⟨v, e3, a, us, rfl, hf, ho, hh, p⟩ := g.env.2 i _ e2
      refine ⟨_, e3, a, us, rfl, ?_, Paired.mono p fun _ _ => T.mono s1⟩
      show (if L a then H a else F a) = _
      rw [if_pos ⟨i, us, (ho a).mpr rfl, hh⟩]
      exact hh
theorem GG.unbrw {st : List SP} {σ : L2.St} {vs : List V} {H F H' Fp F' : Hp} {w : Ow} (g : GG E env st σ vs H F w) (s1 : Same F Fp) (h1 : ∀ a, w a = none → Fp a = F a) (u : Ext Fp H (fun _ => False) F' H') : ∃ F2, GG E env st σ vs H' F2 w ∧ ∀ a, F' a = none → F2 a = none := by
  classical
  refine ⟨fun a => if w a = none then F' a else none, g.grow ⟨fun a o e => ?_, fun a o e => ?_, u.h, fun a h => ?_, u.t⟩, fun a e => ?_⟩
  · have hw : w a = none := by
      cases q : w a with
      | none => rfl
      | some l => have := (g.own a l q).1; rw [this] at e; cases e
    show (if w a = none then F' a else none) = some o
    rw [if_pos hw]
    exact u.f a o (s1 a o e)
  · have e' : (if w a = none then F' a else none) = some o := e
    by_cases hw : w a = none
    · rw [if_pos hw] at e'; exact u.s a o e'
    · rw [if_neg hw] at e'; cases e'
  · show (if w a = none then F' a else none) = F a
    by_cases hw : w a = none
    · rw [if_pos hw, u.n a h, h1 a hw]
    · rw [if_neg hw]
      obtain ⟨l, e⟩ := ne_some hw
      exact (g.own a l e).1.symm
  · show (if w a = none then F' a else none) = none
    by_cases hw : w a = none
    · rw [if_pos hw]; exact e
    · rw [if_neg hw]
/-- new things N of one's own come to the top -/
theorem GG.addTop {st : List SP} {σ : L2.St} {vs : List V} {H F : Hp} {w : Ow} {N : Addr → Prop} {S : SP} {v : V} (g : GG E env st σ vs H F w) (hN : ∀ a, N a → w a = none ∧ F a = none ∧ H a ≠ none ∧ E.H a = none) (h : S.ok F H N v) :
    GG E env (S :: st) σ (v :: vs) H F (w.put (.s st.length) N) := by
  have hN2 : ∀ a, N a → w a = none ∨ w a = some (Lb.s st.length) := fun a z => .inl (hN a z).1
  refine ⟨g.ext, g.env.step (M := fun _ => False) (Ext.refl g.ext.s) fun i S _ a => ⟨Ow.put_ne (by intro z; cases z) hN2 a, fun e => ⟨fun z => z, (g.own a _ e).2.1⟩⟩, ⟨by rw [Ow.put_of]; exact h, g.st.step (M := fun _ => False) (Ext.refl g.ext.s) fun i hi a => ⟨Ow.put_ne (by intro z; injection z with z; omega) hN2 a, fun e => ⟨fun z => z, (g.own a _ e).2.1⟩⟩⟩, fun a l e => ?_⟩
  rcases Ow.put_sub e with z | z
  · obtain ⟨_, z2, z3, z4⟩ := hN a z
    exact ⟨z2, z3, .inl z4⟩
  · exact g.own a l z
theorem ev_brw {env' : En} {T : Ty α} {m : Option α} (fl : Flat T) (b : Brw env env') (h : ∀ F H, EV (.mk0 F H) env' te m (val T)) : EV E env te m (val T) := by
  intro st vs σ H Q x ⟨F, w, g⟩ hm hq
  obtain ⟨Fp, s1, s2, h1, g1⟩ := g.brw b
  refine h Fp H [] [] σ H Q x ⟨Fp, _, g1⟩ hm fun v H' ⟨F', w', g'⟩ => ?_
  obtain ⟨F2, g2, hF2⟩ := g.unbrw s1 h1 g'.ext
  exact hq v H' ⟨F2, w, g2.pushV (fl _ _ _ _ g'.top)⟩
theorem tx_brw {env' : En} {m : Option Bool} (b : Brw env env') (h : ∀ F H, TX (.mk0 F H) env' tt m) : TX E env tt m := by
  intro st vs σ H Q x ⟨F, w, g⟩ hm hq
  obtain ⟨Fp, s1, s2, h1, g1⟩ := g.brw b
  refine h Fp H [] [] σ H Q x ⟨Fp, _, g1⟩ hm fun H' ⟨F', w', g'⟩ => ?_
  obtain ⟨F2, g2, hF2⟩ := g.unbrw s1 h1 g'.ext
  exact hq H' ⟨F2, w, g2⟩
/-- a new list of flat things, made of read lists -/
theorem ev_brwO {env' : En} {T : Ty α} {m : Option (List α)} (fl : Flat T) (b : Brw env env') (h : ∀ F H, EV (.mk0 F H) env' te m (own T)) : EV E env te m (own T) := by
  intro st vs σ H Q x ⟨F, w, g⟩ hm hq
  obtain ⟨Fp, s1, s2, h1, g1⟩ := g.brw b
  refine h Fp H [] [] σ H Q x ⟨Fp, _, g1⟩ hm fun v H' ⟨F', w', g'⟩ => ?_
  obtain ⟨F2, g2, hF2⟩ := g.unbrw s1 h1 g'.ext
  obtain ⟨a, us, rfl, hf, ho, hh, p⟩ := g'.st.1
  have wa : w' a = some (.s 0) := (ho a).mpr rfl
  obtain ⟨q1, q2, q3⟩ := g'.own a _ wa
  have hHa : H a = none := by
    rcases q3 with z | ⟨z, _⟩
    · exact z
    · exact z.elim
  have wna : w a = none := by
    cases e : w a with
    | none => rfl
    | some l => exact absurd hHa (g.own a l e).2.1
  exact hq _ H' ⟨F2, _, g2.addTop (N := fun b => b = a) (fun b z => by rw [z]; exact ⟨wna, hF2 a q1, q2, g.ext.t a hHa⟩) ⟨a, us, rfl, trivial, fun b => Iff.rfl, hh, Paired.mono p fun _ _ => fl _ _ _ _⟩⟩
/-! ### a def's promise -/
/-- from values to a value: As the arguments' slots, f the plain function, R the result's slot -/
def spF {A : Type} (As : A → List VP) (f : A → Option ρ) (R : ρ → SP) : Sp := fun vs H Q _ => ∃ (a : A) (r : ρ) (F : Hp), Same F H ∧ StOk F H (fun _ => none) ((As a).map VP.sp).reverse vs.reverse ∧ f a = some r ∧ ∀ v H', G (.mk0 F H) [] [R r] [] [v] H' → Q v H'
theorem spF_len {A : Type} {As : A → List VP} {f : A → Option ρ} {R : ρ → SP} {vs : List V} {H : Hp} {Q : VK} {X : XK} {n : Nat} (h : spF As f R vs H Q X) (hn : ∀ a, (As a).length = n) : vs.length = n := by
  obtain ⟨a, r, F, s, st, _⟩ := h
  have := st.len
  simp at this
  rw [← this, hn]
theorem StOk.novals {F H : Hp} {w w' : Ow} : ∀ {qs : List VP} {vs : List V} {st : List SP} {us : List V}, StOk F H w (qs.map VP.sp ++ st) (vs ++ us) → vs.length = qs.length → StOk F H w' (qs.map VP.sp) vs
  | [], [], _, _, _, _ => trivial
  | q :: qs, v :: vs, _, _, h, e => ⟨h.1, StOk.novals (qs := qs) (vs := vs) h.2 (by simpa using e)⟩
  | [], _ :: _, _, _, _, e => by simp at e
  | _ :: _, [], _, _, _, e => by simp at e
theorem GG.drop {st : List SP} {σ : L2.St} {vs : List V} {H F : Hp} {w : Ow} : ∀ {st1 : List SP} {vs1 : List V}, st1.length = vs1.length → GG E env (st1 ++ st) σ (vs1 ++ vs) H F w → GG E env st σ vs H F w
  | [], [], _, g => g
  | _ :: st1, _ :: vs1, e, g => GG.drop (st1 := st1) (vs1 := vs1) (by simpa using e) g.pop
  | [], _ :: _, e, _ => by simp at e
  | _ :: _, [], e, _ => by simp at e
/-- f(e, ..) -/
theorem ev_call {A : Type} {As : A → List VP} {f : A → Option ρ} {R : ρ → SP} {X : XK} {ta : TA} {m : Option ρ} (ha : AX E env ta [] m fun c Ss => ∃ a, Ss = ((As a).map VP.sp).reverse ∧ f a = some c) : EV E env (tCall (spF As f R) [] X ta) m R := by
  intro st vs σ H Q c gg hm hq
  refine ha st vs [] σ H _ c gg rfl hm fun us H' Ss ⟨a, hs, hf⟩ hl ⟨F, w, g⟩ => ?_
  subst hs
  rw [List.append_nil]
  rw [List.append_nil] at g
  rw [List.nil_append] at hl
  have hl2 : us.reverse.length = ((As a).map VP.sp).reverse.length := by rw [hl, List.length_reverse]
  refine ⟨a, c, F, g.ext.s, ?_, hf, fun v H2 ⟨F2, w2, g2⟩ => ?_⟩
  · have z := g.st
    rw [← List.map_reverse] at z ⊢
    exact StOk.novals z (by simpa using hl2)
  · have g3 := (g.drop hl2.symm).grow (F' := F2) (H' := H2) g2.ext
    refine hq v H2 ⟨F2, _, g3.addTop (N := w2.of (.s 0)) (fun b z => ?_) g2.st.1⟩
    obtain ⟨z1, z2, z3⟩ := g2.own b _ z
    have z4 : H' b = none := by
      rcases z3 with z | ⟨z, _⟩
      · exact z
      · exact z.elim
    refine ⟨?_, z1, z2, g.ext.t b z4⟩
    cases e : w b with
    | none => rfl
    | some l => exact absurd z4 (g.own b l e).2.1
/-- the body's names at the entry -/
def enter (n : Nat) (qs : List VP) : En := qs.map (fun q => some q.sp) ++ List.replicate (n - qs.length) none
theorem StOk.nth {F H : Hp} {w : Ow} : ∀ {qs : List VP} {vs : List V}, StOk F H w (qs.map VP.sp).reverse vs.reverse → ∀ (i : Nat) (q : VP), qs[i]? = some q → ∃ v, vs[i]? = some v ∧ q.p F v := by
  intro qs vs h i q e
  have hl : qs.length = vs.length := by simpa using h.len
  have key : ∀ {qs : List VP} {vs : List V}, StOk F H w (qs.map VP.sp) vs → ∀ (i : Nat) (q : VP), qs[i]? = some q → ∃ v, vs[i]? = some v ∧ q.p F v := by
    intro qs
    induction qs with
    | nil => intro vs h i q e; simp at e
    | cons x qs ih => intro vs h i q e; cases vs with
      | nil => exact h.elim
      | cons v vs => cases i with
        | zero => exact ⟨v, rfl, by have z := Option.some.inj (by simpa using e : some x = some q); rw [← z]; exact h.1⟩
        | succ i =>
          obtain ⟨u, e1, e2⟩ := ih h.2 i q (by simpa using e)
          exact ⟨u, by simpa using e1, e2⟩
  have hi : i < qs.length := (List.getElem?_eq_some_iff.mp e).1
  obtain ⟨v, e1, e2⟩ := key (qs := qs.reverse) (vs := vs.reverse) (by rw [List.map_reverse]; exact h) (qs.length - 1 - i) q (by rw [List.getElem?_reverse (by omega), show qs.length - 1 - (qs.length - 1 - i) = i by omega]; exact e)
  refine ⟨v, ?_, e2⟩
  rw [List.getElem?_reverse (by omega), show vs.length - 1 - (qs.length - 1 - i) = i by omega] at e1
  exact e1
/-- THE RULE for a def's body -/
theorem run_F {A : Type} {As : A → List VP} {f : A → Option ρ} {R : ρ → SP} {eR : ρ → En} {N : List Str} {vs : List V} {H : Hp} {Q : VK} {X : XK} {D : Ends} (h : spF As f R vs H Q X) (hn : ∀ a, (As a).length ≤ N.length) (hD : D.rt = Q)
    (hb : ∀ (a : A) (F H : Hp), BK (.mk0 F H) (enter N.length (As a)) t (f a) (pR (.mk0 F H) R eR)) : t D (L2.start N vs) H := by
  obtain ⟨a, r, F, s, hst, hf, q⟩ := h
  have hl : (As a).length = vs.length := by simpa using hst.len
  have g : GG (.mk0 F H) (enter N.length (As a)) [] (L2.start N vs) [] H F (fun _ => none) := by
    refine ⟨Ext.refl s, ⟨by simp [enter, L2.start, hl], fun i S e => ?_⟩, trivial, fun a l e => by cases e⟩
    unfold enter at e
    by_cases hi : i < (As a).length
    · rw [List.getElem?_append_left (by simpa using hi)] at e
      rw [List.getElem?_map] at e
      obtain ⟨q, e1, e2⟩ := Option.map_eq_some_iff.mp e
      obtain ⟨v, e3, e4⟩ := hst.nth i q e1
      cases e2
      refine ⟨v, ?_, e4⟩
      unfold L2.start
      rw [List.getElem?_append_left (by simp; omega), List.getElem?_map, e3]
      rfl
    · rw [List.getElem?_append_right (by simp; omega)] at e
      have := List.mem_of_getElem? e
      simp at this
  refine hb a F H [] [] (L2.start N vs) H D r ⟨F, _, g⟩ hf fun v σ' H' ⟨F', w', g'⟩ => ?_
  rw [hD]
  exact q v H' ⟨F', w', ⟨g'.ext, ⟨Nat.zero_le _, fun i S e => by simp at e⟩, g'.st, g'.own⟩⟩
/-- names forgotten, all -/
theorem fgt_nil : Fgt env [] := ⟨Nat.zero_le _, fun i S e => by simp at e⟩
/-! ### the law's end -/
theorem spF_law {K : PySem.W.Frag} {f : List Int → Option Bool} {H : Hp} {a : Addr} {ns : List Int} (hS : SqL K H a (ns.map V.int)) (hf : f ns = some true) : spF (fun ns => [vp (tS K tInt) ns]) f (val tBool) [.ref a] H (fun v _ => v = .bl true) fun _ _ _ => False := by
  refine ⟨ns, true, H, Same.refl H, ⟨⟨a, _, rfl, hS, ?_⟩, trivial⟩, hf, fun v H' ⟨F, w, g⟩ => g.top⟩
  clear hS hf
  induction ns with
  | nil => exact .nil
  | cons n ns ih => exact .cons rfl ih
/-! ### comprehensions -/
def mapO {α β : Type} : List α → (α → Option β) → Option (List β)
  | [], _ => some []
  | x :: xs, f => (f x).bind fun y => (mapO xs f).bind fun ys => some (y :: ys)
def filO {α β : Type} : List α → (α → Option Bool) → (α → Option β) → Option (List β)
  | [], _, _ => some []
  | x :: xs, t, f => (t x).bind fun b => if b = true then (f x).bind fun y => (filO xs t f).bind fun ys => some (y :: ys) else filO xs t f
theorem mapO_filO {α β : Type} (f : α → Option β) : ∀ xs : List α, mapO xs f = filO xs (fun _ => some true) f
  | [] => rfl
  | x :: xs => by
    unfold mapO filO
    rw [mapO_filO f xs]
    rfl
/-- the item goes to the comprehension's own names ws -/
def AC (E : Ent) (env : En) (ws : List Nat) (g : TG) (S : SP) (env' : En) : Prop :=
  ∀ (st : List SP) (vs : List V) (σ : L2.St) (H : Hp) (Q : L2.St → Hp → Prop) (v : V), G E env (S :: st) σ (v :: vs) H → (∀ σ' H', wipe σ' ws = wipe σ ws → G E env' st σ' vs H' → Q σ' H') → g v σ H Q
theorem wipe_set {σ : L2.St} {i : Nat} {x : Option V} : ∀ {ws : List Nat}, i ∈ ws → wipe (σ.set i x) ws = wipe σ ws
  | [], h => by simp at h
  | w :: ws, h => by
    show (wipe (σ.set i x) ws).set w none = (wipe σ ws).set w none
    by_cases hw : i ∈ ws
    · rw [wipe_set hw]
    · have hi : i = w := by simpa [hw] using h
      subst hi
      have key : ∀ ws : List Nat, i ∉ ws → wipe (σ.set i x) ws = (wipe σ ws).set i x := by
        intro ws
        induction ws with
        | nil => intro _; rfl
        | cons a ws ih =>
          intro h
          simp only [List.mem_cons, not_or] at h
          show (wipe (σ.set i x) ws).set a none = ((wipe σ ws).set a none).set i x
          rw [ih h.2, List.set_comm _ _ (fun e => h.1 e)]
      rw [key ws hw, List.set_set]
theorem wipe_wipe {σ : L2.St} : ∀ {ws us : List Nat}, (∀ i ∈ us, i ∈ ws) → wipe (wipe σ us) ws = wipe σ ws
  | ws, [], _ => rfl
  | ws, u :: us, h => by
    show wipe ((wipe σ us).set u none) ws = wipe σ ws
    rw [wipe_set (h u (by simp)), wipe_wipe fun i hi => h i (by simp [hi])]
theorem ac_name {i : Nat} {S : SP} {ws : List Nat} (hi : Nat.ble (i + 1) env.length = true := by rfl) (hw : i ∈ ws := by simp) : AC E env ws (gName i) S (env.set i (some S)) := by
  intro st vs σ H Q v ⟨F, w, g⟩ hq
  obtain ⟨w', g2⟩ := g.store (Nat.le_of_ble_eq_true hi)
  exact hq _ H (wipe_set hw) ⟨F, w', g2⟩
theorem ac_pair {K : PySem.W.Frag} {i j : Nat} {T : Ty α} {U : Ty β} {p : α × β} {ws : List Nat} (hi : Nat.ble (i + 1) env.length = true := by rfl) (hj : Nat.ble (j + 1) env.length = true := by rfl) (hw : i ∈ ws := by simp) (hw2 : j ∈ ws := by simp) :
    AC E env ws (gTup K 2 (gCons (gName i) (gCons (gName j) gNil))) (val (tP T U) p) ((env.set i (some (val T p.1))).set j (some (val U p.2))) := by
  intro st vs σ H Q v ⟨F, w, g⟩ hq
  obtain ⟨a, x, y, e, h, h1, h2⟩ := g.top
  refine ⟨a, [x, y], e, .of (g.ext.s _ _ h), rfl, x, [y], rfl, y, [], rfl, rfl, ?_⟩
  obtain ⟨w1, g1⟩ := (g.pop.pushV h1).store (i := i) (Nat.le_of_ble_eq_true hi)
  obtain ⟨w2, g2⟩ := (g1.pushV h2).store (i := j) (by rw [List.length_set]; exact Nat.le_of_ble_eq_true hj)
  refine hq _ H ?_ ⟨F, w2, g2⟩
  rw [wipe_set hw2, wipe_set hw]
/-- the comprehension's own names are not told outside -/
def NoW (env : En) (ws : List Nat) : Prop := ∀ i ∈ ws, ∀ S, env[i]? ≠ some (some S)
theorem G.wiped {ws : List Nat} {st : List SP} {σ : L2.St} {vs : List V} {H : Hp} (hw : NoW env ws) : G E env st σ vs H ↔ G E env st (wipe σ ws) vs H := by
  have key : ∀ σ σ' : L2.St, σ.length = σ'.length → (∀ i, i ∉ ws → σ'[i]? = σ[i]?) → G E env st σ vs H → G E env st σ' vs H := by
    intro σ σ' hl he ⟨F, w, g⟩
    refine ⟨F, w, g.re (fun a l e => ⟨l, e, .inl rfl⟩) ⟨by rw [← hl]; exact g.env.1, fun i S e => ?_⟩ g.st⟩
    obtain ⟨v, e1, e2⟩ := g.env.2 i S e
    refine ⟨v, ?_, e2⟩
    rw [he i (fun hi => hw i hi S e)]
    exact e1
  exact ⟨key _ _ (wipe_length σ ws).symm fun i hi => wipe_out hi, key _ _ (wipe_length σ ws) fun i hi => (wipe_out hi).symm⟩
theorem ev_lc {wi : TI} {g : TG} {ws : List Nat} {mx : Option (List α)} {S : α → SP} {eX : α → En} {T : Ty β} {t : α → Option Bool} {f : α → Option β} (hi : IX E env wi mx S) (hw : NoW env ws) (hg : ∀ x, AC E env ws g (S x) (eX x)) (hX : ∀ x, Fgt (eX x) env) (ht : ∀ x, TX E (eX x) tt (t x)) (he : ∀ x, EV E (eX x) te (f x) (val T)) :
    EV E env (tLc wi g tt te ws) (mx.bind fun xs => grd (xs.length ≤ 16777216) (filO xs t f)) (own T) := by
  intro st vs σ H Q c gg hm hq
  obtain ⟨xs, exs, hm⟩ := Option.bind_eq_some_iff.mp hm
  obtain ⟨hlen, hm⟩ := grd_some hm
  refine hi st vs σ H _ xs gg exs fun J Z v H1 wk ⟨F1, w1, g1⟩ D hD => ?_
  have g0 : G E env (own T [] :: Z :: st) σ (.ref D :: v :: vs) (upd H1 D (.lst [])) := ⟨F1, _, g1.pushO hD ⟨D, [], rfl, trivial, fun b => Iff.rfl, upd_same, .nil⟩⟩
  refine ⟨fun i m H' => m = xs.length - i ∧ ∃ acc ys, G E env (own T acc :: Z :: st) σ (.ref D :: v :: vs) H' ∧ acc.length ≤ i ∧ filO (xs.drop i) t f = some ys ∧ acc ++ ys = c, ⟨_, rfl, [], c, g0, Nat.le_refl _, by simpa using hm, rfl⟩, ?_⟩
  rintro i m H' ⟨rfl, acc, ys, g2, hacc, e, ec⟩
  obtain ⟨k1, k2⟩ := wk E env [own T acc] st σ [.ref D] vs H' i rfl g2
  cases hd : xs.drop i with
  | nil =>
    rw [hd] at e
    cases e
    rw [List.append_nil] at ec
    subst ec
    exact .inl ⟨k2 (drop_nil hd), hq _ _ g2.nip⟩
  | cons x r =>
    rw [hd] at e
    obtain ⟨d1, d2⟩ := drop_cons hd
    have hlt : i < xs.length := (List.getElem?_eq_some_iff.mp d1).1
    obtain ⟨k3, k4⟩ := k1 x d1
    obtain ⟨b, eb, e⟩ := Option.bind_eq_some_iff.mp (show ((t x).bind fun b => if b = true then (f x).bind fun y => (filO r t f).bind fun ys => some (y :: ys) else filO r t f) = some ys from e)
    refine .inr ⟨k3, fun H'' => ∃ m', m' < xs.length - i ∧ m' = xs.length - (i + 1) ∧ ∃ acc ys, G E env (own T acc :: Z :: st) σ (.ref D :: v :: vs) H'' ∧ acc.length ≤ i + 1 ∧ filO (xs.drop (i + 1)) t f = some ys ∧ acc ++ ys = c, fun H'' ⟨m', h1, h2, h3⟩ => ⟨m', h1, h2, h3⟩, fun xv H'' hy => ?_⟩
    have g3 := k4 xv H'' hy
    refine hg x _ _ _ H'' _ xv ((G.wiped hw).mp g3) fun σ2 H2 hσ g4 => ⟨by rw [hσ, wipe_wipe fun i hi => hi], ?_⟩
    have back : ∀ {st' : List SP} {vs' : List V} {H' : Hp}, G E (eX x) st' σ2 vs' H' → G E env st' σ vs' H' := fun g => (G.wiped hw).mpr (by
      have z := (G.wiped hw).mp (g.fgt (hX x))
      rw [hσ, wipe_wipe fun i hi => hi] at z
      exact z)
    refine ht x _ _ σ2 H2 _ b g4 eb fun H3 g5 => ?_
    cases b with
    | false =>
      exact ⟨_, by omega, rfl, acc, ys, back g5, by omega, by rw [d2]; exact e, ec⟩
    | true =>
      obtain ⟨y, ey, e⟩ := Option.bind_eq_some_iff.mp e
      obtain ⟨ys', ey', e⟩ := Option.bind_eq_some_iff.mp e
      have e' : y :: ys' = ys := Option.some.inj e
      refine he x _ _ σ2 H3 _ y g5 ey fun yv H4 g6 => ?_
      obtain ⟨F6, w6, g6⟩ := back g6
      -- own D below the new value
      have hy := g6.top
      obtain ⟨a, us, ea, hf, ho, hh, p⟩ := g6.pop.st.1
      cases ea
      refine ⟨us, hh, by rw [p.length, sizeLine_eq]; omega, ?_⟩
      have wD : w6 D = some (.s (Z :: st).length) := (ho D).mpr rfl
      obtain ⟨q1, q2, q3⟩ := g6.own D _ wD
      have u := Ext.chg (o := .lst (us ++ [yv])) g6.ext.s q1
      refine ⟨_, by omega, rfl, acc ++ [y], ys', ⟨F6, w6, g6.step u (fun b hb => ⟨.s (Z :: st).length, by rw [hb]; exact wD⟩) (fun b l e => .inl ⟨l, e, .inl rfl⟩) (g6.env.step u fun k S _ b => ⟨Iff.rfl, fun e => ⟨fun z => ?_, (g6.own b _ e).2.1⟩⟩) ⟨⟨D, us ++ [yv], rfl, hf, ho, upd_same, Paired.snoc p hy⟩, ?_⟩⟩, by simp; omega, by rw [d2]; exact ey', by rw [← ec, ← e']; simp⟩
      · rw [z, wD] at e; cases e
      · exact g6.pop.pop.st.step u fun k hk b => ⟨Iff.rfl, fun e => ⟨fun z => by rw [z, wD] at e; injection e with e; injection e with e; have e2 : (Z :: st).length = k := e; have hk2 : k < (Z :: st).length := hk; omega, (g6.own b _ e).2.1⟩⟩
theorem ev_lc1 {wi : TI} {g : TG} {ws : List Nat} {mx : Option (List α)} {S : α → SP} {eX : α → En} {T : Ty β} {f : α → Option β} (hi : IX E env wi mx S) (hw : NoW env ws) (hg : ∀ x, AC E env ws g (S x) (eX x)) (hX : ∀ x, Fgt (eX x) env) (he : ∀ x, EV E (eX x) te (f x) (val T)) :
    EV E env (tLc wi g tYes te ws) (mx.bind fun xs => grd (xs.length ≤ 16777216) (mapO xs f)) (own T) := by
  have h := ev_lc (tt := tYes) (t := fun _ => some true) hi hw hg hX (fun x => fun st vs σ H Q b gg hm hq => by cases hm; exact hq H gg) he
  have e : (fun xs : List α => grd (xs.length ≤ 16777216) (filO xs (fun _ => some true) f)) = fun xs => grd (xs.length ≤ 16777216) (mapO xs f) := funext fun xs => by rw [mapO_filO]
  rw [e] at h
  exact h
end
end ML

set_option Elab.async false
set_option linter.all false
set_option maxRecDepth 100000
set_option maxHeartbeats 2000000
namespace ML
open PySem PySem.Spec PyProof.Rows L2

section
variable {α β γ δ ρ τ : Type} {E : Ent} {env env' : En} {te ta tb tc ti : TE} {tt : TT} {u t t1 t2 : TS} {post : Post γ}
/-! ### small constructors -/
theorem fgt_0 : Fgt [] [] := Fgt.refl []
theorem fgt_c {a : Option SP} (h : Fgt env env') : Fgt (a :: env) (a :: env') := ⟨Nat.succ_le_succ h.1, fun i S e => by
  cases i with
  | zero => exact e
  | succ i => exact h.2 i S e⟩
theorem fgt_n {a : Option SP} (h : Fgt env env') : Fgt (a :: env) (none :: env') := ⟨Nat.succ_le_succ h.1, fun i S e => by
  cases i with
  | zero => cases e
  | succ i => exact h.2 i S e⟩
theorem brw_0 : Brw [] [] := ⟨Nat.le_refl _, fun i S e => by simp at e⟩
theorem brw_n {a : Option SP} (h : Brw env env') : Brw (a :: env) (none :: env') := ⟨Nat.succ_le_succ h.1, fun i S e => by
  cases i with
  | zero => cases e
  | succ i => exact h.2 i S e⟩
theorem brw_v {T : Ty α} {x : α} (h : Brw env env') : Brw (some (val T x) :: env) (some (val T x) :: env') := ⟨Nat.succ_le_succ h.1, fun i S e => by
  cases i with
  | zero => cases e; exact .inl ⟨_, rfl, rfl⟩
  | succ i => exact h.2 i S e⟩
theorem brw_o {φ : V → Prop} {T : Ty α} {xs : List α} (h : Brw env env') : Brw (some (muL φ T xs) :: env) (some (val (tL T) xs) :: env') := ⟨Nat.succ_le_succ h.1, fun i S e => by
  cases i with
  | zero => cases e; exact .inr ⟨_, _, _, _, rfl, rfl⟩
  | succ i => exact h.2 i S e⟩
/-- the inferred mirror is this one -/
theorem bk_eq {m m' : Option γ} (h : BK E env t m post) (e : m = m') : BK E env t m' post := e ▸ h
theorem ev_eq {m m' : Option α} {S : α → SP} (h : EV E env te m S) (e : m = m') : EV E env te m' S := e ▸ h
/-! ### more operators -/
theorem Paired.app {α β : Type} {f : α → β → Prop} : ∀ {l1 l2 : List α} {m1 m2 : List β}, Paired f l1 m1 → Paired f l2 m2 → Paired f (l1 ++ l2) (m1 ++ m2)
  | _, _, _, _, .nil, s => s
  | _, _, _, _, .cons r t, s => .cons r (Paired.app t s)
theorem o2_cat {T : Ty α} {xs ys : List α} : O2 rCat (val (tL T) xs) (val (tL T) ys) (grd (xs.length + ys.length ≤ 16777216) (some (xs ++ ys))) (own T) := by
  intro E env st σ vs H Q va vb c ⟨F, w, g⟩ hm hq
  obtain ⟨hl, hm⟩ := grd_some hm
  cases hm
  obtain ⟨b, zs, eb, hb, pb⟩ := g.top
  obtain ⟨a, us, ea, ha, pa⟩ := g.pop.top
  refine ⟨a, b, us, zs, ea, eb, g.ext.s _ _ ha, g.ext.s _ _ hb, by rw [pa.length, pb.length, sizeLine_eq]; exact hl, fun p hp => hq _ _ ⟨F, _, g.pop.pop.pushO hp ⟨p, _, rfl, trivial, fun b => Iff.rfl, upd_same, ?_⟩⟩⟩
  exact ML.Paired.app pa pb
theorem o1_int {a : Int} : O1 (fun v H Q => (∃ i, [v] = [V.int i] ∧ Q (.int i) H) ∨ ∃ k, [v] = [V.bl k] ∧ Q (.int (if k then 1 else 0)) H) (val tInt a) (some a) (val tInt) := o1_mk fun c hm F H Q va s ha hq => by
  cases hm
  exact .inl ⟨a, by rw [show va = V.int a from ha], hq _ rfl⟩
theorem o1_intB {a : Bool} : O1 (fun v H Q => (∃ i, [v] = [V.int i] ∧ Q (.int i) H) ∨ ∃ k, [v] = [V.bl k] ∧ Q (.int (if k then 1 else 0)) H) (val tBool a) (some (if a then 1 else 0)) (val tInt) := o1_mk fun c hm F H Q va s ha hq => by
  cases hm
  refine .inr ⟨a, by rw [show va = V.bl a from ha], hq _ ?_⟩
  cases a <;> rfl
theorem o2_max {a b : Int} : O2 (fun v u H Q => ∃ i j, [v, u] = [V.int i, V.int j] ∧ Q (.int (if j > i then j else i)) H) (val tInt a) (val tInt b) (some (if b > a then b else a)) (val tInt) := o2_mk fun c hm F H Q va vb s ha hb hq => by
  cases hm
  exact ⟨a, b, by rw [show va = V.int a from ha, show vb = V.int b from hb], hq _ rfl⟩
theorem o2_min {a b : Int} : O2 (fun v u H Q => ∃ i j, [v, u] = [V.int i, V.int j] ∧ Q (.int (if j < i then j else i)) H) (val tInt a) (val tInt b) (some (if b < a then b else a)) (val tInt) := o2_mk fun c hm F H Q va vb s ha hb hq => by
  cases hm
  exact ⟨a, b, by rw [show va = V.int a from ha, show vb = V.int b from hb], hq _ rfl⟩
theorem o1_abs {a : Int} : O1 (fun v H Q => ∃ i, [v] = [V.int i] ∧ Q (.int (if i < 0 then -i else i)) H) (val tInt a) (some (if a < 0 then -a else a)) (val tInt) := o1_mk fun c hm F H Q va s ha hq => by
  cases hm
  exact ⟨a, by rw [show va = V.int a from ha], hq _ rfl⟩
/-- is None, is not None -/
theorem o2_isN {T : Ty α} {x : Option α} (hn : ∀ F y, ¬ T.rp F .non y) : O2 (fun x y H Q => y = .non ∧ Q (.bl (decide (x = .non))) H) (val (tOpt T) x) (val tNon ()) (some x.isNone) (val tBool) := o2_mk fun c hm F H Q va vb s ha hb hq => by
  cases hm
  refine ⟨hb, hq _ ?_⟩
  cases x with
  | none => rw [show va = V.non from ha]; rfl
  | some y =>
    have : va ≠ .non := fun z => hn F y (by rw [← z]; exact ha)
    show V.bl _ = V.bl _
    rw [decide_eq_false this]
    rfl
theorem o2_notN {T : Ty α} {x : Option α} (hn : ∀ F y, ¬ T.rp F .non y) : O2 (fun x y H Q => y = .non ∧ Q (.bl (!decide (x = .non))) H) (val (tOpt T) x) (val tNon ()) (some x.isSome) (val tBool) := o2_mk fun c hm F H Q va vb s ha hb hq => by
  cases hm
  refine ⟨hb, hq _ ?_⟩
  cases x with
  | none => rw [show va = V.non from ha]; rfl
  | some y =>
    have : va ≠ .non := fun z => hn F y (by rw [← z]; exact ha)
    show V.bl _ = V.bl _
    rw [decide_eq_false this]
    rfl
theorem nn_int : ∀ (F : Hp) (y : Int), ¬ tInt.rp F .non y := fun _ _ h => by cases h
theorem nn_str : ∀ (F : Hp) (y : Str), ¬ tStr.rp F .non y := fun _ _ h => by cases h
theorem nn_L {T : Ty α} : ∀ (F : Hp) (y : List α), ¬ (tL T).rp F .non y := fun _ _ ⟨_, _, h, _⟩ => by cases h
theorem nn_P {T : Ty α} {U : Ty β} : ∀ (F : Hp) (y : α × β), ¬ (tP T U).rp F .non y := fun _ _ ⟨_, _, _, h, _⟩ => by cases h
/-- a value that is not None -/
theorem ev_some {T : Ty α} {m : Option α} (h : EV E env te m (val T)) : EV E env te (m.map some) (val (tOpt T)) := ev_as h fun x F H o v h => h
/-- isinstance of a value whose kind is known -/
def tCls : Ty String := ⟨fun _ v n => v = .ty n, fun _ h => h⟩
theorem ev_ty {n : String} : EV E env (tC (.ty n)) (some n) (val tCls) := ev_c fun _ => rfl
theorem o2_isi {K : PySem.W.Frag} {T : Ty α} {x : α} {n a : String} {b : Bool} (ht : ∀ F v, T.rp F v x → TyX K F v (.type a)) (hk : kitB a n = some b) (hm : ∀ F H v, Same F H → TyX K F v (.type a) → TyX K H v (.type a)) :
    O2 (fun v u H Q => rIsi K [v, u] H Q) (val T x) (val tCls n) (some b) (val tBool) := o2_mk fun c hc F H Q va vb s ha hb hq => by
  cases hc
  refine ⟨va, vb, .type a, .type n, b, rfl, ?_, hm F H va s (ht F va ha), kit_ty hk, hq _ rfl⟩
  rw [show vb = V.ty n from hb]
  exact .ty n
theorem isi_mono {K : PySem.W.Frag} {F H : Hp} {v : V} {t : Value} (s : Same F H) (h : TyX K F v t) : TyX K H v t := by
  cases h with
  | base h =>
    refine .base ?_
    cases h with
    | non => exact .non
    | bl b => exact .bl b
    | int i => exact .int i
    | str x => exact .str x
    | flt x => exact .flt x
    | lst e => exact .lst (s _ _ e)
    | frz e => exact .frz (s _ _ e)
    | tup e => exact .tup (s _ _ e)
    | dK e => exact .dK (s _ _ e)
    | dT e => exact .dT (s _ _ e)
    | ins e a b c d f => exact .ins (s _ _ e) a b c d f
  | byt b => exact .byt b
  | set e => exact .set (s _ _ e)
  | kList e c => exact .kList e c
  | kTuple e c => exact .kTuple e c
  | kDict e c => exact .kDict e c
  | fTuple e => exact .fTuple (s _ _ e)
  | fDict e => exact .fDict (s _ _ e)
theorem ty_int {K : PySem.W.Frag} {x : Int} : ∀ F v, tInt.rp F v x → TyX K F v (.type "int") := fun F v h => by rw [show v = V.int x from h]; exact .base (.int x)
theorem ty_bool {K : PySem.W.Frag} {x : Bool} : ∀ F v, tBool.rp F v x → TyX K F v (.type "bool") := fun F v h => by rw [show v = V.bl x from h]; exact .base (.bl x)
theorem ty_str {K : PySem.W.Frag} {x : Str} : ∀ F v, tStr.rp F v x → TyX K F v (.type "str") := fun F v h => by rw [show v = V.str x from h]; exact .base (.str x)
theorem ty_L {K : PySem.W.Frag} {T : Ty α} {x : List α} : ∀ F v, (tL T).rp F v x → TyX K F v (.type "list") := fun F v ⟨a, us, e, h, _⟩ => by rw [e]; exact .base (.lst h)
theorem ty_P {K : PySem.W.Frag} {T : Ty α} {U : Ty β} {x : α × β} : ∀ F v, (tP T U).rp F v x → TyX K F v (.type "tuple") := fun F v ⟨a, _, _, e, h, _⟩ => by rw [e]; exact .base (.tup h)
theorem ty_U {K : PySem.W.Frag} {T : Ty α} {x : List α} : ∀ F v, (tU T).rp F v x → TyX K F v (.type "tuple") := fun F v ⟨a, us, e, h, _⟩ => by rw [e]; exact .base (.tup h)
theorem o2_is {K : PySem.W.Frag} {T : Ty α} {x : α} {n a : String} {b : Bool} (ht : ∀ F v, T.rp F v x → TyX K F v (.type a)) (hk : kitB a n = some b) : O2 (fun v u H Q => rIsi K [v, u] H Q) (val T x) (val tCls n) (some b) (val tBool) := o2_isi ht hk fun _ _ _ => isi_mono
/-- x is True, x is not False .. -/
theorem o2_isBB {a b : Bool} : O2 rIsB (val tBool a) (val tBool b) (some (decide (a = b))) (val tBool) := o2_mk fun c hm F H Q va vb s ha hb hq => by
  cases hm
  exact ⟨a, b, ha, hb, hq _ rfl⟩
theorem o2_isntBB {a b : Bool} : O2 rNotB (val tBool a) (val tBool b) (some (!decide (a = b))) (val tBool) := o2_mk fun c hm F H Q va vb s ha hb hq => by
  cases hm
  exact ⟨a, b, ha, hb, hq _ rfl⟩
/-- items of a pair -/
theorem o2_ixP0 {K : PySem.W.Frag} {T : Ty α} {U : Ty β} {p : α × β} : O2 (rIxT K) (val (tP T U) p) (val tInt 0) (some p.1) (val T) := o2_mk fun c hm F H Q va vb s ⟨a, x, y, e, h, h1, h2⟩ hb hq => by
  cases hm
  exact ⟨a, [x, y], 0, x, e, hb, .of (s _ _ h), rfl, hq _ h1⟩
theorem o2_ixP1 {K : PySem.W.Frag} {T : Ty α} {U : Ty β} {p : α × β} : O2 (rIxT K) (val (tP T U) p) (val tInt 1) (some p.2) (val U) := o2_mk fun c hm F H Q va vb s ⟨a, x, y, e, h, h1, h2⟩ hb hq => by
  cases hm
  exact ⟨a, [x, y], 1, y, e, hb, .of (s _ _ h), rfl, hq _ h2⟩
theorem o2_ixU {K : PySem.W.Frag} {T : Ty α} {xs : List α} {i : Int} : O2 (rIxT K) (val (tU T) xs) (val tInt i) (atI xs i) (val T) := o2_mk fun c hm F H Q va vb s ⟨a, vs, e, h, p⟩ hb hq => by
  obtain ⟨v, e1, e2⟩ := atI_paired p hm
  exact ⟨a, vs, i, v, e, hb, .of (s _ _ h), e1, hq v e2⟩
theorem o1_lenP {K : PySem.W.Frag} {T : Ty α} {U : Ty β} {p : α × β} : O1 (fun v H Q => ∃ p ys, [v] = [V.ref p] ∧ (SqL K H p ys ∨ SqT K H p ys) ∧ Q (.int ys.length) H) (val (tP T U) p) (some (2 : Int)) (val tInt) := o1_mk fun c hm F H Q va s ⟨a, x, y, e, h, _⟩ hq => by
  cases hm
  exact ⟨a, [x, y], by rw [e], .inr (.of (s _ _ h)), hq _ rfl⟩
theorem o1_lenU {K : PySem.W.Frag} {T : Ty α} {xs : List α} : O1 (fun v H Q => ∃ p ys, [v] = [V.ref p] ∧ (SqL K H p ys ∨ SqT K H p ys) ∧ Q (.int ys.length) H) (val (tU T) xs) (some (xs.length : Int)) (val tInt) := o1_mk fun c hm F H Q va s ⟨a, vs, e, h, p⟩ hq => by
  cases hm
  exact ⟨a, vs, by rw [e], .inr (.of (s _ _ h)), hq _ (by show V.int _ = V.int _; rw [p.length])⟩
/-- x op= e -/
theorem bk_aug {i : Nat} {T : Ty α} {U : Ty β} {W : Ty δ} {x : α} {m : Option β} {ti : TIp} {mc : β → Option δ} {k : δ → Option γ} (h : env[i]? = some (some (val T x))) (he : EV E env te m (val U)) (ho : ∀ b, O2 ti (val T x) (val U b) (mc b) (val W))
    (hk : ∀ y, BK E (env.set i (some (val W y))) u (k y) post) : BK E env (tSeq (tAug i te ti) u) (m.bind fun b => (mc b).bind k) post := by
  intro st vs σ H D g gg hm hq
  obtain ⟨b, eb, hm⟩ := Option.bind_eq_some_iff.mp hm
  obtain ⟨y, ey, hm⟩ := Option.bind_eq_some_iff.mp hm
  obtain ⟨F, w, g0⟩ := id gg
  obtain ⟨v, e1, e2⟩ := g0.env.2 i _ h
  have hi : i < env.length := (List.getElem?_eq_some_iff.mp h).1
  refine ⟨v, e1, he _ _ σ H _ b ⟨F, w, g0.pushV e2⟩ eb fun vb H1 g1 => ho b E env st σ vs H1 _ v vb y g1 ey fun z H2 ⟨F2, w2, g2⟩ => ?_⟩
  obtain ⟨w3, g3⟩ := g2.store hi
  exact hk y st vs _ H2 D g ⟨F2, w3, g3⟩ hm hq
theorem o2_ipI {f : Int → Int → Int} {a b : Int} : O2 (ipI f) (val tInt a) (val tInt b) (some (f a b)) (val tInt) := o2_mk fun c hm F H Q va vb s ha hb hq => by
  cases hm
  exact ⟨a, b, ha, hb, hq _ rfl⟩
end
end ML

set_option Elab.async false
set_option linter.all false
set_option maxRecDepth 100000
set_option maxHeartbeats 2000000
namespace ML
open PySem PySem.Spec PyProof.Rows L2
section
variable {α β γ δ ρ τ : Type} {E : Ent} {env env' : En} {te ta tb tc ti : TE} {tt tu : TT} {u t t1 t2 : TS} {post : Post γ}
/-! ### the same rules where parts are plain -/
theorem ev_opp {r : R2} {a : α} {b : β} {mc : Option γ} {Sa : α → SP} {Sb : β → SP} {S : γ → SP} (ha : EV E env ta (some a) Sa) (hb : EV E env tb (some b) Sb) (hr : O2 r (Sa a) (Sb b) mc S) : EV E env (tOp r ta tb) mc S := by
  intro st vs σ H Q c g hm hq
  exact ha st vs σ H _ a g rfl fun va H1 g1 => hb _ _ σ H1 _ b g1 rfl fun vb H2 g2 => hr E env st σ vs H2 Q va vb c g2 hm hq
theorem ev_opr {r : R2} {ma : Option α} {b : β} {mc : α → Option γ} {Sa : α → SP} {Sb : β → SP} {S : γ → SP} (ha : EV E env ta ma Sa) (hb : EV E env tb (some b) Sb) (hr : ∀ a, O2 r (Sa a) (Sb b) (mc a) S) : EV E env (tOp r ta tb) (ma.bind mc) S := by
  intro st vs σ H Q c g hm hq
  obtain ⟨a, ea, hm⟩ := Option.bind_eq_some_iff.mp hm
  exact ha st vs σ H _ a g ea fun va H1 g1 => hb _ _ σ H1 _ b g1 rfl fun vb H2 g2 => hr a E env st σ vs H2 Q va vb c g2 hm hq
theorem ev_opl {r : R2} {a : α} {mb : Option β} {mc : β → Option γ} {Sa : α → SP} {Sb : β → SP} {S : γ → SP} (ha : EV E env ta (some a) Sa) (hb : EV E env tb mb Sb) (hr : ∀ b, O2 r (Sa a) (Sb b) (mc b) S) : EV E env (tOp r ta tb) (mb.bind mc) S := by
  intro st vs σ H Q c g hm hq
  obtain ⟨b, eb, hm⟩ := Option.bind_eq_some_iff.mp hm
  exact ha st vs σ H _ a g rfl fun va H1 g1 => hb _ _ σ H1 _ b g1 eb fun vb H2 g2 => hr b E env st σ vs H2 Q va vb c g2 hm hq
theorem ev_opm {r : R2} {ma : Option α} {mb : Option β} {mc : α → β → Option γ} {Sa : α → SP} {Sb : β → SP} {S : γ → SP} (ha : EV E env ta ma Sa) (hb : EV E env tb mb Sb) (hr : ∀ a b, O2 r (Sa a) (Sb b) (mc a b) S) : EV E env (tOp r ta tb) (ma.bind fun a => mb.bind fun b => mc a b) S := ev_op ha (fun _ => hb) hr
theorem ev_cb1p {r : List V → Hp → VK → Prop} {a : α} {mc : Option γ} {Sa : α → SP} {S : γ → SP} (ha : EV E env ta (some a) Sa) (hr : O1 (fun v H Q => r [v] H Q) (Sa a) mc S) : EV E env (tCB r (tCons ta tNil)) mc S := by
  intro st vs σ H Q c g hm hq
  exact ha st vs σ H _ a g rfl fun va H1 g1 => hr E env st σ vs H1 Q va c g1 hm hq
theorem ev_cb2p {r : List V → Hp → VK → Prop} {a : α} {b : β} {mc : Option γ} {Sa : α → SP} {Sb : β → SP} {S : γ → SP} (ha : EV E env ta (some a) Sa) (hb : EV E env tb (some b) Sb) (hr : O2 (fun v u H Q => r [v, u] H Q) (Sa a) (Sb b) mc S) :
    EV E env (tCB r (tCons ta (tCons tb tNil))) mc S := by
  intro st vs σ H Q c g hm hq
  exact ha st vs σ H _ a g rfl fun va H1 g1 => hb _ _ σ H1 _ b g1 rfl fun vb H2 g2 => hr E env st σ vs H2 Q va vb c g2 hm hq
theorem ev_cb2m {r : List V → Hp → VK → Prop} {ma : Option α} {mb : Option β} {mc : α → β → Option γ} {Sa : α → SP} {Sb : β → SP} {S : γ → SP} (ha : EV E env ta ma Sa) (hb : EV E env tb mb Sb) (hr : ∀ a b, O2 (fun v u H Q => r [v, u] H Q) (Sa a) (Sb b) (mc a b) S) :
    EV E env (tCB r (tCons ta (tCons tb tNil))) (ma.bind fun a => mb.bind fun b => mc a b) S := ev_cb2 ha (fun _ => hb) hr
theorem ev_unp {r : V → Hp → VK → Prop} {a : α} {mc : Option γ} {Sa : α → SP} {S : γ → SP} (ha : EV E env ta (some a) Sa) (hr : O1 r (Sa a) mc S) : EV E env (tUn r ta) mc S := by
  intro st vs σ H Q c g hm hq
  exact ha st vs σ H _ a g rfl fun va H1 g1 => hr E env st σ vs H1 Q va c g1 hm hq
theorem opt_if {b : Bool} {x y : α} : (if b = true then some x else some y) = some (if b = true then x else y) := by cases b <;> rfl
theorem ev_ifp {t : Bool} {a b : α} {S : α → SP} (ht : TX E env tt (some t)) (ha : EV E env ta (some a) S) (hb : EV E env tb (some b) S) : EV E env (tIf tt ta tb) (some (if t = true then a else b)) S := ev_eq (ev_if ht ha hb) opt_if
theorem ev_andp {a b : Bool} (ha : EV E env ta (some a) (val tBool)) (hb : EV E env tb (some b) (val tBool)) : EV E env (tAndV ta tb) (some (a && b)) (val tBool) := ev_eq (ev_and ha hb) (by cases a <;> rfl)
theorem ev_orp {a b : Bool} (ha : EV E env ta (some a) (val tBool)) (hb : EV E env tb (some b) (val tBool)) : EV E env (tOrV ta tb) (some (a || b)) (val tBool) := ev_eq (ev_or ha hb) (by cases a <;> rfl)
theorem ev_notp {a : Bool} (ha : EV E env ta (some a) (val tBool)) : EV E env (tNotV ta) (some (!a)) (val tBool) := ev_not ha
theorem tx_eq {m m' : Option Bool} (h : TX E env tt m) (e : m = m') : TX E env tt m' := e ▸ h
theorem tx_andp {a b : Bool} (ha : TX E env tt (some a)) (hb : TX E env tu (some b)) : TX E env (tAnd tt tu) (some (a && b)) := tx_eq (tx_and ha hb) (by cases a <;> rfl)
theorem tx_orp {a b : Bool} (ha : TX E env tt (some a)) (hb : TX E env tu (some b)) : TX E env (tOr tt tu) (some (a || b)) := tx_eq (tx_or ha hb) (by cases a <;> rfl)
theorem tx_notp {a : Bool} (ha : TX E env tt (some a)) : TX E env (tNot tt) (some (!a)) := tx_not ha
theorem ev_chainp {r r' : R2} {a : α} {b : β} {c : γ} {k1 k2 : Bool} {T : Ty α} {U : Ty β} {W : Ty γ} (ha : EV E env ta (some a) (val T)) (hb : EV E env tb (some b) (val U)) (hc : EV E env tc (some c) (val W)) (h1 : O2 r (val T a) (val U b) (some k1) (val tBool)) (h2 : O2 r' (val U b) (val W c) (some k2) (val tBool)) :
    EV E env (tChain r r' ta tb tc) (some (k1 && k2)) (val tBool) := by
  intro st vs σ H Q z g hm hq
  refine ha st vs σ H _ a g rfl fun va H1 g1 => hb _ _ σ H1 _ b g1 rfl fun vb H2 g2 => ?_
  obtain ⟨F2, w2, g2⟩ := g2
  have gb : U.rp F2 vb b := g2.top
  have g2' : GG E env (val U b :: val T a :: val U b :: st) σ (vb :: va :: vb :: vs) H2 F2 w2 := g2.re (fun a l e => ⟨l, e, .inl rfl⟩) g2.env ⟨g2.st.1, g2.st.2.1, gb, g2.st.2.2⟩
  refine h1 E env _ σ _ H2 _ va vb k1 ⟨F2, w2, g2'⟩ rfl fun v H3 ⟨F3, w3, g3⟩ => ⟨k1, g3.top, ?_⟩
  cases k1 with
  | true =>
    rw [if_pos rfl]
    refine hc _ _ σ H3 _ c ⟨F3, w3, g3.pop⟩ rfl fun vc H4 g4 => h2 E env st σ vs H4 Q vb vc z g4 ?_ hq
    rw [← hm]; rfl
  | false =>
    rw [if_neg Bool.false_ne_true]
    cases hm
    exact hq _ _ ⟨F3, w3, g3.pop.pop.pushV rfl⟩
/-- tests that are plain, in an if -/
theorem br_ifrp {b : Bool} {ma mb : Option ρ} {R : ρ → SP} {eR : ρ → En} (ht : TX E env tt (some b)) (ha : BK E env t1 ma (pR E R eR)) (hb : BK E env u mb (pR E R eR)) : BK E env (tSeq (tIfS tt t1 tNext) u) (if b = true then ma else mb) (pR E R eR) := br_ifr ht ha hb
/-! ### comprehensions: the own names -/
theorem noW1 {i : Nat} (h : env[i]? = some none) : NoW env [i] := fun j hj S e => by
  have : j = i := by simpa using hj
  rw [this, h] at e; cases e
theorem noW2 {i j : Nat} (h : env[i]? = some none) (h2 : env[j]? = some none) : NoW env [i, j] := fun k hk S e => by
  have : k = i ∨ k = j := by simpa using hk
  rcases this with z | z
  · rw [z, h] at e; cases e
  · rw [z, h2] at e; cases e
theorem fgt_set {i : Nat} {s : Option SP} (h : env[i]? = some none) : Fgt (env.set i s) env := ⟨by simp, fun j S e => by
  by_cases hj : i = j
  · subst hj; rw [h] at e; cases e
  · rw [List.getElem?_set_ne hj]; exact e⟩
theorem fgt_set2 {i j : Nat} {s s' : Option SP} (h : env[i]? = some none) (h2 : env[j]? = some none) : Fgt ((env.set i s).set j s') env := ⟨by simp, fun k S e => by
  by_cases hj : j = k
  · subst hj; rw [h2] at e; cases e
  · rw [List.getElem?_set_ne hj]
    by_cases hi : i = k
    · subst hi; rw [h] at e; cases e
    · rw [List.getElem?_set_ne hi]; exact e⟩
end
/-! ### constants of the module -/
section
variable {X : Cx} {x : Str} {pos : Pos}
theorem pe_gint {i : Int} (hg : Gl X x) (h : ∃ t, X.mg x = some (.int i t)) (hd : (x == ("__debug__" : Str)) = false := by decide) : PE X (.Name x pos) (tC (.int i)) := by
  obtain ⟨t, h⟩ := h
  exact pe_glob hg h ⟨t, rfl⟩ hd
theorem pe_gstr {i : Str} (hg : Gl X x) (h : ∃ t, X.mg x = some (.str i t)) (hd : (x == ("__debug__" : Str)) = false := by decide) : PE X (.Name x pos) (tC (.str i)) := by
  obtain ⟨t, h⟩ := h
  exact pe_glob hg h ⟨t, rfl⟩ hd
end
/-! ### defs -/
/-- a def that may be called -/
def Cal (P : Program) (w : World) (K : PySem.W.Frag) (mg : Str → Option Value) (base : Heap) (k : Nat) (y : Str) (ps : List Str) (sp : Sp) : Prop :=
  ∃ (f : Addr) (fd : FuncData), mg y = some (.ref f) ∧ PySem.W.keepIn K (.ref f) = true ∧ Binds K fd ps [] ∧ FnOk P w K mg base CX0 k f fd ps sp
end ML

set_option Elab.async false
set_option linter.all false
set_option maxRecDepth 100000
set_option maxHeartbeats 2000000
namespace ML
open PySem PySem.Spec PyProof.Rows L2
section
variable {α β γ δ ρ τ : Type} {E : Ent} {env env' : En} {te ta tb tc ti : TE} {tt tu : TT} {u t t1 t2 : TS} {post : Post γ}
/-! ### data that are compared -/
structure DT {α : Type} (K : PySem.W.Frag) (T : Ty α) [DecidableEq α] where
  dat : α → PyData
  dp : ∀ {F H : Hp} {v : V} {x : α}, Same F H → T.rp F v x → Dp K H v (dat x)
  dep : Nat
  depth : ∀ x, (dat x).depth ≤ dep
  lay : α → Bool
  can : ∀ x, lay x = true → (dat x).canLay0 = true
  eqv : ∀ x y, PyData.eqv (dat x) (dat y) = decide (x = y)
def dInt {K : PySem.W.Frag} : DT K tInt := ⟨.int, fun _ h => by cases h; exact .int _, 0, fun _ => Nat.le_of_eq rfl, fun _ => true, fun _ _ => by simp [PyData.canLay0], fun x y => by
  unfold PyData.eqv
  exact Bool.beq_eq_decide_eq x y⟩
def dBool {K : PySem.W.Frag} : DT K tBool := ⟨.bool, fun _ h => by cases h; exact .bl _, 0, fun _ => Nat.le_of_eq rfl, fun _ => true, fun _ _ => by simp [PyData.canLay0], fun x y => by
  unfold PyData.eqv
  cases x <;> cases y <;> rfl⟩
def dStr {K : PySem.W.Frag} : DT K tStr := ⟨.str, fun _ h => by cases h; exact .str _, 0, fun _ => Nat.le_of_eq rfl, fun x => PyData.strOk x, fun _ h => by simpa [PyData.canLay0] using h, fun x y => by
  unfold PyData.eqv
  rw [Bool.eq_iff_iff]
  simp⟩
theorem dp_all {K : PySem.W.Frag} {T : Ty α} [DecidableEq α] (D : DT K T) {F H : Hp} (s : Same F H) : ∀ {vs : List V} {xs : List α}, Paired (T.rp F) vs xs → DpAll K H vs (xs.map D.dat)
  | _, _, .nil => .nil
  | _, _, .cons r t => .cons (D.dp s r) (dp_all D s t)
theorem depth_all {K : PySem.W.Frag} {T : Ty α} [DecidableEq α] (D : DT K T) : ∀ xs : List α, PyData.depthAll (xs.map D.dat) ≤ D.dep
  | [] => by simp [PyData.depthAll]
  | x :: xs => by
    have h1 := D.depth x
    have h2 := depth_all D xs
    simp only [List.map_cons, PyData.depthAll]
    omega
theorem can_all {K : PySem.W.Frag} {T : Ty α} [DecidableEq α] (D : DT K T) : ∀ xs : List α, xs.all D.lay = true → PyData.canLayAll0 (xs.map D.dat) = true
  | [], _ => by simp [PyData.canLayAll0]
  | x :: xs, h => by
    rw [List.all_cons, Bool.and_eq_true] at h
    simp only [List.map_cons, PyData.canLayAll0, Bool.and_eq_true]
    exact ⟨D.can x h.1, can_all D xs h.2⟩
theorem eqv_all {K : PySem.W.Frag} {T : Ty α} [DecidableEq α] (D : DT K T) : ∀ xs ys : List α, PyData.eqvAll (xs.map D.dat) (ys.map D.dat) = decide (xs = ys)
  | [], [] => by simp [PyData.eqvAll]
  | x :: xs, y :: ys => by
    simp only [List.map_cons, PyData.eqvAll, D.eqv, eqv_all D xs ys]
    by_cases h1 : x = y
    · by_cases h2 : xs = ys
      · simp [h1, h2]
      · simp [h1, h2]
    · simp [h1]
  | [], _ :: _ => by simp [PyData.eqvAll]
  | _ :: _, [] => by simp [PyData.eqvAll]
def dL {K : PySem.W.Frag} {T : Ty α} [DecidableEq α] (D : DT K T) : DT K (tL T) := ⟨fun xs => .list (xs.map D.dat), fun s ⟨a, vs, e, h, p⟩ => by
    rw [e]; exact .lst (.of (s _ _ h)) (dp_all D s p), D.dep + 1, fun xs => by have := depth_all D xs; simp only [PyData.depth]; omega, fun xs => xs.all D.lay, fun xs h => by simp only [PyData.canLay0]; exact can_all D xs h, fun x y => by
    simp only [PyData.eqv]; exact eqv_all D x y⟩
def dU {K : PySem.W.Frag} {T : Ty α} [DecidableEq α] (D : DT K T) : DT K (tU T) := ⟨fun xs => .tuple (xs.map D.dat), fun s ⟨a, vs, e, h, p⟩ => by
    rw [e]; exact .tup (.of (s _ _ h)) (dp_all D s p), D.dep + 1, fun xs => by have := depth_all D xs; simp only [PyData.depth]; omega, fun xs => xs.all D.lay, fun xs h => by simp only [PyData.canLay0]; exact can_all D xs h, fun x y => by
    simp only [PyData.eqv]; exact eqv_all D x y⟩
def dP {K : PySem.W.Frag} {T : Ty α} {U : Ty β} [DecidableEq α] [DecidableEq β] (D : DT K T) (C : DT K U) : DT K (tP T U) := ⟨fun p => .tuple [D.dat p.1, C.dat p.2], fun s ⟨a, x, y, e, h, h1, h2⟩ => by
    rw [e]; exact .tup (.of (s _ _ h)) (.cons (D.dp s h1) (.cons (C.dp s h2) .nil)), max D.dep C.dep + 1, fun p => by
    have h1 := D.depth p.1; have h2 := C.depth p.2
    simp only [PyData.depth, PyData.depthAll]; omega, fun p => D.lay p.1 && C.lay p.2, fun p h => by
    rw [Bool.and_eq_true] at h
    simp only [PyData.canLay0, PyData.canLayAll0, D.can _ h.1, C.can _ h.2]; rfl, fun p q => by
    obtain ⟨a, b⟩ := p
    obtain ⟨c, d⟩ := q
    simp only [PyData.eqv, PyData.eqvAll, D.eqv, C.eqv, Bool.and_true, Prod.mk.injEq]
    by_cases h1 : a = c
    · by_cases h2 : b = d
      · simp [h1, h2]
      · simp [h1, h2]
    · simp [h1]⟩
def dOpt {K : PySem.W.Frag} {T : Ty α} [DecidableEq α] (D : DT K T) (nn : ∀ x, PyData.eqv .none (D.dat x) = false) (nn2 : ∀ x, PyData.eqv (D.dat x) .none = false) : DT K (tOpt T) := ⟨fun x => match x with
    | none => .none
    | some y => D.dat y, fun {F H v x} s h => by
    cases x with
    | none => rw [show v = V.non from h]; exact .non
    | some y => exact D.dp s h, D.dep, fun x => by
    cases x with
    | none => simp [PyData.depth]
    | some y => exact D.depth y, fun x => match x with
    | none => true
    | some y => D.lay y, fun x h => by
    cases x with
    | none => simp [PyData.canLay0]
    | some y => exact D.can y h, fun x y => by
    cases x with
    | none => cases y with
      | none => simp [PyData.eqv]
      | some y => simp only [nn]; simp
    | some x => cases y with
      | none => simp only [nn2]; simp
      | some y => simp only [D.eqv]; simp⟩
theorem shaped_of {d : PyData} {n : Nat} (h1 : d.canLay0 = true) (h2 : d.depth ≤ n) (h3 : n ≤ 64) : SeqAt.shaped d = true := by
  unfold SeqAt.shaped
  rw [h1, decide_eq_true (Nat.le_trans h2 h3)]; rfl
theorem o2_eqDt {K : PySem.W.Frag} {T : Ty α} [DecidableEq α] (D : DT K T) {a b : α} (hd : D.dep ≤ 64) (hl : ∀ x, D.lay x = true) : O2 (rEqD K) (val T a) (val T b) (some (decide (a = b))) (val tBool) := o2_mk fun c hm F H Q va vb s ha hb hq => by
  cases hm
  refine ⟨_, _, D.dp s ha, D.dp s hb, shaped_of (D.can _ (hl _)) (D.depth _) hd, shaped_of (D.can _ (hl _)) (D.depth _) hd, hq _ ?_⟩
  rw [D.eqv]; rfl
theorem o2_neDt {K : PySem.W.Frag} {T : Ty α} [DecidableEq α] (D : DT K T) {a b : α} (hd : D.dep ≤ 64) (hl : ∀ x, D.lay x = true) : O2 (rNeD K) (val T a) (val T b) (some (!decide (a = b))) (val tBool) := o2_mk fun c hm F H Q va vb s ha hb hq => by
  cases hm
  refine ⟨_, _, D.dp s ha, D.dp s hb, shaped_of (D.can _ (hl _)) (D.depth _) hd, shaped_of (D.can _ (hl _)) (D.depth _) hd, hq _ ?_⟩
  rw [D.eqv]; rfl
/-- with texts within: they are to be such as Python has -/
theorem o2_eqDg {K : PySem.W.Frag} {T : Ty α} [DecidableEq α] (D : DT K T) {a b : α} (hd : D.dep ≤ 64) : O2 (rEqD K) (val T a) (val T b) (grd ((D.lay a && D.lay b) = true) (some (decide (a = b)))) (val tBool) := o2_mk fun c hm F H Q va vb s ha hb hq => by
  obtain ⟨hl, hm⟩ := grd_some hm
  rw [Bool.and_eq_true] at hl
  cases hm
  refine ⟨_, _, D.dp s ha, D.dp s hb, shaped_of (D.can _ hl.1) (D.depth _) hd, shaped_of (D.can _ hl.2) (D.depth _) hd, hq _ ?_⟩
  rw [D.eqv]; rfl
theorem o2_neDg {K : PySem.W.Frag} {T : Ty α} [DecidableEq α] (D : DT K T) {a b : α} (hd : D.dep ≤ 64) : O2 (rNeD K) (val T a) (val T b) (grd ((D.lay a && D.lay b) = true) (some (!decide (a = b)))) (val tBool) := o2_mk fun c hm F H Q va vb s ha hb hq => by
  obtain ⟨hl, hm⟩ := grd_some hm
  rw [Bool.and_eq_true] at hl
  cases hm
  refine ⟨_, _, D.dp s ha, D.dp s hb, shaped_of (D.can _ hl.1) (D.depth _) hd, shaped_of (D.can _ hl.2) (D.depth _) hd, hq _ ?_⟩
  rw [D.eqv]; rfl
theorem eqv_oi {K : PySem.W.Frag} : ∀ x, PyData.eqv .none ((dInt (K := K)).dat x) = false := fun x => by simp [dInt, PyData.eqv]
theorem eqv_io {K : PySem.W.Frag} : ∀ x, PyData.eqv ((dInt (K := K)).dat x) .none = false := fun x => by simp [dInt, PyData.eqv]
abbrev dOInt {K : PySem.W.Frag} : DT K (tOpt tInt) := dOpt dInt eqv_oi eqv_io
theorem lay_L {K : PySem.W.Frag} {T : Ty α} [DecidableEq α] {D : DT K T} (h : ∀ x, D.lay x = true) : ∀ x, (dL D).lay x = true := fun x => List.all_eq_true.mpr fun y _ => h y
theorem lay_U {K : PySem.W.Frag} {T : Ty α} [DecidableEq α] {D : DT K T} (h : ∀ x, D.lay x = true) : ∀ x, (dU D).lay x = true := fun x => List.all_eq_true.mpr fun y _ => h y
theorem lay_P {K : PySem.W.Frag} {T : Ty α} {U : Ty β} [DecidableEq α] [DecidableEq β] {D : DT K T} {C : DT K U} (h : ∀ x, D.lay x = true) (h2 : ∀ x, C.lay x = true) : ∀ x, (dP D C).lay x = true := fun x => by
  show (D.lay x.1 && C.lay x.2) = true
  rw [h, h2]; rfl
theorem lay_O {K : PySem.W.Frag} {T : Ty α} [DecidableEq α] {D : DT K T} {n1 n2} (h : ∀ x, D.lay x = true) : ∀ x, (dOpt D n1 n2).lay x = true := fun x => by
  cases x with
  | none => rfl
  | some y => exact h y
theorem lay_int {K : PySem.W.Frag} : ∀ x, (dInt (K := K)).lay x = true := fun _ => rfl
theorem lay_bool {K : PySem.W.Frag} : ∀ x, (dBool (K := K)).lay x = true := fun _ => rfl
/-! ### what may be None, where it is not -/
theorem ev_get {T : Ty α} {m : Option (Option α)} (h : EV E env te m (val (tOpt T))) : EV E env te (m.bind id) (val T) := by
  intro st vs σ H Q x g hm hq
  obtain ⟨y, ey, hm⟩ := Option.bind_eq_some_iff.mp hm
  cases (show y = some x from hm)
  exact h st vs σ H Q (some x) g ey fun v H' ⟨F, w, g'⟩ => hq v H' ⟨F, w, g'.pop.pushV g'.top⟩
theorem ev_getp {T : Ty α} {x : Option α} (h : EV E env te (some x) (val (tOpt T))) : EV E env te x (val T) := ev_get h
/-- ints and None as scalars -/
theorem o2_eqO {a b : Option Int} : O2 rEq (val (tOpt tInt) a) (val (tOpt tInt) b) (grd (a.isSome || b.isSome || true) (some (decide (a = b)))) (val tBool) := o2_mk fun c hm F H Q va vb s ha hb hq => by
  obtain ⟨_, hm⟩ := grd_some hm
  cases hm
  cases a with
  | none => cases b with
    | none => cases ha; cases hb; exact ⟨rfl, hq _ (by show V.bl _ = V.bl _; simp)⟩
    | some b => cases ha; cases (show vb = V.int b from hb); exact ⟨rfl, hq _ (by show V.bl _ = V.bl _; simp)⟩
  | some a => cases b with
    | none => cases (show va = V.int a from ha); cases hb; exact ⟨rfl, hq _ (by show V.bl _ = V.bl _; simp)⟩
    | some b => cases (show va = V.int a from ha); cases (show vb = V.int b from hb); exact ⟨rfl, hq _ (by show V.bl _ = V.bl _; simp)⟩
theorem grd_t {k : Option γ} {b : Bool} : grd ((b || true) = true) k = k := by simp [grd]
theorem o2_eqOI {a b : Option Int} : O2 rEq (val (tOpt tInt) a) (val (tOpt tInt) b) (some (decide (a = b))) (val tBool) := by
  have h := o2_eqO (a := a) (b := b)
  rw [grd_t] at h
  exact h
theorem o2_neOI {a b : Option Int} : O2 rNe (val (tOpt tInt) a) (val (tOpt tInt) b) (some (!decide (a = b))) (val tBool) := o2_mk fun c hm F H Q va vb s ha hb hq => by
  cases hm
  cases a with
  | none => cases b with
    | none => cases ha; cases hb; exact ⟨rfl, hq _ (by show V.bl _ = V.bl _; simp)⟩
    | some b => cases ha; cases (show vb = V.int b from hb); exact ⟨rfl, hq _ (by show V.bl _ = V.bl _; simp)⟩
  | some a => cases b with
    | none => cases (show va = V.int a from ha); cases hb; exact ⟨rfl, hq _ (by show V.bl _ = V.bl _; simp)⟩
    | some b => cases (show va = V.int a from ha); cases (show vb = V.int b from hb); exact ⟨rfl, hq _ (by show V.bl _ = V.bl _; simp)⟩
/-- isinstance(x, int), x an int or None -/
theorem o2_isO {K : PySem.W.Frag} {T : Ty α} {x : Option α} {n a : String} {b : Bool} (ht : ∀ x F v, T.rp F v x → TyX K F v (.type a)) (hk : kitB a n = some b) (hn : kitB "NoneType" n = some false) : O2 (fun v u H Q => rIsi K [v, u] H Q) (val (tOpt T) x) (val tCls n) (some (x.isSome && b)) (val tBool) := o2_mk fun c hc F H Q va vb s ha hb hq => by
  cases hc
  cases x with
  | none =>
    rw [show va = V.non from ha]
    refine ⟨_, vb, .type "NoneType", .type n, false, rfl, ?_, .base .non, kit_ty hn, hq _ rfl⟩
    rw [show vb = V.ty n from hb]
    exact .ty n
  | some y =>
    refine ⟨va, vb, .type a, .type n, b, rfl, ?_, isi_mono s (ht y F va ha), kit_ty hk, hq _ rfl⟩
    rw [show vb = V.ty n from hb]
    exact .ty n
/-! ### a list of one's own goes out -/
theorem GG.move {S : SP} {i : Nat} {st : List SP} {σ : L2.St} {vs : List V} {H F : Hp} {w : Ow} (g : GG E env st σ vs H F w) (h : env[i]? = some (some S)) (hI : ¬ E.I i) : ∃ v w', σ[i]? = some (some v) ∧ GG E (env.set i none) (S :: st) σ (v :: vs) H F w' := by
  classical
  obtain ⟨v, e1, e2⟩ := g.env.2 i S h
  have fresh : ∀ a, w a = some (.e i) → E.H a = none := fun a e => by
    rcases (g.own a _ e).2.2 with z | ⟨_, k, hk, hIk⟩
    · exact z
    · cases hk; exact absurd hIk hI
  let w' : Ow := fun a => if w a = some (.e i) then some (.s st.length) else if w a = some (.s st.length) then none else w a
  have hw1 : ∀ a, w' a = some (.s st.length) ↔ w a = some (.e i) := fun a => by
    show (if w a = some (.e i) then some (.s st.length) else if w a = some (.s st.length) then none else w a) = _ ↔ _
    by_cases h1 : w a = some (.e i)
    · simp [h1]
    · by_cases h2 : w a = some (.s st.length)
      · simp [h1, h2]
      · simp [h1, h2]
  have hw2 : ∀ l, l ≠ .s st.length → l ≠ .e i → ∀ a, w' a = some l ↔ w a = some l := fun l n1 n2 a => by
    show (if w a = some (.e i) then some (.s st.length) else if w a = some (.s st.length) then none else w a) = _ ↔ _
    by_cases h1 : w a = some (.e i)
    · rw [if_pos h1, h1]; exact ⟨fun z => absurd (Option.some.inj z).symm n1, fun z => absurd (Option.some.inj z).symm n2⟩
    · by_cases h2 : w a = some (.s st.length)
      · simp [h1, h2]; exact fun z => n1 z.symm
      · simp [h1, h2]
  refine ⟨v, w', e1, g.ext, ⟨by simpa using g.env.1, fun j S' e => ?_⟩, ⟨by rw [show w'.of (.s st.length) = w.of (.e i) from funext fun a => propext (hw1 a)]; exact e2, g.st.step (M := fun _ => False) (Ext.refl g.ext.s) fun k hk a => ⟨hw2 _ (by intro z; injection z with z; omega) (by intro z; cases z) a, fun e => ⟨fun z => z, (g.own a _ e).2.1⟩⟩⟩, fun a l e => ?_⟩
  · by_cases hj : i = j
    · subst hj
      rw [List.getElem?_set_self (List.getElem?_eq_some_iff.mp h).1] at e
      cases e
    · rw [List.getElem?_set_ne hj] at e
      obtain ⟨u, f1, f2⟩ := g.env.2 j S' e
      refine ⟨u, f1, ?_⟩
      rw [show w'.of (.e j) = w.of (.e j) from funext fun a => propext (hw2 _ (by intro z; cases z) (by intro z; injection z with z; exact hj z.symm) a)]
      exact f2
  · by_cases hl : l = .s st.length
    · subst hl
      have := (hw1 a).mp e
      obtain ⟨q1, q2, _⟩ := g.own a _ this
      exact ⟨q1, q2, .inl (fresh a this)⟩
    · by_cases hl2 : l = .e i
      · subst hl2
        have e' : (if w a = some (.e i) then some (Lb.s st.length) else if w a = some (.s st.length) then none else w a) = some (.e i) := e
        by_cases h1 : w a = some (.e i)
        · simp [h1] at e'
        · by_cases h2 : w a = some (.s st.length)
          · simp [h1, h2] at e'
          · simp [h1, h2] at e'
      · exact g.own a l ((hw2 l hl hl2 a).mp e)
theorem ex_mov {i : Nat} {φ : V → Prop} {T : Ty α} {xs : List α} (h : env[i]? = some (some (muL φ T xs))) (hI : ¬ E.I i := by exact id) : EX E env (tVar i) (some xs) (own T) fun _ => env.set i none := by
  intro st vs σ H Q y ⟨F, w, g⟩ hm hq
  cases hm
  obtain ⟨v, w', e1, g2⟩ := g.move h hI
  exact ⟨v, e1, hq v H ⟨F, w', g2.re (fun a l e => ⟨l, e, .inl rfl⟩) g2.env ⟨by
    obtain ⟨a, us, e, f, ho, hh, p⟩ := g2.st.1
    exact ⟨a, us, e, trivial, ho, hh, p⟩, g2.st.2⟩⟩⟩
/-! ### an if whose ways are followed apart -/
theorem bk_ifd {mt : Option Bool} {ma : Option α} {mb : Option β} {ka : α → Option γ} {kb : β → Option γ} {eA : α → En} {eB : β → En} (ht : TX E env tt mt) (ha : BK E env t1 ma (pN E eA)) (hb : BK E env t2 mb (pN E eB)) (hka : ∀ x, BK E (eA x) u (ka x) post) (hkb : ∀ x, BK E (eB x) u (kb x) post) :
    BK E env (tSeq (tIfS tt t1 t2) u) (mt.bind fun b => if b = true then ma.bind ka else mb.bind kb) post := by
  intro st vs σ H D g gg hm hq
  obtain ⟨b, eb, hm⟩ := Option.bind_eq_some_iff.mp hm
  refine ht st vs σ H _ b gg eb fun H1 g1 => ?_
  cases b with
  | true =>
    obtain ⟨x, ex, hm2⟩ := Option.bind_eq_some_iff.mp hm
    exact ha st vs σ H1 _ x g1 ex fun σ' H' g2 => hka x st vs σ' H' D g g2 hm2 hq
  | false =>
    obtain ⟨x, ex, hm2⟩ := Option.bind_eq_some_iff.mp hm
    exact hb st vs σ H1 _ x g1 ex fun σ' H' g2 => hkb x st vs σ' H' D g g2 hm2 hq
theorem ix_R1p {n : Int} (h : EV E env te (some n) (val tInt)) : IX E env (iRng1 (tCons te tNil)) (range1 n) (val tInt) := ix_R1 h
theorem ix_R2p {a b : Int} (ha : EV E env ta (some a) (val tInt)) (hb : EV E env tb (some b) (val tInt)) : IX E env (iRng2 (tCons ta (tCons tb tNil))) (range2 a b) (val tInt) := ix_R2 ha fun _ => hb
/-! ### enumerate, zip -/
def enumL (xs : List α) : List (Int × α) := xs.zipIdx.map fun p => ((p.2 : Int), p.1)
theorem enumL_get {xs : List α} {i : Nat} {y : Int × α} (h : (enumL xs)[i]? = some y) : y.1 = (i : Int) ∧ xs[i]? = some y.2 := by
  unfold enumL at h
  rw [List.getElem?_map] at h
  obtain ⟨p, e1, e2⟩ := Option.map_eq_some_iff.mp h
  rw [List.getElem?_zipIdx] at e1
  obtain ⟨x, e3, e4⟩ := Option.map_eq_some_iff.mp e1
  subst e4 e2
  simp [e3]
theorem enumL_len {xs : List α} : (enumL xs).length = xs.length := by simp [enumL]
theorem wk_E {K : PySem.W.Frag} {T : Ty α} {xs : List α} {a : Addr} : Wk (Ite K a) (enumL xs) (val (tP tInt T)) (val (tL T) xs) (.ref a) := by
  intro E env st1 st σ vs1 vs H i hl1 ⟨F, w, g⟩
  obtain ⟨a', us, e, h, p⟩ := GG.mid hl1 g
  cases e
  have hs : SqL K H a us := .of (g.ext.s _ _ h)
  refine ⟨fun y hy => ?_, fun hl => ⟨us, hs, by rw [p.length]; rw [enumL_len] at hl; exact hl⟩⟩
  obtain ⟨ey, hy⟩ := enumL_get hy
  obtain ⟨x, e1, e2⟩ := ML.Paired.get p hy
  refine ⟨⟨us, x, hs, e1⟩, fun x' H' ⟨B, x2, ev, hB, eH, hx⟩ => ?_⟩
  have := hx us hs
  rw [e1] at this
  cases this
  subst eH ev
  have u := Ext.newF (F := F) (o := .tup [.int (i : Nat), x]) g.ext.s hB
  refine ⟨_, w, (g.grow u).pushV ⟨B, _, _, rfl, upd_same, ?_, T.mono u.f e2⟩⟩
  show V.int _ = V.int _
  rw [ey]
theorem ix_E {K : PySem.W.Frag} {T : Ty α} {m : Option (List α)} (h : EV E env te m (val (tL T))) : IX E env (iEnum K (tCons te tNil)) (m.bind fun xs => some (enumL xs)) (val (tP tInt T)) := by
  intro st vs σ H R ys gg hm hq
  obtain ⟨xs, ex, hm⟩ := Option.bind_eq_some_iff.mp hm
  cases hm
  refine h st vs σ H _ xs gg ex fun v H1 ⟨F, w, g1⟩ => ?_
  obtain ⟨a, us, e, hh, p⟩ := g1.top
  cases e
  exact ⟨a, us, rfl, .of (g1.ext.s _ _ hh), hq _ _ _ _ wk_E ⟨F, w, g1⟩⟩
/-! ### slices -/
def TO1 (E : Ent) (env : En) (t : TO) (m : Option (Option Int)) : Prop :=
  ∀ (st : List SP) (vs : List V) (σ : L2.St) (H : Hp) (Q : Option Int → Hp → Prop) (b : Option Int), G E env st σ vs H → m = some b → (∀ H', G E env st σ vs H' → Q b H') → t σ H Q
theorem to_none : TO1 E env tNoPart (some none) := fun st vs σ H Q b g hm hq => by cases hm; exact hq H g
theorem to_some {m : Option Int} (h : EV E env te m (val tInt)) : TO1 E env (tPart te) (m.map some) := by
  intro st vs σ H Q b g hm hq
  obtain ⟨x, ex, rfl⟩ := Option.map_eq_some_iff.mp hm
  exact h st vs σ H _ x g ex fun v H1 ⟨F, w, g1⟩ => ⟨x, g1.top, hq H1 ⟨F, w, g1.pop⟩⟩
theorem to_somep {x : Int} (h : EV E env te (some x) (val tInt)) : TO1 E env (tPart te) (some (some x)) := to_some h
/-- xs[lo:hi] -/
def cutL (xs : List α) (lo hi : Option Int) : List α := (xs.drop (HT.sIx xs.length 0 lo)).take (HT.sIx xs.length xs.length hi - HT.sIx xs.length 0 lo)
theorem Paired.drop {α β : Type} {f : α → β → Prop} : ∀ {l : List α} {m : List β} (n : Nat), Paired f l m → Paired f (l.drop n) (m.drop n)
  | _, _, 0, p => p
  | _, _, _ + 1, .nil => .nil
  | _, _, n + 1, .cons _ t => Paired.drop n t
theorem Paired.take {α β : Type} {f : α → β → Prop} : ∀ {l : List α} {m : List β} (n : Nat), Paired f l m → Paired f (l.take n) (m.take n)
  | _, _, 0, _ => .nil
  | _, _, _ + 1, .nil => .nil
  | _, _, n + 1, .cons r t => .cons r (Paired.take n t)
theorem ev_slL {K : PySem.W.Frag} {T : Ty α} {tl th : TO} {m : Option (List α)} {ml mh : Option (Option Int)} (h : EV E env te m (val (tL T))) (hl : TO1 E env tl ml) (hh : TO1 E env th mh) : EV E env (tSl (rSlL K) te tl th) (m.bind fun xs => ml.bind fun l => mh.bind fun h => some (cutL xs l h)) (own T) := by
  intro st vs σ H Q c g hm hq
  obtain ⟨xs, exs, hm⟩ := Option.bind_eq_some_iff.mp hm
  obtain ⟨l, el, hm⟩ := Option.bind_eq_some_iff.mp hm
  obtain ⟨u, eu, hm⟩ := Option.bind_eq_some_iff.mp hm
  cases hm
  refine h st vs σ H _ xs g exs fun v H1 g1 => hl _ _ σ H1 _ l g1 el fun H2 g2 => hh _ _ σ H2 _ u g2 eu fun H3 ⟨F, w, g3⟩ => ?_
  obtain ⟨a, us, e, h', p⟩ := g3.top
  refine ⟨a, us, e, .of (g3.ext.s _ _ h'), fun p' hp => hq _ _ ⟨F, _, g3.pop.pushO hp ⟨p', _, rfl, trivial, fun b => Iff.rfl, upd_same, ?_⟩⟩⟩
  unfold cutV cutL
  rw [p.length]
  exact ML.Paired.take _ (ML.Paired.drop _ p)
theorem ev_slS {K : PySem.W.Frag} {T : Ty α} {tl th : TO} {m : Option (List α)} {ml mh : Option (Option Int)} (h : EV E env te m (val (tS K T))) (hl : TO1 E env tl ml) (hh : TO1 E env th mh) : EV E env (tSl (rSlL K) te tl th) (m.bind fun xs => ml.bind fun l => mh.bind fun h => some (cutL xs l h)) (own T) := by
  intro st vs σ H Q c g hm hq
  obtain ⟨xs, exs, hm⟩ := Option.bind_eq_some_iff.mp hm
  obtain ⟨l, el, hm⟩ := Option.bind_eq_some_iff.mp hm
  obtain ⟨u, eu, hm⟩ := Option.bind_eq_some_iff.mp hm
  cases hm
  refine h st vs σ H _ xs g exs fun v H1 g1 => hl _ _ σ H1 _ l g1 el fun H2 g2 => hh _ _ σ H2 _ u g2 eu fun H3 ⟨F, w, g3⟩ => ?_
  obtain ⟨a, us, e, h', p⟩ := g3.top
  refine ⟨a, us, e, g3.ext.s.seq h', fun p' hp => hq _ _ ⟨F, _, g3.pop.pushO hp ⟨p', _, rfl, trivial, fun b => Iff.rfl, upd_same, ?_⟩⟩⟩
  unfold cutV cutL
  rw [p.length]
  exact ML.Paired.take _ (ML.Paired.drop _ p)
/-! ### powers of great numbers -/
end
def CPowW (i j : Int) : Prop := 0 ≤ j ∧ (Builtin.Int.intBits i : Int) * j ≤ 2 ^ 27
section
variable {X : Cx}
theorem op_powW : OpR X (binaryOp .Pow) (rI CPowW fun i j => .int (i ^ j.toNat)) := opI fun _ _ _ _ _ _ _ hc q => pow_int hc.1 hc.2 q
end
section
variable {α β γ δ ρ τ : Type} {E : Ent} {env env' : En} {te ta tb tc ti : TE} {tt tu : TT} {u t t1 t2 : TS} {post : Post γ}
theorem CPowW.of {i j : Int} (h0 : 0 ≤ j) (h : ((i.natAbs.log2 : Int) + 1) * j ≤ 100000000) : CPowW i j := by
  refine ⟨h0, ?_⟩
  have b : Builtin.Int.intBits i ≤ i.natAbs.log2 + 1 := by
    unfold Builtin.Int.intBits
    split <;> omega
  have b2 : (Builtin.Int.intBits i : Int) * j ≤ ((i.natAbs.log2 : Int) + 1) * j := Int.mul_le_mul_of_nonneg_right (by omega) h0
  have e : (2 : Int) ^ 27 = 134217728 := by decide
  omega
theorem o2_powW {a b : Int} : O2 (rI CPowW fun i j => .int (i ^ j.toNat)) (val tInt a) (val tInt b) (grd (0 ≤ b ∧ ((a.natAbs.log2 : Int) + 1) * b ≤ 100000000) (some (a ^ b.toNat))) (val tInt) := o2_intG (f := fun i j => i ^ j.toNat) (p := fun a b => 0 ≤ b ∧ ((a.natAbs.log2 : Int) + 1) * b ≤ 100000000) fun _ _ h => CPowW.of h.1 h.2
/-! ### sorted, ints -/
def sortI (xs : List Int) : List Int := xs.mergeSort (fun a b => decide (a ≤ b))
theorem sortI_perm (xs : List Int) : (sortI xs).Perm xs := List.mergeSort_perm _ _
theorem sortI_sorted (xs : List Int) : (sortI xs).Pairwise (· ≤ ·) := by
  have h := List.pairwise_mergeSort (le := fun a b : Int => decide (a ≤ b)) (fun a b c h1 h2 => by simp at *; omega) (fun a b => by simp; omega) xs
  exact h.imp fun h => by simpa using h
theorem sortI_unique {xs ys : List Int} (p : ys.Perm xs) (s : ys.Pairwise (· ≤ ·)) : ys = sortI xs :=
  List.Perm.eq_of_pairwise (le := fun a b : Int => a ≤ b) (fun a b _ _ h1 h2 => Int.le_antisymm h1 h2) s (sortI_sorted xs) (p.trans (sortI_perm xs).symm)
theorem paired_ints {F : Hp} : ∀ {vs : List V} {xs : List Int}, Paired (tInt.rp F) vs xs → vs = xs.map V.int
  | _, _, .nil => rfl
  | _, _, .cons r t => by
    rw [paired_ints t, show _ = V.int _ from r]; rfl
theorem ints_paired {F : Hp} : ∀ {xs : List Int}, Paired (tInt.rp F) (xs.map V.int) xs
  | [] => .nil
  | _ :: _ => .cons rfl ints_paired
theorem o1_sorted {K : PySem.W.Frag} {xs : List Int} : O1 (fun v H Q => rSortedI K [v] H Q) (val (tL tInt) xs) (some (sortI xs)) (own tInt) := by
  intro E env st σ vs H Q va c ⟨F, w, g⟩ hm hq
  cases hm
  obtain ⟨a, us, e, h, p⟩ := g.top
  have e2 := paired_ints p
  refine ⟨a, xs, by rw [e], by rw [← e2]; exact .of (g.ext.s _ _ h), fun ns' p' hp hs hn => ?_⟩
  rw [sortI_unique hp hs]
  exact hq _ _ ⟨F, _, g.pop.pushO hn ⟨p', _, rfl, trivial, fun b => Iff.rfl, upd_same, ints_paired⟩⟩
end
end ML

set_option Elab.async false
set_option linter.all false
set_option maxRecDepth 100000
set_option maxHeartbeats 2000000
/-! ML: plain lemmas about the mirrors' words -/
namespace ML
open PySem PySem.Spec PyProof.Rows L2
section
variable {α β γ δ ρ σ : Type}
theorem forN_fun {xs : List α} {f : α → σ → Option σ} (g : Nat → σ) (h : ∀ i x, xs[i]? = some x → f x (g i) = some (g (i + 1))) : forN xs (g 0) f = some (g xs.length) := by
  have key : ∀ (ys : List α) (k : Nat), xs.drop k = ys → forN ys (g k) f = some (g xs.length) ∨ xs.length < k := by
    intro ys
    induction ys with
    | nil => intro k e; have := List.drop_eq_nil_iff.mp e
             by_cases hk : k = xs.length
             · left; subst hk; rfl
             · right; omega
    | cons y ys ih => intro k e
                      obtain ⟨e1, e2⟩ := drop_cons e
                      left
                      unfold forN
                      rw [h k y e1, Option.bind_some]
                      rcases ih (k + 1) e2 with z | z
                      · exact z
                      · have := (List.getElem?_eq_some_iff.mp e1).1; omega
  rcases key xs 0 rfl with z | z
  · exact z
  · omega
theorem forN_fun' {xs : List α} {f : α → σ → Option σ} {s t : σ} (g : Nat → σ) (h0 : s = g 0) (h : ∀ i x, xs[i]? = some x → f x (g i) = some (g (i + 1))) (ht : t = g xs.length) : forN xs s f = some t := by
  rw [h0, ht]; exact forN_fun g h
theorem forN_ind {xs : List α} {f : α → σ → Option σ} (P : Nat → σ → Prop) {s : σ} (h0 : P 0 s) (h : ∀ i x s, xs[i]? = some x → P i s → ∃ s', f x s = some s' ∧ P (i + 1) s') : ∃ s', forN xs s f = some s' ∧ P xs.length s' := by
  have key : ∀ (ys : List α) (k : Nat) (s : σ), k ≤ xs.length → xs.drop k = ys → P k s → ∃ s', forN ys s f = some s' ∧ P xs.length s' := by
    intro ys
    induction ys with
    | nil => intro k s hk e p
             have := List.drop_eq_nil_iff.mp e
             have e2 : k = xs.length := by omega
             subst e2
             exact ⟨s, rfl, p⟩
    | cons y ys ih => intro k s hk e p
                      obtain ⟨e1, e2⟩ := drop_cons e
                      obtain ⟨s', f1, f2⟩ := h k y s e1 p
                      have := (List.getElem?_eq_some_iff.mp e1).1
                      obtain ⟨s'', g1, g2⟩ := ih (k + 1) s' (by omega) e2 f2
                      exact ⟨s'', by unfold forN; rw [f1, Option.bind_some]; exact g1, g2⟩
  exact key xs 0 s (Nat.zero_le _) rfl h0
theorem rangeL_getN {a : Int} {n i : Nat} (h : i < n) : (rangeL a n)[i]? = some (a + (i : Int)) := by
  unfold rangeL
  rw [List.getElem?_map, List.getElem?_range h]; rfl
theorem forN_range {a : Int} {n : Nat} {f : Int → σ → Option σ} {s t : σ} (g : Nat → σ) (h0 : s = g 0) (h : ∀ i : Nat, i < n → f (a + (i : Int)) (g i) = some (g (i + 1))) (ht : t = g n) : forN (rangeL a n) s f = some t := by
  refine forN_fun' g h0 (fun i x e => ?_) (by rw [rangeL_len]; exact ht)
  obtain ⟨h1, h2⟩ := rangeL_get e
  rw [h2]; exact h i h1
theorem forN_rangeI {a : Int} {n : Nat} {f : Int → σ → Option σ} (P : Nat → σ → Prop) {s : σ} (h0 : P 0 s) (h : ∀ (i : Nat) s, i < n → P i s → ∃ s', f (a + (i : Int)) s = some s' ∧ P (i + 1) s') : ∃ s', forN (rangeL a n) s f = some s' ∧ P n s' := by
  obtain ⟨s', h1, h2⟩ := forN_ind (xs := rangeL a n) (f := f) P h0 fun i x s e p => by
    obtain ⟨k1, k2⟩ := rangeL_get e
    rw [k2]; exact h i s k1 p
  rw [rangeL_len] at h2
  exact ⟨s', h1, h2⟩
theorem forN_rangeB {a : Int} {n : Nat} {f : Int → σ → Option σ} {s : σ} {k : σ → Option γ} (Z : Option γ → Prop) (P : Nat → σ → Prop) (h0 : P 0 s) (h : ∀ (i : Nat) s, i < n → P i s → ∃ s', f (a + (i : Int)) s = some s' ∧ P (i + 1) s') (hz : ∀ s', P n s' → Z (k s')) : Z ((forN (rangeL a n) s f).bind k) := by
  obtain ⟨s', h1, h2⟩ := forN_rangeI (f := f) P h0 h
  rw [h1]
  exact hz s' h2
theorem forN_B {xs : List α} {f : α → σ → Option σ} {s : σ} {k : σ → Option γ} (Z : Option γ → Prop) (P : Nat → σ → Prop) (h0 : P 0 s) (h : ∀ (i : Nat) x s, xs[i]? = some x → P i s → ∃ s', f x s = some s' ∧ P (i + 1) s') (hz : ∀ s', P xs.length s' → Z (k s')) : Z ((forN xs s f).bind k) := by
  obtain ⟨s', h1, h2⟩ := forN_ind (f := f) P h0 h
  rw [h1]
  exact hz s' h2
/-- a search that finds nothing -/
theorem forL_ind {xs : List α} {f : α → σ → Option (Out σ σ ρ)} (P : Nat → σ → Prop) {s : σ} (h0 : P 0 s) (h : ∀ i x s, xs[i]? = some x → P i s → ∃ s', f x s = some (.nx s') ∧ P (i + 1) s') : ∃ s', forL xs s f = some (.inl s') ∧ P xs.length s' := by
  have key : ∀ (ys : List α) (k : Nat) (s : σ), k ≤ xs.length → xs.drop k = ys → P k s → ∃ s', forL ys s f = some (.inl s') ∧ P xs.length s' := by
    intro ys
    induction ys with
    | nil => intro k s hk e p
             have := List.drop_eq_nil_iff.mp e
             have e2 : k = xs.length := by omega
             subst e2
             exact ⟨s, rfl, p⟩
    | cons y ys ih => intro k s hk e p
                      obtain ⟨e1, e2⟩ := drop_cons e
                      obtain ⟨s', f1, f2⟩ := h k y s e1 p
                      have := (List.getElem?_eq_some_iff.mp e1).1
                      obtain ⟨s'', g1, g2⟩ := ih (k + 1) s' (by omega) e2 f2
                      exact ⟨s'', by unfold forL; rw [f1, Option.bind_some]; exact g1, g2⟩
  exact key xs 0 s (Nat.zero_le _) rfl h0
theorem forL_rangeI {a : Int} {n : Nat} {f : Int → σ → Option (Out σ σ ρ)} (P : Nat → σ → Prop) {s : σ} (h0 : P 0 s) (h : ∀ (i : Nat) s, i < n → P i s → ∃ s', f (a + (i : Int)) s = some (.nx s') ∧ P (i + 1) s') : ∃ s', forL (rangeL a n) s f = some (.inl s') ∧ P n s' := by
  obtain ⟨s', h1, h2⟩ := forL_ind (xs := rangeL a n) (f := f) P h0 fun i x s e p => by
    obtain ⟨k1, k2⟩ := rangeL_get e
    rw [k2]; exact h i s k1 p
  rw [rangeL_len] at h2
  exact ⟨s', h1, h2⟩
theorem forL_unit {xs : List α} {f : α → Unit → Option (Out Unit Unit ρ)} (h : ∀ x ∈ xs, f x () = some (.nx ())) : forL xs () f = some (.inl ()) := by
  obtain ⟨s', h1, _⟩ := forL_ind (xs := xs) (f := f) (s := ()) (fun _ _ => True) trivial fun i x s e _ => ⟨(), h x (List.mem_of_getElem? e), trivial⟩
  exact h1
theorem forL_rangeU {a : Int} {n : Nat} {f : Int → Unit → Option (Out Unit Unit ρ)} (h : ∀ i : Nat, i < n → f (a + (i : Int)) () = some (.nx ())) : forL (rangeL a n) () f = some (.inl ()) := by
  refine forL_unit fun x hx => ?_
  obtain ⟨i, hi⟩ := List.getElem?_of_mem hx
  obtain ⟨k1, k2⟩ := rangeL_get hi
  rw [k2]; exact h i k1
theorem range1_nat {n : Nat} (h : n ≤ 1000000000) : range1 (n : Int) = some (rangeL 0 n) := by
  unfold range1
  rw [grd_pos (by omega)]
  simp
theorem range1_int {n : Int} (h0 : 0 ≤ n) (h : n ≤ 1000000000) : range1 n = some (rangeL 0 n.toNat) := by
  unfold range1
  rw [grd_pos (by omega)]
theorem range2_int {a b : Int} (h0 : -1000000000 ≤ a) (h1 : a ≤ 1000000000) (h2 : -1000000000 ≤ b) (h3 : b ≤ 1000000000) : range2 a b = some (rangeL a (b - a).toNat) := by
  unfold range2
  rw [grd_pos (by omega)]
theorem mapO_eq {xs : List α} {f : α → Option β} (h : α → β) (hf : ∀ x ∈ xs, f x = some (h x)) : mapO xs f = some (xs.map h) := by
  induction xs with
  | nil => rfl
  | cons x xs ih =>
    unfold mapO
    rw [hf x (by simp), ih fun y hy => hf y (by simp [hy])]; rfl
theorem filO_eq {xs : List α} {t : α → Option Bool} {f : α → Option β} (p : α → Bool) (h : α → β) (ht : ∀ x ∈ xs, t x = some (p x)) (hf : ∀ x ∈ xs, p x = true → f x = some (h x)) : filO xs t f = some ((xs.filter p).map h) := by
  induction xs with
  | nil => rfl
  | cons x xs ih =>
    unfold filO
    rw [ht x (by simp), Option.bind_some, ih (fun y hy => ht y (by simp [hy])) fun y hy => hf y (by simp [hy])]
    cases hp : p x with
    | true => rw [if_pos rfl, hf x (by simp) hp, List.filter_cons_of_pos (by simpa using hp)]; rfl
    | false => rw [if_neg Bool.false_ne_true, List.filter_cons_of_neg (by simp [hp])]
/-- a cell of the script -/
theorem cell_lem (ns : List Int) (k : Nat) : (if decide ((k : Int) < (ns.length : Int)) = true then atI ns (k : Int) else some (0 : Int)) = some (ns.getD k 0) := by
  by_cases h : k < ns.length
  · have h2 : (k : Int) < (ns.length : Int) := by omega
    rw [decide_eq_true h2, if_pos rfl]
    have e : ns[k]? = some (ns.getD k 0) := by
      rw [List.getElem?_eq_getElem h, List.getD_eq_getElem?_getD, List.getElem?_eq_getElem h]; rfl
    rw [atI_nat e]
  · have h2 : ¬ (k : Int) < (ns.length : Int) := by omega
    rw [decide_eq_false h2, if_neg (by simp)]
    have e : ns.getD k 0 = 0 := by
      rw [List.getD_eq_getElem?_getD, List.getElem?_eq_none (by omega)]; rfl
    rw [e]
theorem atI_getD {xs : List α} {i : Int} (d : α) (h0 : 0 ≤ i) (h1 : i < (xs.length : Int)) : atI xs i = some (xs.getD i.toNat d) := by
  have hl : i.toNat < xs.length := by omega
  have e : xs[i.toNat]? = some (xs.getD i.toNat d) := by
    rw [List.getElem?_eq_getElem hl, List.getD_eq_getElem?_getD, List.getElem?_eq_getElem hl]; rfl
  have e2 := atI_nat e
  rw [show ((i.toNat : Nat) : Int) = i by omega] at e2
  exact e2
theorem atI_mem {xs : List α} {i : Int} (h0 : 0 ≤ i) (h1 : i < (xs.length : Int)) : ∃ x, x ∈ xs ∧ atI xs i = some x := by
  have hl : i.toNat < xs.length := by omega
  refine ⟨xs[i.toNat], List.getElem_mem _, ?_⟩
  have e2 := atI_nat (List.getElem?_eq_getElem hl)
  rw [show ((i.toNat : Nat) : Int) = i by omega] at e2
  exact e2
theorem log2_small {a : Int} {n : Nat} (h0 : -(2 ^ n) < a) (h : a < 2 ^ n) (hn : 0 < n) : a.natAbs.log2 < n := by
  by_cases hz : a = 0
  · subst hz; simpa using hn
  · rw [Nat.log2_lt (by omega)]
    have h2 : ((2 ^ n : Nat) : Int) = (2 : Int) ^ n := by simp
    omega
/-- the octets of a row drawn from a cell: each below the base -/
theorem row_step {c b m : Int} {s : Int × List Int} {i : Nat} (hb : 0 < b) (hb2 : b < 1000000) (hl : s.2.length = i) (hi : i < 1000000) (hx : ∀ x ∈ s.2, 0 ≤ x ∧ x < b) :
    ∃ s' : Int × List Int, (if decide ((10 : Int) ^ ((18 : Int) : Int).toNat ≤ c) = true then
        ((grd (0 < b) (some (s.1 % b))).bind fun v20 => grd (s.2.length < 16777216) (some (s.2 ++ [v20]))).bind fun (row_here_18 : List Int) => (grd (0 < b ∧ (b : Int).natAbs.log2 < 9000) (some (s.1 / b))).bind fun (number_19 : Int) => some (number_19, row_here_18)
      else
        ((grd (0 < b) (some (m % b))).bind fun v24 => grd (s.2.length < 16777216) (some (s.2 ++ [v24]))).bind fun (row_here_23 : List Int) => some (s.1, row_here_23)) = some s' ∧ s'.2.length = i + 1 ∧ ∀ x ∈ s'.2, 0 ≤ x ∧ x < b := by
  have hlog : (b : Int).natAbs.log2 < 9000 := Nat.lt_trans (log2_small (n := 20) (by omega) (by omega) (by omega)) (by omega)
  have add : ∀ (y : Int), 0 ≤ y → y < b → ∀ x ∈ s.2 ++ [y], 0 ≤ x ∧ x < b := fun y h1 h2 x hx' => by
    rcases List.mem_append.mp hx' with z | z
    · exact hx x z
    · have : x = y := by simpa using z
      rw [this]; exact ⟨h1, h2⟩
  split
  · rw [grd_pos hb, Option.bind_some, grd_pos (by omega), Option.bind_some, grd_pos ⟨hb, hlog⟩, Option.bind_some]
    exact ⟨_, rfl, by simp [hl], add _ (Int.emod_nonneg _ (by omega)) (Int.emod_lt_of_pos _ hb)⟩
  · rw [grd_pos hb, Option.bind_some, grd_pos (by omega), Option.bind_some]
    exact ⟨_, rfl, by simp [hl], add _ (Int.emod_nonneg _ (by omega)) (Int.emod_lt_of_pos _ hb)⟩
end
end ML

set_option Elab.async false
set_option linter.all false
set_option maxRecDepth 100000
set_option maxHeartbeats 2000000
namespace ML
open PySem PySem.Spec PyProof.Rows L2
section
variable {α β γ δ ρ τ : Type} {E : Ent} {env env' : En} {te ta tb tc ti : TE} {tt tu : TT} {u t t1 t2 : TS} {post : Post γ}
/-- what is never reached -/
theorem ev_never {S : α → SP} : EV E env te none S := fun st vs σ H Q x g hm hq => by cases hm
/-! ### items and length of a list of one's own -/
theorem ev_ixO {K : PySem.W.Frag} {φ : V → Prop} {T : Ty α} {xs : List α} {j : Nat} {mi : Option Int} (h : env[j]? = some (some (muL φ T xs))) (hi : EV E env ti mi (val tInt)) : EV E env (tOp (rIxL K) (tVar j) ti) (mi.bind fun i => atI xs i) (val T) := by
  intro st vs σ H Q c gg hm hq
  obtain ⟨i, ei, hm⟩ := Option.bind_eq_some_iff.mp hm
  obtain ⟨F, w, g⟩ := id gg
  obtain ⟨a, us, e1, hh, p, _⟩ := g.mutE h
  refine ⟨_, e1, hi st vs σ H _ i gg ei fun iv H2 ⟨F2, w2, g2⟩ => ?_⟩
  obtain ⟨a', us2, e2, hh2, p2, _⟩ := g2.mutE h
  rw [e1] at e2
  cases e2
  obtain ⟨v, f1, f2⟩ := atI_paired p2 hm
  exact ⟨a, us2, i, v, rfl, g2.top, .of hh2, f1, hq v H2 ⟨F2, w2, g2.pop.pushV f2⟩⟩
theorem ev_ixOp {K : PySem.W.Frag} {φ : V → Prop} {T : Ty α} {xs : List α} {j : Nat} {i : Int} (h : env[j]? = some (some (muL φ T xs))) (hi : EV E env ti (some i) (val tInt)) : EV E env (tOp (rIxL K) (tVar j) ti) (atI xs i) (val T) := ev_ixO h hi
theorem ev_lenO {K : PySem.W.Frag} {φ : V → Prop} {T : Ty α} {xs : List α} {j : Nat} (h : env[j]? = some (some (muL φ T xs))) : EV E env (tCB (fun vs H Q => ∃ p ys, vs = [V.ref p] ∧ (SqL K H p ys ∨ SqT K H p ys) ∧ Q (.int ys.length) H) (tCons (tVar j) tNil)) (some (xs.length : Int)) (val tInt) := by
  intro st vs σ H Q c gg hm hq
  cases hm
  obtain ⟨F, w, g⟩ := id gg
  obtain ⟨a, us, e1, hh, p, _⟩ := g.mutE h
  exact ⟨_, e1, a, us, rfl, .inl (.of hh), hq _ _ ⟨F, w, g.pushV (by show V.int _ = V.int _; rw [p.length])⟩⟩
/-! ### xs[::-1] -/
theorem ev_revL {K : PySem.W.Frag} {T : Ty α} {m : Option (List α)} (h : EV E env te m (val (tL T))) : EV E env (tRevL K te) (m.map List.reverse) (own T) := by
  intro st vs σ H Q c g hm hq
  obtain ⟨xs, exs, rfl⟩ := Option.map_eq_some_iff.mp hm
  refine h st vs σ H _ xs g exs fun v H1 ⟨F, w, g1⟩ => ?_
  obtain ⟨a, us, e, h', p⟩ := g1.top
  exact ⟨a, us, e, .of (g1.ext.s _ _ h'), fun p' hp => hq _ _ ⟨F, _, g1.pop.pushO hp ⟨p', _, rfl, trivial, fun b => Iff.rfl, upd_same, Paired.rev p⟩⟩⟩
theorem ev_revLp {K : PySem.W.Frag} {T : Ty α} {xs : List α} (h : EV E env te (some xs) (val (tL T))) : EV E env (tRevL K te) (some xs.reverse) (own T) := ev_revL h
theorem ev_revS {K : PySem.W.Frag} {T : Ty α} {m : Option (List α)} (h : EV E env te m (val (tS K T))) : EV E env (tRevL K te) (m.map List.reverse) (own T) := by
  intro st vs σ H Q c g hm hq
  obtain ⟨xs, exs, rfl⟩ := Option.map_eq_some_iff.mp hm
  refine h st vs σ H _ xs g exs fun v H1 ⟨F, w, g1⟩ => ?_
  obtain ⟨a, us, e, h', p⟩ := g1.top
  exact ⟨a, us, e, g1.ext.s.seq h', fun p' hp => hq _ _ ⟨F, _, g1.pop.pushO hp ⟨p', _, rfl, trivial, fun b => Iff.rfl, upd_same, Paired.rev p⟩⟩⟩
theorem ev_revSp {K : PySem.W.Frag} {T : Ty α} {xs : List α} (h : EV E env te (some xs) (val (tS K T))) : EV E env (tRevL K te) (some xs.reverse) (own T) := ev_revS h
/-! ### values that hold no lists may come out of a borrow -/
def Nb (T : Ty α) : Prop := ∀ (F F2 : Hp) (v : V) (x : α), (∀ a o, F a = some o → (∀ us, o ≠ .lst us) → F2 a = some o) → T.rp F v x → T.rp F2 v x
theorem nb_fl {T : Ty α} (h : Flat T) : Nb T := fun F F2 v x _ r => h F F2 v x r
theorem nb_int : Nb tInt := nb_fl flat_int
theorem nb_bool : Nb tBool := nb_fl flat_bool
theorem nb_str : Nb tStr := nb_fl flat_str
theorem nb_non : Nb tNon := nb_fl flat_non
theorem nb_dyn : Nb tDyn := nb_fl flat_dyn
theorem nb_P {T : Ty α} {U : Ty β} (h : Nb T) (k : Nb U) : Nb (tP T U) := fun F F2 v x s ⟨a, p, q, e, hf, h1, h2⟩ => ⟨a, p, q, e, s _ _ hf (fun _ z => by cases z), h F F2 _ _ s h1, k F F2 _ _ s h2⟩
theorem nb_U {T : Ty α} (h : Nb T) : Nb (tU T) := fun F F2 v x s ⟨a, us, e, hf, p⟩ => ⟨a, us, e, s _ _ hf (fun _ z => by cases z), Paired.mono p fun _ _ => h F F2 _ _ s⟩
theorem nb_O {T : Ty α} (h : Nb T) : Nb (tOpt T) := fun F F2 v x s r => by
  cases x with
  | none => exact r
  | some y => exact h F F2 v y s r
theorem GG.brw2 {env' : En} {st : List SP} {σ : L2.St} {vs : List V} {H F : Hp} {w : Ow} (g : GG E env st σ vs H F w) (b : Brw env env') :
    ∃ Fp, Same F Fp ∧ Same Fp H ∧ (∀ a, w a = none → Fp a = F a) ∧ (∀ a o, w a ≠ none → Fp a = some o → ∃ us, o = .lst us) ∧ GG (.mk0 Fp H) env' [] σ [] H Fp (fun _ => none) := by
  classical
  let L : Addr → Prop := fun a => ∃ i us, w a = some (.e i) ∧ H a = some (.lst us)
  let Fp : Hp := fun a => if L a then H a else F a
  have s1 : Same F Fp := fun a o e => by
    show (if L a then H a else F a) = some o
    by_cases h : L a
    · rw [if_pos h]; exact g.ext.s a o e
    · rw [if_neg h]; exact e
  have s2 : Same Fp H := fun a o e => by
    have e' : (if L a then H a else F a) = some o := e
    by_cases h : L a
    · rw [if_pos h] at e'; exact e'
    · rw [if_neg h] at e'; exact g.ext.s a o e'
  refine ⟨Fp, s1, s2, fun a h => ?_, fun a o hw e => ?_, Ext.refl s2, ⟨Nat.le_trans b.1 g.env.1, fun i S' e => ?_⟩, trivial, fun a l e => by cases e⟩
  · show (if L a then H a else F a) = F a
    rw [if_neg]
    rintro ⟨i, us, e, _⟩
    rw [h] at e; cases e
  · have e' : (if L a then H a else F a) = some o := e
    by_cases h : L a
    · rw [if_pos h] at e'
      obtain ⟨i, us, _, e2⟩ := h
      rw [e2] at e'
      exact ⟨us, (Option.some.inj e').symm⟩
    · rw [if_neg h] at e'
      obtain ⟨l, el⟩ := ne_some hw
      rw [(g.own a l el).1] at e'; cases e'
  · rcases b.2 i S' e with ⟨q, rfl, e2⟩ | ⟨α, φ, T, xs, rfl, e2⟩
    · obtain ⟨v, e3, e4⟩ := g.env.2 i _ e2
      exact ⟨v, e3, q.mono s1 e4⟩
    · obtain ⟨v, e3, a, us, rfl, hf, ho, hh, p⟩ := g.env.2 i _ e2
      refine ⟨_, e3, a, us, rfl, ?_, Paired.mono p fun _ _ => T.mono s1⟩
      show (if L a then H a else F a) = _
      rw [if_pos ⟨i, us, (ho a).mpr rfl, hh⟩]
      exact hh
theorem GG.unbrw2 {st : List SP} {σ : L2.St} {vs : List V} {H F H' Fp F' : Hp} {w : Ow} (g : GG E env st σ vs H F w) (s1 : Same F Fp) (h1 : ∀ a, w a = none → Fp a = F a) (h2 : ∀ a o, w a ≠ none → Fp a = some o → ∃ us, o = .lst us) (u : Ext Fp H (fun _ => False) F' H') :
    ∃ F2, GG E env st σ vs H' F2 w ∧ (∀ a, F' a = none → F2 a = none) ∧ ∀ a o, F' a = some o → (∀ us, o ≠ .lst us) → F2 a = some o := by
  classical
  refine ⟨fun a => if w a = none then F' a else none, g.grow ⟨fun a o e => ?_, fun a o e => ?_, u.h, fun a h => ?_, u.t⟩, fun a e => ?_, fun a o e hn => ?_⟩
  · have hw : w a = none := by
      cases q : w a with
      | none => rfl
      | some l => have := (g.own a l q).1; rw [this] at e; cases e
    show (if w a = none then F' a else none) = some o
    rw [if_pos hw]
    exact u.f a o (s1 a o e)
  · have e' : (if w a = none then F' a else none) = some o := e
    by_cases hw : w a = none
    · rw [if_pos hw] at e'; exact u.s a o e'
    · rw [if_neg hw] at e'; cases e'
  · show (if w a = none then F' a else none) = F a
    by_cases hw : w a = none
    · rw [if_pos hw, u.n a h, h1 a hw]
    · rw [if_neg hw]
      obtain ⟨l, e⟩ := ne_some hw
      exact (g.own a l e).1.symm
  · show (if w a = none then F' a else none) = none
    by_cases hw : w a = none
    · rw [if_pos hw]; exact e
    · rw [if_neg hw]
  · show (if w a = none then F' a else none) = some o
    by_cases hw : w a = none
    · rw [if_pos hw]; exact e
    · obtain ⟨l, el⟩ := ne_some hw
      have e3 := u.n a (g.own a l el).2.1
      rw [e] at e3
      obtain ⟨us, eu⟩ := h2 a o hw e3.symm
      exact absurd eu (hn us)
theorem ev_brwN {env' : En} {T : Ty α} {m : Option α} (fl : Nb T) (b : Brw env env') (h : ∀ F H, EV (.mk0 F H) env' te m (val T)) : EV E env te m (val T) := by
  intro st vs σ H Q x ⟨F, w, g⟩ hm hq
  obtain ⟨Fp, s1, s2, h1, h2, g1⟩ := g.brw2 b
  refine h Fp H [] [] σ H Q x ⟨Fp, _, g1⟩ hm fun v H' ⟨F', w', g'⟩ => ?_
  obtain ⟨F2, g2, hF2, hF3⟩ := g.unbrw2 s1 h1 h2 g'.ext
  exact hq v H' ⟨F2, w, g2.pushV (fl _ _ _ _ hF3 g'.top)⟩
theorem ev_brwON {env' : En} {T : Ty α} {m : Option (List α)} (fl : Nb T) (b : Brw env env') (h : ∀ F H, EV (.mk0 F H) env' te m (own T)) : EV E env te m (own T) := by
  intro st vs σ H Q x ⟨F, w, g⟩ hm hq
  obtain ⟨Fp, s1, s2, h1, h2, g1⟩ := g.brw2 b
  refine h Fp H [] [] σ H Q x ⟨Fp, _, g1⟩ hm fun v H' ⟨F', w', g'⟩ => ?_
  obtain ⟨F2, g2, hF2, hF3⟩ := g.unbrw2 s1 h1 h2 g'.ext
  obtain ⟨a, us, rfl, hf, ho, hh, p⟩ := g'.st.1
  have wa : w' a = some (.s 0) := (ho a).mpr rfl
  obtain ⟨q1, q2, q3⟩ := g'.own a _ wa
  have hHa : H a = none := by
    rcases q3 with z | ⟨z, _⟩
    · exact z
    · exact z.elim
  have wna : w a = none := by
    cases e : w a with
    | none => rfl
    | some l => exact absurd hHa (g.own a l e).2.1
  exact hq _ H' ⟨F2, _, g2.addTop (N := fun b => b = a) (fun b z => by rw [z]; exact ⟨wna, hF2 a q1, q2, g.ext.t a hHa⟩) ⟨a, us, rfl, trivial, fun b => Iff.rfl, hh, Paired.mono p fun _ _ => fl _ _ _ _ hF3⟩⟩
end
/-! ### two arguments, one of them plain -/
section
variable {α β γ δ ρ τ : Type} {E : Ent} {env env' : En} {te ta tb tc ti : TE} {tt tu : TT} {u t t1 t2 : TS} {post : Post γ}
theorem ev_cb2r {r : List V → Hp → VK → Prop} {ma : Option α} {b : β} {mc : α → Option γ} {Sa : α → SP} {Sb : β → SP} {S : γ → SP} (ha : EV E env ta ma Sa) (hb : EV E env tb (some b) Sb) (hr : ∀ a, O2 (fun v u H Q => r [v, u] H Q) (Sa a) (Sb b) (mc a) S) :
    EV E env (tCB r (tCons ta (tCons tb tNil))) (ma.bind mc) S := by
  intro st vs σ H Q c g hm hq
  obtain ⟨a, ea, hm⟩ := Option.bind_eq_some_iff.mp hm
  exact ha st vs σ H _ a g ea fun va H1 g1 => hb _ _ σ H1 _ b g1 rfl fun vb H2 g2 => hr a E env st σ vs H2 Q va vb c g2 hm hq
theorem ev_cb2l {r : List V → Hp → VK → Prop} {a : α} {mb : Option β} {mc : β → Option γ} {Sa : α → SP} {Sb : β → SP} {S : γ → SP} (ha : EV E env ta (some a) Sa) (hb : EV E env tb mb Sb) (hr : ∀ b, O2 (fun v u H Q => r [v, u] H Q) (Sa a) (Sb b) (mc b) S) :
    EV E env (tCB r (tCons ta (tCons tb tNil))) (mb.bind mc) S := by
  intro st vs σ H Q c g hm hq
  obtain ⟨b, eb, hm⟩ := Option.bind_eq_some_iff.mp hm
  exact ha st vs σ H _ a g rfl fun va H1 g1 => hb _ _ σ H1 _ b g1 eb fun vb H2 g2 => hr b E env st σ vs H2 Q va vb c g2 hm hq
end
/-! ### the layer's rules with the constants named -/
section
variable {X : Cx} {K : PySem.W.Frag}
theorem ix_listK (h : X.K = K) : IxR X (rIxL K) := h ▸ ix_list
theorem ix_tupK (h : X.K = K) : IxR X (rIxT K) := h ▸ ix_tup
theorem sl_listK (h : X.K = K) : SlR X (rSlL K) := h ▸ sl_list
theorem call_len_seqK (h : X.K = K) : CallR X (.builtin "len") (fun xs H Q => ∃ p ys, xs = [.ref p] ∧ (SqL K H p ys ∨ SqT K H p ys) ∧ Q (.int ys.length) H) := h ▸ call_len_seq
theorem call_list_ofK (h : X.K = K) : CallR X (.type "list") (fun xs H Q => ∃ p ys, xs = [.ref p] ∧ (SqL K H p ys ∨ SqT K H p ys) ∧ ∀ l, H l = none → Q (.ref l) (upd H l (.lst ys))) := h ▸ call_list_of
theorem call_isiKK (h : X.K = K) : CallR X (.builtin "isinstance") (rIsi K) := h ▸ call_isi
theorem cr_sortedIK (h : X.K = K) : CallR X (.builtin "sorted") (rSortedI K) := h ▸ cr_sortedI
theorem op_eqDK (h : X.K = K) (hu : X.A.units + 64 < cLine) : OpR X (compareOp .Eq) (rEqD K) := h ▸ op_eqD hu
theorem op_neDK (h : X.K = K) (hu : X.A.units + 64 < cLine) : OpR X (compareOp .NotEq) (rNeD K) := h ▸ op_neD hu
theorem pi_listK {tg l : Expr} {tl : TE} (h : X.K = K) (hl : PE X l tl) : PI X tg l (iList K tl) := h ▸ pi_list hl
theorem pi_tupK {tg l : Expr} {tl : TE} (h : X.K = K) (hl : PE X l tl) : PI X tg l (iTup K tl) := h ▸ pi_tup hl
theorem pe_revLK {e : Expr} {te : TE} {k : Nat} {p1 p2 p3 pos : Pos} (h : X.K = K) (he : PE X e te) : PE X (.Subscript e (.Slice none none (some (.UnaryOp .USub (.Constant (.int 1) k p1) p2)) p3) pos) (tRevL K te) := h ▸ pe_revL he
theorem pg_tupK {es : List Expr} {k : Nat} {t : TGs} {n : Nat} {pos : Pos} (hK : X.K = K) (hc : X.calm = true) (h : PGs X es t)
    (hn : (assignEach es X.env).length = n := by rfl) (hst : (assignEach es X.env).findIdx? (·.1) = none := by rfl) : PG X (.Tuple es k pos) (gTup K n t) := hK ▸ pg_tup hc h hn hst
end
section
variable {α β γ δ ρ σ : Type}
theorem forL_B {xs : List α} {f : α → σ → Option (Out σ σ ρ)} {s : σ} {k : σ → Option γ} {h : ρ → Option γ} (Z : Option γ → Prop) (P : Nat → σ → Prop) (h0 : P 0 s) (hf : ∀ (i : Nat) x s, xs[i]? = some x → P i s → ∃ s', f x s = some (.nx s') ∧ P (i + 1) s') (hz : ∀ s', P xs.length s' → Z (k s')) : Z (thenS (forL xs s f) k h) := by
  obtain ⟨s', h1, h2⟩ := forL_ind (f := f) P h0 hf
  rw [h1]
  exact hz s' h2
theorem forL_rangeB {a : Int} {n : Nat} {f : Int → σ → Option (Out σ σ ρ)} {s : σ} {k : σ → Option γ} {h : ρ → Option γ} (Z : Option γ → Prop) (P : Nat → σ → Prop) (h0 : P 0 s) (hf : ∀ (i : Nat) s, i < n → P i s → ∃ s', f (a + (i : Int)) s = some (.nx s') ∧ P (i + 1) s') (hz : ∀ s', P n s' → Z (k s')) : Z (thenS (forL (rangeL a n) s f) k h) := by
  obtain ⟨s', h1, h2⟩ := forL_rangeI (f := f) P h0 hf
  rw [h1]
  exact hz s' h2
/-- a search that ends: either an item is found, first, or all are passed -/
theorem forL_find {xs : List α} {f : α → Unit → Option (Out Unit Unit ρ)} (g : α → Option ρ) (h : ∀ x ∈ xs, f x () = some (match g x with | some r => .ret r | none => .nx ())) : forL xs () f = some (match xs.findSome? g with | some r => .inr r | none => .inl ()) := by
  induction xs with
  | nil => rfl
  | cons x xs ih =>
    unfold forL
    rw [h x (by simp), List.findSome?_cons]
    cases hg : g x with
    | some r => rfl
    | none => exact ih fun y hy => h y (by simp [hy])
end
end ML

set_option Elab.async false
set_option linter.all false
set_option maxRecDepth 100000
set_option maxHeartbeats 2000000
namespace LW
open PySem PySem.Spec PyProof.Rows L2 ML
abbrev law_ : PySem.W.OpenLaw := PySem.Challenge.rw_throughline_k18_cube_roots_and_curves
def topS (i : Nat) : Stmt := PySem.Challenge.pw_throughline_k18_cube_roots_and_curves.main.body.getD i (.Pass ⟨0, 0, 0, 0⟩)
/-- what the top has left -/
structure Txt (K : PySem.W.Frag) (mg : Str → Option Value) : Prop where
  b_abs : mg "abs" = none
  b_bool : mg "bool" = none
  b_int : mg "int" = none
  b_isinstance : mg "isinstance" = none
  b_len : mg "len" = none
  b_max : mg "max" = none
  b_sorted : mg "sorted" = none
  c_SCALE : ∃ t, mg "SCALE" = some (.int 2500000000 t)
def m_cube_root (number : Int) : Option Int :=
  let step_1 : Int := (1 : Int)
  (whileN 1000 step_1 (fun (s2 : Int) => ((grd (0 ≤ (3 : Int) ∧ (((s2 : Int).natAbs.log2 : Int) + 1) * (3 : Int) ≤ 100000000) (some (s2 ^ ((3 : Int) : Int).toNat))).bind fun v3 => some (decide (v3 ≤ number)))) fun (s2 : Int) =>
  let step_4 : Int := ((2 : Int) * s2)
  some step_4).bind fun (s5 : Int) =>
  let root_6 : Int := (0 : Int)
  (whileN 1000 (root_6, s5) (fun (s7 : Int × Int) => some (decide ((0 : Int) < s7.2))) fun (s7 : Int × Int) =>
  ((grd (0 ≤ (3 : Int) ∧ ((((s7.1 + s7.2) : Int).natAbs.log2 : Int) + 1) * (3 : Int) ≤ 100000000) (some ((s7.1 + s7.2) ^ ((3 : Int) : Int).toNat))).bind fun v8 => some (decide (v8 ≤ number))).bind fun b =>
  ((if b = true then
  let root_10 : Int := (s7.1 + s7.2)
  some root_10
  else
  some s7.1)).bind fun (s9 : Int) =>
  let step_11 : Int := (s7.2 / (2 : Int))
  some (s9, step_11)).bind fun (s12 : Int × Int) =>
  some s12.1
def m_rise (mss : Int) (distance : Int) : Option Int :=
  (((grd (0 ≤ (3 : Int) ∧ (((distance : Int).natAbs.log2 : Int) + 1) * (3 : Int) ≤ 100000000) (some (distance ^ ((3 : Int) : Int).toNat))).bind fun v13 => grd ((mss : Int).natAbs.log2 + (v13 : Int).natAbs.log2 < 1000000) (some (mss * v13))).bind fun v14 => some (v14 / (2500000000 : Int)))
def m_curve (mss : Int) (origin : Int) (turning : Int) (at_ : Int) : Option Int :=
  (if (decide (at_ ≤ turning)) = true then
  (((m_rise mss (turning - at_)).bind fun v17 => some (origin - v17)).bind fun v18 => some (if v18 > (0 : Int) then v18 else (0 : Int)))
  else
  ((m_rise mss (at_ - turning)).bind fun v21 => some (origin + v21)))
def m_turning_time (mss : Int) (depth : Int) : Option Int :=
  ((grd (0 < mss ∧ (mss : Int).natAbs.log2 < 9000) (some ((depth * (2500000000 : Int)) / mss))).bind fun v23 => m_cube_root v23)
def m__law_is_integer (actual : Int) : Option Bool :=
  some (true && (!false))
def m__law_cell (script : (List Int)) (k : Int) : Option Int :=
  (if (decide (k < (script.length : Int))) = true then
  atI script k
  else
  some (0 : Int))
def m__law_is_root (actual : Int) (number : Int) : Option Bool :=
  (((m__law_is_integer actual).bind fun v25 => some (!v25)).bind fun v26 => (if v26 = true then some true else some (decide (actual < (0 : Int))))).bind fun b =>
  if b = true then
  some false
  else
  (((grd ((actual : Int).natAbs.log2 + (actual : Int).natAbs.log2 < 1000000) (some (actual * actual))).bind fun v27 => grd ((v27 : Int).natAbs.log2 + (actual : Int).natAbs.log2 < 1000000) (some (v27 * actual))).bind fun v29 => (if (decide (v29 ≤ number)) = true then (((grd (((actual + (1 : Int)) : Int).natAbs.log2 + ((actual + (1 : Int)) : Int).natAbs.log2 < 1000000) (some ((actual + (1 : Int)) * (actual + (1 : Int))))).bind fun v28 => grd ((v28 : Int).natAbs.log2 + ((actual + (1 : Int)) : Int).natAbs.log2 < 1000000) (some (v28 * (actual + (1 : Int))))).bind fun v30 => some (decide (number < v30))) else some false))
def m__law_curve (mss : Int) (origin : Int) (turning : Int) (at_ : Int) : Option Int :=
  let away_31 : Int := (if (at_ - turning) < 0 then -(at_ - turning) else (at_ - turning))
  ((((grd ((mss : Int).natAbs.log2 + (away_31 : Int).natAbs.log2 < 1000000) (some (mss * away_31))).bind fun v32 => grd ((v32 : Int).natAbs.log2 + (away_31 : Int).natAbs.log2 < 1000000) (some (v32 * away_31))).bind fun v33 => grd ((v33 : Int).natAbs.log2 + (away_31 : Int).natAbs.log2 < 1000000) (some (v33 * away_31))).bind fun v34 => some (v34 / (2500000000 : Int))).bind fun (rise_35 : Int) =>
  (if (decide (at_ ≤ turning)) = true then
  some (if (origin - rise_35) > (0 : Int) then (origin - rise_35) else (0 : Int))
  else
  some (origin + rise_35))
def m_law (script : (List Int)) : Option Bool :=
  ((((m__law_cell script (0 : Int)).bind fun v38 => some v38).bind fun v39 => some (v39 / (5 : Int))).bind fun v40 => some (v40 % ((10 : Int) ^ ((20 : Int) : Int).toNat))).bind fun (root_41 : Int) =>
  ((((m__law_cell script (0 : Int)).bind fun v44 => some v44).bind fun v45 => some (v45 / (2 : Int))).bind fun v46 => some (v46 % (((10 : Int) ^ ((60 : Int) : Int).toNat) + (1 : Int)))).bind fun (number_47 : Int) =>
  ((((m__law_cell script (0 : Int)).bind fun v50 => some v50).bind fun v51 => some (v51 % (2 : Int))).bind fun v52 => some (decide (v52 = (1 : Int)))).bind fun b =>
  ((if b = true then
  (((((grd ((root_41 : Int).natAbs.log2 + (root_41 : Int).natAbs.log2 < 1000000) (some (root_41 * root_41))).bind fun v54 => grd ((v54 : Int).natAbs.log2 + (root_41 : Int).natAbs.log2 < 1000000) (some (v54 * root_41))).bind fun v59 => ((((m__law_cell script (1 : Int)).bind fun v57 => some v57).bind fun v58 => some (v58 % (3 : Int))).bind fun v60 => some (v59 + v60))).bind fun v61 => some (v61 - (1 : Int))).bind fun v62 => some (if v62 > (0 : Int) then v62 else (0 : Int))).bind fun (number_63 : Int) =>
  some number_63
  else
  some number_47)).bind fun (s53 : Int) =>
  (((m_cube_root s53).bind fun v67 => m__law_is_root v67 s53).bind fun v68 => some (!v68)).bind fun b =>
  if b = true then
  some false
  else
  ((((m__law_cell script (2 : Int)).bind fun v71 => some v71).bind fun v72 => some (v72 % (1460 : Int))).bind fun v73 => some ((1 : Int) + v73)).bind fun (length_74 : Int) =>
  (((m__law_cell script (3 : Int)).bind fun v77 => some v77).bind fun v78 => some (v78 % (1073741825 : Int))).bind fun (origin_79 : Int) =>
  (((m__law_cell script (4 : Int)).bind fun v82 => some v82).bind fun v83 => some (v83 % (1073741825 : Int))).bind fun (depth_84 : Int) =>
  (((m__law_cell script (5 : Int)).bind fun v87 => some v87).bind fun v88 => some (v88 % (4194305 : Int))).bind fun (turning_89 : Int) =>
  (m_turning_time length_74 depth_84).bind fun (time_92 : Int) =>
  (((grd (0 < length_74 ∧ (length_74 : Int).natAbs.log2 < 9000) (some ((depth_84 * (2500000000 : Int)) / length_74))).bind fun v95 => m__law_is_root time_92 v95).bind fun v96 => some (!v96)).bind fun b =>
  if b = true then
  some false
  else
  ((((m__law_cell script (6 : Int)).bind fun v99 => some v99).bind fun v100 => some (v100 % (((10 : Int) ^ ((9 : Int) : Int).toNat) + (1 : Int)))).bind fun v107 => ((((m__law_cell script (7 : Int)).bind fun v103 => some v103).bind fun v104 => some (v104 % (((10 : Int) ^ ((9 : Int) : Int).toNat) + (1 : Int)))).bind fun v108 => some ([v107, v108] : List Int))).bind fun (times_109 : (List Int)) =>
  (((((m__law_cell script (6 : Int)).bind fun v112 => some v112).bind fun v113 => some (v113 / (7 : Int))).bind fun v114 => some (v114 % (2 : Int))).bind fun v115 => some (decide (v115 = (1 : Int)))).bind fun b =>
  ((if b = true then
  ((((m__law_cell script (6 : Int)).bind fun v119 => some v119).bind fun v120 => grd (0 < (((2 : Int) * turning_89) + (2 : Int))) (some (v120 % (((2 : Int) * turning_89) + (2 : Int))))).bind fun v127 => ((((m__law_cell script (7 : Int)).bind fun v123 => some v123).bind fun v124 => grd (0 < (((2 : Int) * turning_89) + (2 : Int))) (some (v124 % (((2 : Int) * turning_89) + (2 : Int))))).bind fun v128 => some ([v127, v128] : List Int))).bind fun (times_129 : (List Int)) =>
  some times_129
  else
  some times_109)).bind fun (s116 : (List Int)) =>
  let times_130 : (List Int) := (sortI s116)
  (grd (times_130.length + ([turning_89, (turning_89 + (1 : Int)), (0 : Int)] : List Int).length ≤ 16777216) (some (times_130 ++ ([turning_89, (turning_89 + (1 : Int)), (0 : Int)] : List Int)))).bind fun l172 =>
  thenS (forL l172 () fun x135 (s134 : Unit) =>
  (m_curve length_74 origin_79 turning_89 x135).bind fun (value_140 : Int) =>
  (((m__law_is_integer value_140).bind fun v142 => some (!v142)).bind fun v148 => (if v148 = true then some true else ((m__law_curve length_74 origin_79 turning_89 x135).bind fun v147 => some (!decide (value_140 = v147))))).bind fun b =>
  if b = true then
  some (.ret false)
  else
  some (.nx ())) (fun (s149 : Unit) =>
  (((atI times_130 (0 : Int)).bind fun v154 => m_curve length_74 origin_79 turning_89 v154).bind fun v160 => (((atI times_130 (1 : Int)).bind fun v159 => m_curve length_74 origin_79 turning_89 v159).bind fun v161 => some (decide (v161 < v160)))).bind fun b =>
  if b = true then
  some false
  else
  ((m_curve length_74 origin_79 turning_89 turning_89).bind fun v166 => some (!decide (v166 = origin_79))).bind fun b =>
  if b = true then
  some false
  else
  ((m_curve length_74 origin_79 time_92 (0 : Int)).bind fun v171 => some (decide ((if (origin_79 - depth_84) > (0 : Int) then (origin_79 - depth_84) else (0 : Int)) ≤ v171)))) fun r => some r
/-! ### cube_root -/
abbrev s_cube_root : Stmt := topS 1
abbrev N_cube_root : List Str := ["number", "step", "root"]
theorem sc_cube_root : FnScope N_cube_root ["number"] (defScope s_cube_root) := ⟨rfl, rfl, rfl, by decide +kernel, rfl, by decide +kernel, by decide +kernel⟩
abbrev sp_cube_root (K : PySem.W.Frag) : Sp := spF (fun a : Int => [vp tInt a]) (fun a => m_cube_root a) (val tInt)
set_option maxHeartbeats 4000000 in
theorem ok_cube_root {P : Program} {w : World} {K : PySem.W.Frag} {mg : Str → Option Value} {base : Heap} {f : Addr} {fd : FuncData} (T : Txt K mg) (F : FunD K "cube_root" "cube_root" (defArgs s_cube_root) (defBody s_cube_root) (defScope s_cube_root) [] [] f fd)  : FnOk P w K mg base CX0 1 f fd ["number"] (sp_cube_root K) := by
  refine F.ok sc_cube_root (fun vs H Q E h => spF_len h fun _ => rfl) (fun cdv A outer s H vs Q E hr h => ?_)
  refine ⟨_, PSs.nox (pss_cons (ps_set (i := 1) sc_cube_root.nd rfl (.inl rfl) pe_int)
       (pss_cons (ps_while PassesOwn.never (pt_cmpR op_le (pe_op op_powW (pv 1) pe_int) (pv 0) (nomark _))
       (pss_cons (ps_set (i := 1) sc_cube_root.nd rfl (.inl rfl) (pe_op op_mul pe_int (pv 1)))
       pss_nil))
       (pss_cons (ps_set (i := 2) sc_cube_root.nd rfl (.inl rfl) pe_int)
       (pss_cons (ps_while PassesOwn.never (pt_cmpR op_gt (pv 1) pe_int (nomark _))
       (pss_cons (ps_if (pt_cmpR op_le (pe_op op_powW (pe_op op_add (pv 2) (pv 1)) pe_int) (pv 0) (nomark _))
       (pss_cons (ps_set (i := 2) sc_cube_root.nd rfl (.inl rfl) (pe_op op_add (pv 2) (pv 1)))
       pss_nil)
       pss_nil)
       (pss_cons (ps_set (i := 1) sc_cube_root.nd rfl (.inl rfl) (pe_op op_fdiv (pv 1) pe_int))
       pss_nil)))
       (pss_one (ps_ret (pv 2))))))), ?_⟩
  refine run_F (eR := fun _ => []) h (fun _ => Nat.le_of_ble_eq_true rfl) rfl ?_
  rintro number F0 H0
  show BK _ [some (val tInt number), none, none] _ (m_cube_root number) _
  exact bk_eq
    (show BK _ [some (val tInt number), none, none] _ _ _ from (bk_asg ev_int fun step_1 => (show BK _ [some (val tInt number), some (val tInt step_1), none] _ _ _ from (bk_whileN (eL := fun (s2 : Int) => [some (val tInt number), some (val tInt s2), none]) (s0 := step_1) 1000 (fgt_c (fgt_c (fgt_n fgt_0))) (fun s2 => (tx_e (ev_opr (ev_opp (ev_var (i := 1) (T := tInt) rfl) ev_int o2_powW) (ev_var (i := 0) (T := tInt) rfl) fun _ => o2_cmp))) (fun s2 => (show BK _ [some (val tInt number), some (val tInt s2), none] _ _ _ from (bk_asg (ev_opp ev_int (ev_var (i := 1) (T := tInt) rfl) (o2_int (C := CMul) (.inl ⟨by decide, by decide⟩))) fun step_4 => (show BK _ [some (val tInt number), some (val tInt step_4), none] _ _ _ from (bn_nx (a := step_4) (fgt_c (fgt_c (fgt_n fgt_0)))))))) fun s5 => (show BK _ [some (val tInt number), some (val tInt s5), none] _ _ _ from (bk_asg ev_int fun root_6 => (show BK _ [some (val tInt number), some (val tInt s5), some (val tInt root_6)] _ _ _ from (bk_whileN (eL := fun (s7 : Int × Int) => [some (val tInt number), some (val tInt s7.2), some (val tInt s7.1)]) (s0 := (root_6, s5)) 1000 (fgt_c (fgt_c (fgt_c fgt_0))) (fun s7 => (tx_e (ev_opp (ev_var (i := 1) (T := tInt) rfl) ev_int o2_cmp))) (fun s7 => (show BK _ [some (val tInt number), some (val tInt s7.2), some (val tInt s7.1)] _ _ _ from (bk_ifj (eJ := fun (s9 : Int) => [some (val tInt number), some (val tInt s7.2), some (val tInt s9)]) (tx_e (ev_opr (ev_opp (ev_opp (ev_var (i := 2) (T := tInt) rfl) (ev_var (i := 1) (T := tInt) rfl) o2_int0) ev_int o2_powW) (ev_var (i := 0) (T := tInt) rfl) fun _ => o2_cmp)) (show BK _ [some (val tInt number), some (val tInt s7.2), some (val tInt s7.1)] _ _ _ from (bk_asg (ev_opp (ev_var (i := 2) (T := tInt) rfl) (ev_var (i := 1) (T := tInt) rfl) o2_int0) fun root_10 => (show BK _ [some (val tInt number), some (val tInt s7.2), some (val tInt root_10)] _ _ _ from (bn_nx (a := root_10) (fgt_c (fgt_c (fgt_c fgt_0))))))) (show BK _ [some (val tInt number), some (val tInt s7.2), some (val tInt s7.1)] _ _ _ from (bn_nx (a := s7.1) (fgt_c (fgt_c (fgt_c fgt_0))))) fun s9 => (show BK _ [some (val tInt number), some (val tInt s7.2), some (val tInt s9)] _ _ _ from (bk_asg (ev_opp (ev_var (i := 1) (T := tInt) rfl) ev_int (o2_int (C := CDiv) ⟨by decide, by decide⟩)) fun step_11 => (show BK _ [some (val tInt number), some (val tInt step_11), some (val tInt s9)] _ _ _ from (bn_nx (a := (s9, step_11)) (fgt_c (fgt_c (fgt_c fgt_0)))))))))) fun s12 => (show BK _ [some (val tInt number), some (val tInt s12.2), some (val tInt s12.1)] _ _ _ from (br_ret (ev_var (i := 2) (T := tInt) rfl) fun _ => fgt_nil))))))))))
    (by unfold m_cube_root; first | (simp -implicitDefEqProofs only [Option.bind_some, Option.map_some, id_eq]; done) | (simp -implicitDefEqProofs only [Option.bind_some, Option.map_some, id_eq, Option.bind_assoc]; done))
/-! ### rise -/
abbrev s_rise : Stmt := topS 4
abbrev N_rise : List Str := ["mss", "distance"]
theorem sc_rise : FnScope N_rise ["mss", "distance"] (defScope s_rise) := ⟨rfl, rfl, rfl, by decide +kernel, rfl, by decide +kernel, by decide +kernel⟩
abbrev sp_rise (K : PySem.W.Frag) : Sp := spF (fun a : Int × Int => [vp tInt a.1, vp tInt a.2]) (fun a => m_rise a.1 a.2) (val tInt)
set_option maxHeartbeats 4000000 in
theorem ok_rise {P : Program} {w : World} {K : PySem.W.Frag} {mg : Str → Option Value} {base : Heap} {f : Addr} {fd : FuncData} (T : Txt K mg) (F : FunD K "rise" "rise" (defArgs s_rise) (defBody s_rise) (defScope s_rise) [] [] f fd)  : FnOk P w K mg base CX0 1 f fd ["mss", "distance"] (sp_rise K) := by
  refine F.ok sc_rise (fun vs H Q E h => spF_len h fun _ => rfl) (fun cdv A outer s H vs Q E hr h => ?_)
  refine ⟨_, PSs.nox (pss_one (ps_ret (pe_op op_fdivW (pe_op op_mulW (pv 0) (pe_op op_powW (pv 1) pe_int)) (pe_gint (by rfl) T.c_SCALE)))), ?_⟩
  refine run_F (eR := fun _ => []) h (fun _ => Nat.le_of_ble_eq_true rfl) rfl ?_
  rintro ⟨mss, distance⟩ F0 H0
  show BK _ [some (val tInt mss), some (val tInt distance)] _ (m_rise mss distance) _
  exact bk_eq
    (show BK _ [some (val tInt mss), some (val tInt distance)] _ _ _ from (br_ret (ev_opr (ev_opl (ev_var (i := 0) (T := tInt) rfl) (ev_opp (ev_var (i := 1) (T := tInt) rfl) ev_int o2_powW) fun _ => o2_mulW) ev_int fun _ => (o2_int (C := CDivW) ⟨by decide, by decide +kernel⟩)) fun _ => fgt_nil))
    (by unfold m_rise; first | (simp -implicitDefEqProofs only [Option.bind_some, Option.map_some, id_eq]; done) | (simp -implicitDefEqProofs only [Option.bind_some, Option.map_some, id_eq, Option.bind_assoc]; done))
/-! ### curve -/
abbrev s_curve : Stmt := topS 5
abbrev N_curve : List Str := ["mss", "origin", "turning", "at"]
theorem sc_curve : FnScope N_curve ["mss", "origin", "turning", "at"] (defScope s_curve) := ⟨rfl, rfl, rfl, by decide +kernel, rfl, by decide +kernel, by decide +kernel⟩
abbrev sp_curve (K : PySem.W.Frag) : Sp := spF (fun a : Int × Int × Int × Int => [vp tInt a.1, vp tInt a.2.1, vp tInt a.2.2.1, vp tInt a.2.2.2]) (fun a => m_curve a.1 a.2.1 a.2.2.1 a.2.2.2) (val tInt)
set_option maxHeartbeats 4000000 in
theorem ok_curve {P : Program} {w : World} {K : PySem.W.Frag} {mg : Str → Option Value} {base : Heap} {f : Addr} {fd : FuncData} (T : Txt K mg) (F : FunD K "curve" "curve" (defArgs s_curve) (defBody s_curve) (defScope s_curve) [] [] f fd) (C_rise : Cal P w K mg base 1 "rise" ["mss", "distance"] (sp_rise K)) : FnOk P w K mg base CX0 2 f fd ["mss", "origin", "turning", "at"] (sp_curve K) := by
  obtain ⟨f_rise, fd_rise, g_rise, k_rise, b_rise, G_rise⟩ := C_rise
  refine F.ok sc_curve (fun vs H Q E h => spF_len h fun _ => rfl) (fun cdv A outer s H vs Q E hr h => ?_)
  refine ⟨_, PSs.nox (pss_cons (ps_if (pt_cmpR op_le (pv 3) (pv 2) (nomark _))
       (pss_one (ps_ret (pe_callB (call_max2 rfl) (by rfl) T.b_max boot_max (pa_cons pe_int (pa_cons (pe_op op_sub (pv 1) (pe_call G_rise (hr.mono (by decide)) (by rfl) g_rise k_rise b_rise .nil pass0 (pa_cons (pv 0) (pa_cons (pe_op op_sub (pv 2) (pv 3)) pa_nil)))) pa_nil)))))
       pss_nil)
       (pss_one (ps_ret (pe_op op_add (pv 1) (pe_call G_rise (hr.mono (by decide)) (by rfl) g_rise k_rise b_rise .nil pass0 (pa_cons (pv 0) (pa_cons (pe_op op_sub (pv 3) (pv 2)) pa_nil))))))), ?_⟩
  refine run_F (eR := fun _ => []) h (fun _ => Nat.le_of_ble_eq_true rfl) rfl ?_
  rintro ⟨mss, origin, turning, at_⟩ F0 H0
  show BK _ [some (val tInt mss), some (val tInt origin), some (val tInt turning), some (val tInt at_)] _ (m_curve mss origin turning at_) _
  exact bk_eq
    (show BK _ [some (val tInt mss), some (val tInt origin), some (val tInt turning), some (val tInt at_)] _ _ _ from (br_ifr (tx_e (ev_opp (ev_var (i := 3) (T := tInt) rfl) (ev_var (i := 2) (T := tInt) rfl) o2_cmp)) (show BK _ [some (val tInt mss), some (val tInt origin), some (val tInt turning), some (val tInt at_)] _ _ _ from (br_ret (ev_cb2l ev_int (ev_opl (ev_var (i := 1) (T := tInt) rfl) (ev_call (ax_cons (ev_var (i := 0) (T := tInt) rfl) fun a15 => (ax_cons (ev_opp (ev_var (i := 2) (T := tInt) rfl) (ev_var (i := 3) (T := tInt) rfl) o2_int0) fun a16 => (ax_nil fun c h => ⟨⟨a15, a16⟩, rfl, h⟩)))) fun _ => o2_int0) fun _ => o2_max) fun _ => fgt_nil)) (show BK _ [some (val tInt mss), some (val tInt origin), some (val tInt turning), some (val tInt at_)] _ _ _ from (br_ret (ev_opl (ev_var (i := 1) (T := tInt) rfl) (ev_call (ax_cons (ev_var (i := 0) (T := tInt) rfl) fun a19 => (ax_cons (ev_opp (ev_var (i := 3) (T := tInt) rfl) (ev_var (i := 2) (T := tInt) rfl) o2_int0) fun a20 => (ax_nil fun c h => ⟨⟨a19, a20⟩, rfl, h⟩)))) fun _ => o2_int0) fun _ => fgt_nil))))
    (by unfold m_curve; first | (simp -implicitDefEqProofs only [Option.bind_some, Option.map_some, id_eq]; done) | (simp -implicitDefEqProofs only [Option.bind_some, Option.map_some, id_eq, Option.bind_assoc]; done))
/-! ### turning_time -/
abbrev s_turning_time : Stmt := topS 6
abbrev N_turning_time : List Str := ["mss", "depth"]
theorem sc_turning_time : FnScope N_turning_time ["mss", "depth"] (defScope s_turning_time) := ⟨rfl, rfl, rfl, by decide +kernel, rfl, by decide +kernel, by decide +kernel⟩
abbrev sp_turning_time (K : PySem.W.Frag) : Sp := spF (fun a : Int × Int => [vp tInt a.1, vp tInt a.2]) (fun a => m_turning_time a.1 a.2) (val tInt)
set_option maxHeartbeats 4000000 in
theorem ok_turning_time {P : Program} {w : World} {K : PySem.W.Frag} {mg : Str → Option Value} {base : Heap} {f : Addr} {fd : FuncData} (T : Txt K mg) (F : FunD K "turning_time" "turning_time" (defArgs s_turning_time) (defBody s_turning_time) (defScope s_turning_time) [] [] f fd) (C_cube_root : Cal P w K mg base 1 "cube_root" ["number"] (sp_cube_root K)) : FnOk P w K mg base CX0 2 f fd ["mss", "depth"] (sp_turning_time K) := by
  obtain ⟨f_cube_root, fd_cube_root, g_cube_root, k_cube_root, b_cube_root, G_cube_root⟩ := C_cube_root
  refine F.ok sc_turning_time (fun vs H Q E h => spF_len h fun _ => rfl) (fun cdv A outer s H vs Q E hr h => ?_)
  refine ⟨_, PSs.nox (pss_one (ps_ret (pe_call G_cube_root (hr.mono (by decide)) (by rfl) g_cube_root k_cube_root b_cube_root .nil pass0 (pa_cons (pe_op op_fdivW (pe_op op_mul (pv 1) (pe_gint (by rfl) T.c_SCALE)) (pv 0)) pa_nil)))), ?_⟩
  refine run_F (eR := fun _ => []) h (fun _ => Nat.le_of_ble_eq_true rfl) rfl ?_
  rintro ⟨mss, depth⟩ F0 H0
  show BK _ [some (val tInt mss), some (val tInt depth)] _ (m_turning_time mss depth) _
  exact bk_eq
    (show BK _ [some (val tInt mss), some (val tInt depth)] _ _ _ from (br_ret (ev_call (ax_cons (ev_opp (ev_opp (ev_var (i := 1) (T := tInt) rfl) ev_int (o2_int (C := CMul) (.inr ⟨by decide, by decide⟩))) (ev_var (i := 0) (T := tInt) rfl) o2_divW) fun a22 => (ax_nil fun c h => ⟨a22, rfl, h⟩))) fun _ => fgt_nil))
    (by unfold m_turning_time; first | (simp -implicitDefEqProofs only [Option.bind_some, Option.map_some, id_eq]; done) | (simp -implicitDefEqProofs only [Option.bind_some, Option.map_some, id_eq, Option.bind_assoc]; done))
/-! ### _law_is_integer -/
abbrev s__law_is_integer : Stmt := topS 8
abbrev N__law_is_integer : List Str := ["_law_actual"]
theorem sc__law_is_integer : FnScope N__law_is_integer ["_law_actual"] (defScope s__law_is_integer) := ⟨rfl, rfl, rfl, by decide +kernel, rfl, by decide +kernel, by decide +kernel⟩
abbrev sp__law_is_integer (K : PySem.W.Frag) : Sp := spF (fun a : Int => [vp tInt a]) (fun a => m__law_is_integer a) (val tBool)
set_option maxHeartbeats 4000000 in
theorem ok__law_is_integer {P : Program} {w : World} {K : PySem.W.Frag} {mg : Str → Option Value} {base : Heap} {f : Addr} {fd : FuncData} (T : Txt K mg) (F : FunD K "_law_is_integer" "_law_is_integer" (defArgs s__law_is_integer) (defBody s__law_is_integer) (defScope s__law_is_integer) [] [] f fd)  : FnOk P w K mg base CX0 1 f fd ["_law_actual"] (sp__law_is_integer K) := by
  refine F.ok sc__law_is_integer (fun vs H Q E h => spF_len h fun _ => rfl) (fun cdv A outer s H vs Q E hr h => ?_)
  refine ⟨_, PSs.nox (pss_one (ps_ret (pe_and (pe_callB (call_isiKK (K := K) rfl) (by rfl) T.b_isinstance boot_isinstance (pa_cons (pv 0) (pa_cons (pe_bltn (v := .ty "int") (by rfl) T.b_int boot_int rfl) pa_nil))) (pe_one (pe_not (pe_callB (call_isiKK (K := K) rfl) (by rfl) T.b_isinstance boot_isinstance (pa_cons (pv 0) (pa_cons (pe_bltn (v := .ty "bool") (by rfl) T.b_bool boot_bool rfl) pa_nil)))))))), ?_⟩
  refine run_F (eR := fun _ => []) h (fun _ => Nat.le_of_ble_eq_true rfl) rfl ?_
  rintro actual F0 H0
  show BK _ [some (val tInt actual)] _ (m__law_is_integer actual) _
  exact bk_eq
    (show BK _ [some (val tInt actual)] _ _ _ from (br_ret (ev_andp (ev_cb2p (ev_var (i := 0) (T := tInt) rfl) ev_ty (o2_is (b := true) ty_int (by decide +kernel))) (ev_notp (ev_cb2p (ev_var (i := 0) (T := tInt) rfl) ev_ty (o2_is (b := false) ty_int (by decide +kernel))))) fun _ => fgt_nil))
    (by unfold m__law_is_integer; first | (simp -implicitDefEqProofs only [Option.bind_some, Option.map_some, id_eq]; done) | (simp -implicitDefEqProofs only [Option.bind_some, Option.map_some, id_eq, Option.bind_assoc]; done))
/-! ### _law_cell -/
abbrev s__law_cell : Stmt := topS 9
abbrev N__law_cell : List Str := ["_law_script", "_law_k"]
theorem sc__law_cell : FnScope N__law_cell ["_law_script", "_law_k"] (defScope s__law_cell) := ⟨rfl, rfl, rfl, by decide +kernel, rfl, by decide +kernel, by decide +kernel⟩
abbrev sp__law_cell (K : PySem.W.Frag) : Sp := spF (fun a : (List Int) × Int => [vp (tS K tInt) a.1, vp tInt a.2]) (fun a => m__law_cell a.1 a.2) (val tInt)
set_option maxHeartbeats 4000000 in
theorem ok__law_cell {P : Program} {w : World} {K : PySem.W.Frag} {mg : Str → Option Value} {base : Heap} {f : Addr} {fd : FuncData} (T : Txt K mg) (F : FunD K "_law_cell" "_law_cell" (defArgs s__law_cell) (defBody s__law_cell) (defScope s__law_cell) [] [] f fd)  : FnOk P w K mg base CX0 1 f fd ["_law_script", "_law_k"] (sp__law_cell K) := by
  refine F.ok sc__law_cell (fun vs H Q E h => spF_len h fun _ => rfl) (fun cdv A outer s H vs Q E hr h => ?_)
  refine ⟨_, PSs.nox (pss_cons (ps_if (pt_cmpR op_lt (pv 1) (pe_callB (call_len_seqK (K := K) rfl) (by rfl) T.b_len boot_len (pa_cons (pv 0) pa_nil)) (nomark _))
       (pss_one (ps_ret (pe_ix (ix_listK (K := K) rfl) (pv 0) (pv 1) (fun _ _ => rfl))))
       pss_nil)
       (pss_one (ps_ret pe_int))), ?_⟩
  refine run_F (eR := fun _ => []) h (fun _ => Nat.le_of_ble_eq_true rfl) rfl ?_
  rintro ⟨script, k⟩ F0 H0
  show BK _ [some (val (tS K tInt) script), some (val tInt k)] _ (m__law_cell script k) _
  exact bk_eq
    (show BK _ [some (val (tS K tInt) script), some (val tInt k)] _ _ _ from (br_ifr (tx_e (ev_opp (ev_var (i := 1) (T := tInt) rfl) (ev_cb1p (ev_var (i := 0) (T := (tS K tInt)) rfl) o1_lenS) o2_cmp)) (show BK _ [some (val (tS K tInt) script), some (val tInt k)] _ _ _ from (br_ret (ev_opp (ev_var (i := 0) (T := (tS K tInt)) rfl) (ev_var (i := 1) (T := tInt) rfl) o2_ixS) fun _ => fgt_nil)) (show BK _ [some (val (tS K tInt) script), some (val tInt k)] _ _ _ from (br_ret ev_int fun _ => fgt_nil))))
    (by unfold m__law_cell; first | (simp -implicitDefEqProofs only [Option.bind_some, Option.map_some, id_eq]; done) | (simp -implicitDefEqProofs only [Option.bind_some, Option.map_some, id_eq, Option.bind_assoc]; done))
/-! ### _law_is_root -/
abbrev s__law_is_root : Stmt := topS 10
abbrev N__law_is_root : List Str := ["_law_actual", "_law_number"]
theorem sc__law_is_root : FnScope N__law_is_root ["_law_actual", "_law_number"] (defScope s__law_is_root) := ⟨rfl, rfl, rfl, by decide +kernel, rfl, by decide +kernel, by decide +kernel⟩
abbrev sp__law_is_root (K : PySem.W.Frag) : Sp := spF (fun a : Int × Int => [vp tInt a.1, vp tInt a.2]) (fun a => m__law_is_root a.1 a.2) (val tBool)
set_option maxHeartbeats 4000000 in
theorem ok__law_is_root {P : Program} {w : World} {K : PySem.W.Frag} {mg : Str → Option Value} {base : Heap} {f : Addr} {fd : FuncData} (T : Txt K mg) (F : FunD K "_law_is_root" "_law_is_root" (defArgs s__law_is_root) (defBody s__law_is_root) (defScope s__law_is_root) [] [] f fd) (C__law_is_integer : Cal P w K mg base 1 "_law_is_integer" ["_law_actual"] (sp__law_is_integer K)) : FnOk P w K mg base CX0 2 f fd ["_law_actual", "_law_number"] (sp__law_is_root K) := by
  obtain ⟨f__law_is_integer, fd__law_is_integer, g__law_is_integer, k__law_is_integer, b__law_is_integer, G__law_is_integer⟩ := C__law_is_integer
  refine F.ok sc__law_is_root (fun vs H Q E h => spF_len h fun _ => rfl) (fun cdv A outer s H vs Q E hr h => ?_)
  refine ⟨_, PSs.nox (pss_cons (ps_if (PW.pt (pw_or (pt_not (pt_val (pe_call G__law_is_integer (hr.mono (by decide)) (by rfl) g__law_is_integer k__law_is_integer b__law_is_integer .nil pass0 (pa_cons (pv 0) pa_nil)))) (pw_or1 (pt_cmpR op_lt (pv 0) pe_int (nomark _)))))
       (pss_one (ps_ret pe_bl))
       pss_nil)
       (pss_one (ps_ret (pe_chain op_le op_lt (pe_op op_mulW (pe_op op_mulW (pv 0) (pv 0)) (pv 0)) (pv 1) (pe_op op_mulW (pe_op op_mulW (pe_op op_add (pv 0) pe_int) (pe_op op_add (pv 0) pe_int)) (pe_op op_add (pv 0) pe_int)))))), ?_⟩
  refine run_F (eR := fun _ => []) h (fun _ => Nat.le_of_ble_eq_true rfl) rfl ?_
  rintro ⟨actual, number⟩ F0 H0
  show BK _ [some (val tInt actual), some (val tInt number)] _ (m__law_is_root actual number) _
  exact bk_eq
    (show BK _ [some (val tInt actual), some (val tInt number)] _ _ _ from (br_ifr (tx_or (tx_not (tx_b (ev_call (ax_cons (ev_var (i := 0) (T := tInt) rfl) fun a24 => (ax_nil fun c h => ⟨a24, rfl, h⟩))))) (tx_e (ev_opp (ev_var (i := 0) (T := tInt) rfl) ev_int o2_cmp))) (show BK _ [some (val tInt actual), some (val tInt number)] _ _ _ from (br_ret ev_bl fun _ => fgt_nil)) (show BK _ [some (val tInt actual), some (val tInt number)] _ _ _ from (br_ret (ev_chain (ev_opr (ev_opp (ev_var (i := 0) (T := tInt) rfl) (ev_var (i := 0) (T := tInt) rfl) o2_mulW) (ev_var (i := 0) (T := tInt) rfl) fun _ => o2_mulW) (ev_var (i := 1) (T := tInt) rfl) (ev_opr (ev_opp (ev_opp (ev_var (i := 0) (T := tInt) rfl) ev_int o2_int0) (ev_opp (ev_var (i := 0) (T := tInt) rfl) ev_int o2_int0) o2_mulW) (ev_opp (ev_var (i := 0) (T := tInt) rfl) ev_int o2_int0) fun _ => o2_mulW) (fun _ _ => o2_cmp) (fun _ _ => o2_cmp)) fun _ => fgt_nil))))
    (by unfold m__law_is_root; first | (simp -implicitDefEqProofs only [Option.bind_some, Option.map_some, id_eq]; done) | (simp -implicitDefEqProofs only [Option.bind_some, Option.map_some, id_eq, Option.bind_assoc]; done))
/-! ### _law_curve -/
abbrev s__law_curve : Stmt := topS 11
abbrev N__law_curve : List Str := ["_law_mss", "_law_origin", "_law_turning", "_law_at", "_law_away", "_law_rise"]
theorem sc__law_curve : FnScope N__law_curve ["_law_mss", "_law_origin", "_law_turning", "_law_at"] (defScope s__law_curve) := ⟨rfl, rfl, rfl, by decide +kernel, rfl, by decide +kernel, by decide +kernel⟩
abbrev sp__law_curve (K : PySem.W.Frag) : Sp := spF (fun a : Int × Int × Int × Int => [vp tInt a.1, vp tInt a.2.1, vp tInt a.2.2.1, vp tInt a.2.2.2]) (fun a => m__law_curve a.1 a.2.1 a.2.2.1 a.2.2.2) (val tInt)
set_option maxHeartbeats 4000000 in
theorem ok__law_curve {P : Program} {w : World} {K : PySem.W.Frag} {mg : Str → Option Value} {base : Heap} {f : Addr} {fd : FuncData} (T : Txt K mg) (F : FunD K "_law_curve" "_law_curve" (defArgs s__law_curve) (defBody s__law_curve) (defScope s__law_curve) [] [] f fd)  : FnOk P w K mg base CX0 1 f fd ["_law_mss", "_law_origin", "_law_turning", "_law_at"] (sp__law_curve K) := by
  refine F.ok sc__law_curve (fun vs H Q E h => spF_len h fun _ => rfl) (fun cdv A outer s H vs Q E hr h => ?_)
  refine ⟨_, PSs.nox (pss_cons (ps_set (i := 4) sc__law_curve.nd rfl (.inl rfl) (pe_callB call_abs (by rfl) T.b_abs boot_abs (pa_cons (pe_op op_sub (pv 3) (pv 2)) pa_nil)))
       (pss_cons (ps_set (i := 5) sc__law_curve.nd rfl (.inl rfl) (pe_op op_fdivW (pe_op op_mulW (pe_op op_mulW (pe_op op_mulW (pv 0) (pv 4)) (pv 4)) (pv 4)) pe_int))
       (pss_cons (ps_if (pt_cmpR op_le (pv 3) (pv 2) (nomark _))
       (pss_one (ps_ret (pe_callB (call_max2 rfl) (by rfl) T.b_max boot_max (pa_cons pe_int (pa_cons (pe_op op_sub (pv 1) (pv 5)) pa_nil)))))
       pss_nil)
       (pss_one (ps_ret (pe_op op_add (pv 1) (pv 5))))))), ?_⟩
  refine run_F (eR := fun _ => []) h (fun _ => Nat.le_of_ble_eq_true rfl) rfl ?_
  rintro ⟨mss, origin, turning, at_⟩ F0 H0
  show BK _ [some (val tInt mss), some (val tInt origin), some (val tInt turning), some (val tInt at_), none, none] _ (m__law_curve mss origin turning at_) _
  exact bk_eq
    (show BK _ [some (val tInt mss), some (val tInt origin), some (val tInt turning), some (val tInt at_), none, none] _ _ _ from (bk_asg (ev_cb1p (ev_opp (ev_var (i := 3) (T := tInt) rfl) (ev_var (i := 2) (T := tInt) rfl) o2_int0) o1_abs) fun away_31 => (show BK _ [some (val tInt mss), some (val tInt origin), some (val tInt turning), some (val tInt at_), some (val tInt away_31), none] _ _ _ from (bk_asg (ev_opr (ev_opr (ev_opr (ev_opp (ev_var (i := 0) (T := tInt) rfl) (ev_var (i := 4) (T := tInt) rfl) o2_mulW) (ev_var (i := 4) (T := tInt) rfl) fun _ => o2_mulW) (ev_var (i := 4) (T := tInt) rfl) fun _ => o2_mulW) ev_int fun _ => (o2_int (C := CDivW) ⟨by decide, by decide +kernel⟩)) fun rise_35 => (show BK _ [some (val tInt mss), some (val tInt origin), some (val tInt turning), some (val tInt at_), some (val tInt away_31), some (val tInt rise_35)] _ _ _ from (br_ifr (tx_e (ev_opp (ev_var (i := 3) (T := tInt) rfl) (ev_var (i := 2) (T := tInt) rfl) o2_cmp)) (show BK _ [some (val tInt mss), some (val tInt origin), some (val tInt turning), some (val tInt at_), some (val tInt away_31), some (val tInt rise_35)] _ _ _ from (br_ret (ev_cb2p ev_int (ev_opp (ev_var (i := 1) (T := tInt) rfl) (ev_var (i := 5) (T := tInt) rfl) o2_int0) o2_max) fun _ => fgt_nil)) (show BK _ [some (val tInt mss), some (val tInt origin), some (val tInt turning), some (val tInt at_), some (val tInt away_31), some (val tInt rise_35)] _ _ _ from (br_ret (ev_opp (ev_var (i := 1) (T := tInt) rfl) (ev_var (i := 5) (T := tInt) rfl) o2_int0) fun _ => fgt_nil))))))))
    (by unfold m__law_curve; first | (simp -implicitDefEqProofs only [Option.bind_some, Option.map_some, id_eq]; done) | (simp -implicitDefEqProofs only [Option.bind_some, Option.map_some, id_eq, Option.bind_assoc]; done))
/-! ### law -/
abbrev s_law : Stmt := topS 12
abbrev N_law : List Str := ["_law_script", "_law_root", "_law_number", "_law_length", "_law_origin", "_law_depth", "_law_turning", "_law_time", "_law_times", "_law_at", "_law_value"]
theorem sc_law : FnScope N_law ["_law_script"] (defScope s_law) := ⟨rfl, rfl, rfl, by decide +kernel, rfl, by decide +kernel, by decide +kernel⟩
abbrev sp_law (K : PySem.W.Frag) : Sp := spF (fun a : (List Int) => [vp (tS K tInt) a]) (fun a => m_law a) (val tBool)
set_option maxHeartbeats 4000000 in
theorem ok_law {P : Program} {w : World} {K : PySem.W.Frag} {mg : Str → Option Value} {base : Heap} {f : Addr} {fd : FuncData} (T : Txt K mg) (F : FunD K "law" "law" (defArgs s_law) (defBody s_law) (defScope s_law) [] [] f fd) (C_cube_root : Cal P w K mg base 1 "cube_root" ["number"] (sp_cube_root K)) (C_curve : Cal P w K mg base 2 "curve" ["mss", "origin", "turning", "at"] (sp_curve K)) (C_turning_time : Cal P w K mg base 2 "turning_time" ["mss", "depth"] (sp_turning_time K)) (C__law_is_integer : Cal P w K mg base 1 "_law_is_integer" ["_law_actual"] (sp__law_is_integer K)) (C__law_cell : Cal P w K mg base 1 "_law_cell" ["_law_script", "_law_k"] (sp__law_cell K)) (C__law_is_root : Cal P w K mg base 2 "_law_is_root" ["_law_actual", "_law_number"] (sp__law_is_root K)) (C__law_curve : Cal P w K mg base 1 "_law_curve" ["_law_mss", "_law_origin", "_law_turning", "_law_at"] (sp__law_curve K)) : FnOk P w K mg base CX0 3 f fd ["_law_script"] (sp_law K) := by
  obtain ⟨f_cube_root, fd_cube_root, g_cube_root, k_cube_root, b_cube_root, G_cube_root⟩ := C_cube_root
  obtain ⟨f_curve, fd_curve, g_curve, k_curve, b_curve, G_curve⟩ := C_curve
  obtain ⟨f_turning_time, fd_turning_time, g_turning_time, k_turning_time, b_turning_time, G_turning_time⟩ := C_turning_time
  obtain ⟨f__law_is_integer, fd__law_is_integer, g__law_is_integer, k__law_is_integer, b__law_is_integer, G__law_is_integer⟩ := C__law_is_integer
  obtain ⟨f__law_cell, fd__law_cell, g__law_cell, k__law_cell, b__law_cell, G__law_cell⟩ := C__law_cell
  obtain ⟨f__law_is_root, fd__law_is_root, g__law_is_root, k__law_is_root, b__law_is_root, G__law_is_root⟩ := C__law_is_root
  obtain ⟨f__law_curve, fd__law_curve, g__law_curve, k__law_curve, b__law_curve, G__law_curve⟩ := C__law_curve
  refine F.ok sc_law (fun vs H Q E h => spF_len h fun _ => rfl) (fun cdv A outer s H vs Q E hr h => ?_)
  refine ⟨_, PSs.nox (pss_cons (ps_set (i := 1) sc_law.nd rfl (.inl rfl) (pe_op op_mod (pe_op op_fdiv (pe_callTy call_int1 (by rfl) T.b_int boot_int (pa_cons (pe_call G__law_cell (hr.mono (by decide)) (by rfl) g__law_cell k__law_cell b__law_cell .nil pass0 (pa_cons (pv 0) (pa_cons pe_int pa_nil))) pa_nil)) pe_int) (pe_op op_pow pe_int pe_int)))
       (pss_cons (ps_set (i := 2) sc_law.nd rfl (.inl rfl) (pe_op op_mod (pe_op op_fdiv (pe_callTy call_int1 (by rfl) T.b_int boot_int (pa_cons (pe_call G__law_cell (hr.mono (by decide)) (by rfl) g__law_cell k__law_cell b__law_cell .nil pass0 (pa_cons (pv 0) (pa_cons pe_int pa_nil))) pa_nil)) pe_int) (pe_op op_add (pe_op op_pow pe_int pe_int) pe_int)))
       (pss_cons (ps_if (pt_cmpR op_eq (pe_op op_mod (pe_callTy call_int1 (by rfl) T.b_int boot_int (pa_cons (pe_call G__law_cell (hr.mono (by decide)) (by rfl) g__law_cell k__law_cell b__law_cell .nil pass0 (pa_cons (pv 0) (pa_cons pe_int pa_nil))) pa_nil)) pe_int) pe_int (nomark _))
       (pss_cons (ps_set (i := 2) sc_law.nd rfl (.inl rfl) (pe_callB (call_max2 rfl) (by rfl) T.b_max boot_max (pa_cons pe_int (pa_cons (pe_op op_sub (pe_op op_add (pe_op op_mulW (pe_op op_mulW (pv 1) (pv 1)) (pv 1)) (pe_op op_mod (pe_callTy call_int1 (by rfl) T.b_int boot_int (pa_cons (pe_call G__law_cell (hr.mono (by decide)) (by rfl) g__law_cell k__law_cell b__law_cell .nil pass0 (pa_cons (pv 0) (pa_cons pe_int pa_nil))) pa_nil)) pe_int)) pe_int) pa_nil))))
       pss_nil)
       pss_nil)
       (pss_cons (ps_if (pt_not (pt_val (pe_call G__law_is_root (hr.mono (by decide)) (by rfl) g__law_is_root k__law_is_root b__law_is_root .nil pass0 (pa_cons (pe_call G_cube_root (hr.mono (by decide)) (by rfl) g_cube_root k_cube_root b_cube_root .nil pass0 (pa_cons (pv 2) pa_nil)) (pa_cons (pv 2) pa_nil)))))
       (pss_one (ps_ret pe_bl))
       pss_nil)
       (pss_cons (ps_set (i := 3) sc_law.nd rfl (.inl rfl) (pe_op op_add pe_int (pe_op op_mod (pe_callTy call_int1 (by rfl) T.b_int boot_int (pa_cons (pe_call G__law_cell (hr.mono (by decide)) (by rfl) g__law_cell k__law_cell b__law_cell .nil pass0 (pa_cons (pv 0) (pa_cons pe_int pa_nil))) pa_nil)) pe_int)))
       (pss_cons (ps_set (i := 4) sc_law.nd rfl (.inl rfl) (pe_op op_mod (pe_callTy call_int1 (by rfl) T.b_int boot_int (pa_cons (pe_call G__law_cell (hr.mono (by decide)) (by rfl) g__law_cell k__law_cell b__law_cell .nil pass0 (pa_cons (pv 0) (pa_cons pe_int pa_nil))) pa_nil)) pe_int))
       (pss_cons (ps_set (i := 5) sc_law.nd rfl (.inl rfl) (pe_op op_mod (pe_callTy call_int1 (by rfl) T.b_int boot_int (pa_cons (pe_call G__law_cell (hr.mono (by decide)) (by rfl) g__law_cell k__law_cell b__law_cell .nil pass0 (pa_cons (pv 0) (pa_cons pe_int pa_nil))) pa_nil)) pe_int))
       (pss_cons (ps_set (i := 6) sc_law.nd rfl (.inl rfl) (pe_op op_mod (pe_callTy call_int1 (by rfl) T.b_int boot_int (pa_cons (pe_call G__law_cell (hr.mono (by decide)) (by rfl) g__law_cell k__law_cell b__law_cell .nil pass0 (pa_cons (pv 0) (pa_cons pe_int pa_nil))) pa_nil)) pe_int))
       (pss_cons (ps_set (i := 7) sc_law.nd rfl (.inl rfl) (pe_call G_turning_time (hr.mono (by decide)) (by rfl) g_turning_time k_turning_time b_turning_time .nil pass0 (pa_cons (pv 3) (pa_cons (pv 5) pa_nil))))
       (pss_cons (ps_if (pt_not (pt_val (pe_call G__law_is_root (hr.mono (by decide)) (by rfl) g__law_is_root k__law_is_root b__law_is_root .nil pass0 (pa_cons (pv 7) (pa_cons (pe_op op_fdivW (pe_op op_mul (pv 5) pe_int) (pv 3)) pa_nil)))))
       (pss_one (ps_ret pe_bl))
       pss_nil)
       (pss_cons (ps_set (i := 8) sc_law.nd rfl (.inl rfl) (pe_lst (pa_cons (pe_op op_mod (pe_callTy call_int1 (by rfl) T.b_int boot_int (pa_cons (pe_call G__law_cell (hr.mono (by decide)) (by rfl) g__law_cell k__law_cell b__law_cell .nil pass0 (pa_cons (pv 0) (pa_cons pe_int pa_nil))) pa_nil)) (pe_op op_add (pe_op op_pow pe_int pe_int) pe_int)) (pa_cons (pe_op op_mod (pe_callTy call_int1 (by rfl) T.b_int boot_int (pa_cons (pe_call G__law_cell (hr.mono (by decide)) (by rfl) g__law_cell k__law_cell b__law_cell .nil pass0 (pa_cons (pv 0) (pa_cons pe_int pa_nil))) pa_nil)) (pe_op op_add (pe_op op_pow pe_int pe_int) pe_int)) pa_nil))))
       (pss_cons (ps_if (pt_cmpR op_eq (pe_op op_mod (pe_op op_fdiv (pe_callTy call_int1 (by rfl) T.b_int boot_int (pa_cons (pe_call G__law_cell (hr.mono (by decide)) (by rfl) g__law_cell k__law_cell b__law_cell .nil pass0 (pa_cons (pv 0) (pa_cons pe_int pa_nil))) pa_nil)) pe_int) pe_int) pe_int (nomark _))
       (pss_cons (ps_set (i := 8) sc_law.nd rfl (.inl rfl) (pe_lst (pa_cons (pe_op op_mod (pe_callTy call_int1 (by rfl) T.b_int boot_int (pa_cons (pe_call G__law_cell (hr.mono (by decide)) (by rfl) g__law_cell k__law_cell b__law_cell .nil pass0 (pa_cons (pv 0) (pa_cons pe_int pa_nil))) pa_nil)) (pe_op op_add (pe_op op_mul pe_int (pv 6)) pe_int)) (pa_cons (pe_op op_mod (pe_callTy call_int1 (by rfl) T.b_int boot_int (pa_cons (pe_call G__law_cell (hr.mono (by decide)) (by rfl) g__law_cell k__law_cell b__law_cell .nil pass0 (pa_cons (pv 0) (pa_cons pe_int pa_nil))) pa_nil)) (pe_op op_add (pe_op op_mul pe_int (pv 6)) pe_int)) pa_nil))))
       pss_nil)
       pss_nil)
       (pss_cons (ps_set (i := 8) sc_law.nd rfl (.inl rfl) (pe_callB (cr_sortedIK (K := K) rfl) (by rfl) T.b_sorted boot_sorted (pa_cons (pv 8) pa_nil)))
       (pss_cons (ps_for PassesOwn.never rfl (pi_listK (K := K) rfl (pe_op op_cat (pv 8) (pe_lst (pa_cons (pv 6) (pa_cons (pe_op op_add (pv 6) pe_int) (pa_cons pe_int pa_nil)))))) (pg_name (i := 9) sc_law.nd rfl (.inl rfl))
       (pss_cons (ps_set (i := 10) sc_law.nd rfl (.inl rfl) (pe_call G_curve (hr.mono (by decide)) (by rfl) g_curve k_curve b_curve .nil pass0 (pa_cons (pv 3) (pa_cons (pv 4) (pa_cons (pv 6) (pa_cons (pv 9) pa_nil))))))
       (pss_one (ps_if (PW.pt (pw_or (pt_not (pt_val (pe_call G__law_is_integer (hr.mono (by decide)) (by rfl) g__law_is_integer k__law_is_integer b__law_is_integer .nil pass0 (pa_cons (pv 10) pa_nil)))) (pw_or1 (pt_cmpR op_ne (pv 10) (pe_call G__law_curve (hr.mono (by decide)) (by rfl) g__law_curve k__law_curve b__law_curve .nil pass0 (pa_cons (pv 3) (pa_cons (pv 4) (pa_cons (pv 6) (pa_cons (pv 9) pa_nil))))) (nomark _)))))
       (pss_one (ps_ret pe_bl))
       pss_nil))))
       (pss_cons (ps_if (pt_cmpR op_gt (pe_call G_curve (hr.mono (by decide)) (by rfl) g_curve k_curve b_curve .nil pass0 (pa_cons (pv 3) (pa_cons (pv 4) (pa_cons (pv 6) (pa_cons (pe_ix (ix_listK (K := K) rfl) (pv 8) pe_int (fun _ _ => rfl)) pa_nil))))) (pe_call G_curve (hr.mono (by decide)) (by rfl) g_curve k_curve b_curve .nil pass0 (pa_cons (pv 3) (pa_cons (pv 4) (pa_cons (pv 6) (pa_cons (pe_ix (ix_listK (K := K) rfl) (pv 8) pe_int (fun _ _ => rfl)) pa_nil))))) (nomark _))
       (pss_one (ps_ret pe_bl))
       pss_nil)
       (pss_cons (ps_if (pt_cmpR op_ne (pe_call G_curve (hr.mono (by decide)) (by rfl) g_curve k_curve b_curve .nil pass0 (pa_cons (pv 3) (pa_cons (pv 4) (pa_cons (pv 6) (pa_cons (pv 6) pa_nil))))) (pv 4) (nomark _))
       (pss_one (ps_ret pe_bl))
       pss_nil)
       (pss_one (ps_ret (pe_cmpR op_ge (pe_call G_curve (hr.mono (by decide)) (by rfl) g_curve k_curve b_curve .nil pass0 (pa_cons (pv 3) (pa_cons (pv 4) (pa_cons (pv 7) (pa_cons pe_int pa_nil))))) (pe_callB (call_max2 rfl) (by rfl) T.b_max boot_max (pa_cons pe_int (pa_cons (pe_op op_sub (pv 4) (pv 5)) pa_nil))) (nomark _)))))))))))))))))))), ?_⟩
  refine run_F (eR := fun _ => []) h (fun _ => Nat.le_of_ble_eq_true rfl) rfl ?_
  rintro script F0 H0
  show BK _ [some (val (tS K tInt) script), none, none, none, none, none, none, none, none, none, none] _ (m_law script) _
  exact bk_eq
    (show BK _ [some (val (tS K tInt) script), none, none, none, none, none, none, none, none, none, none] _ _ _ from (bk_asg (ev_opr (ev_opr (ev_cb1 (ev_call (ax_cons (ev_var (i := 0) (T := (tS K tInt)) rfl) fun a36 => (ax_cons ev_int fun a37 => (ax_nil fun c h => ⟨⟨a36, a37⟩, rfl, h⟩)))) fun _ => o1_int) ev_int fun _ => (o2_int (C := CDiv) ⟨by decide, by decide⟩)) (ev_opp ev_int ev_int (o2_int (C := CPow) ⟨by decide, by decide, by decide⟩)) fun _ => (o2_int (C := fun _ j => 0 < j) (by decide))) fun root_41 => (show BK _ [some (val (tS K tInt) script), some (val tInt root_41), none, none, none, none, none, none, none, none, none] _ _ _ from (bk_asg (ev_opr (ev_opr (ev_cb1 (ev_call (ax_cons (ev_var (i := 0) (T := (tS K tInt)) rfl) fun a42 => (ax_cons ev_int fun a43 => (ax_nil fun c h => ⟨⟨a42, a43⟩, rfl, h⟩)))) fun _ => o1_int) ev_int fun _ => (o2_int (C := CDiv) ⟨by decide, by decide⟩)) (ev_opp (ev_opp ev_int ev_int (o2_int (C := CPow) ⟨by decide, by decide, by decide⟩)) ev_int o2_int0) fun _ => (o2_int (C := fun _ j => 0 < j) (by decide))) fun number_47 => (show BK _ [some (val (tS K tInt) script), some (val tInt root_41), some (val tInt number_47), none, none, none, none, none, none, none, none] _ _ _ from (bk_ifj (eJ := fun (s53 : Int) => [some (val (tS K tInt) script), some (val tInt root_41), some (val tInt s53), none, none, none, none, none, none, none, none]) (tx_e (ev_opr (ev_opr (ev_cb1 (ev_call (ax_cons (ev_var (i := 0) (T := (tS K tInt)) rfl) fun a48 => (ax_cons ev_int fun a49 => (ax_nil fun c h => ⟨⟨a48, a49⟩, rfl, h⟩)))) fun _ => o1_int) ev_int fun _ => (o2_int (C := fun _ j => 0 < j) (by decide))) ev_int fun _ => o2_eqI)) (show BK _ [some (val (tS K tInt) script), some (val tInt root_41), some (val tInt number_47), none, none, none, none, none, none, none, none] _ _ _ from (bk_asg (ev_cb2l ev_int (ev_opr (ev_opm (ev_opr (ev_opp (ev_var (i := 1) (T := tInt) rfl) (ev_var (i := 1) (T := tInt) rfl) o2_mulW) (ev_var (i := 1) (T := tInt) rfl) fun _ => o2_mulW) (ev_opr (ev_cb1 (ev_call (ax_cons (ev_var (i := 0) (T := (tS K tInt)) rfl) fun a55 => (ax_cons ev_int fun a56 => (ax_nil fun c h => ⟨⟨a55, a56⟩, rfl, h⟩)))) fun _ => o1_int) ev_int fun _ => (o2_int (C := fun _ j => 0 < j) (by decide))) fun _ _ => o2_int0) ev_int fun _ => o2_int0) fun _ => o2_max) fun number_63 => (show BK _ [some (val (tS K tInt) script), some (val tInt root_41), some (val tInt number_63), none, none, none, none, none, none, none, none] _ _ _ from (bn_nx (a := number_63) (fgt_c (fgt_c (fgt_c (fgt_n (fgt_n (fgt_n (fgt_n (fgt_n (fgt_n (fgt_n (fgt_n fgt_0))))))))))))))) (show BK _ [some (val (tS K tInt) script), some (val tInt root_41), some (val tInt number_47), none, none, none, none, none, none, none, none] _ _ _ from (bn_nx (a := number_47) (fgt_c (fgt_c (fgt_c (fgt_n (fgt_n (fgt_n (fgt_n (fgt_n (fgt_n (fgt_n (fgt_n fgt_0))))))))))))) fun s53 => (show BK _ [some (val (tS K tInt) script), some (val tInt root_41), some (val tInt s53), none, none, none, none, none, none, none, none] _ _ _ from (br_ifr (tx_not (tx_b (ev_call (ax_cons (ev_call (ax_cons (ev_var (i := 2) (T := tInt) rfl) fun a64 => (ax_nil fun c h => ⟨a64, rfl, h⟩))) fun a65 => (ax_cons (ev_var (i := 2) (T := tInt) rfl) fun a66 => (ax_nil fun c h => ⟨⟨a65, a66⟩, rfl, h⟩)))))) (show BK _ [some (val (tS K tInt) script), some (val tInt root_41), some (val tInt s53), none, none, none, none, none, none, none, none] _ _ _ from (br_ret ev_bl fun _ => fgt_nil)) (show BK _ [some (val (tS K tInt) script), some (val tInt root_41), some (val tInt s53), none, none, none, none, none, none, none, none] _ _ _ from (bk_asg (ev_opl ev_int (ev_opr (ev_cb1 (ev_call (ax_cons (ev_var (i := 0) (T := (tS K tInt)) rfl) fun a69 => (ax_cons ev_int fun a70 => (ax_nil fun c h => ⟨⟨a69, a70⟩, rfl, h⟩)))) fun _ => o1_int) ev_int fun _ => (o2_int (C := fun _ j => 0 < j) (by decide))) fun _ => o2_int0) fun length_74 => (show BK _ [some (val (tS K tInt) script), some (val tInt root_41), some (val tInt s53), some (val tInt length_74), none, none, none, none, none, none, none] _ _ _ from (bk_asg (ev_opr (ev_cb1 (ev_call (ax_cons (ev_var (i := 0) (T := (tS K tInt)) rfl) fun a75 => (ax_cons ev_int fun a76 => (ax_nil fun c h => ⟨⟨a75, a76⟩, rfl, h⟩)))) fun _ => o1_int) ev_int fun _ => (o2_int (C := fun _ j => 0 < j) (by decide))) fun origin_79 => (show BK _ [some (val (tS K tInt) script), some (val tInt root_41), some (val tInt s53), some (val tInt length_74), some (val tInt origin_79), none, none, none, none, none, none] _ _ _ from (bk_asg (ev_opr (ev_cb1 (ev_call (ax_cons (ev_var (i := 0) (T := (tS K tInt)) rfl) fun a80 => (ax_cons ev_int fun a81 => (ax_nil fun c h => ⟨⟨a80, a81⟩, rfl, h⟩)))) fun _ => o1_int) ev_int fun _ => (o2_int (C := fun _ j => 0 < j) (by decide))) fun depth_84 => (show BK _ [some (val (tS K tInt) script), some (val tInt root_41), some (val tInt s53), some (val tInt length_74), some (val tInt origin_79), some (val tInt depth_84), none, none, none, none, none] _ _ _ from (bk_asg (ev_opr (ev_cb1 (ev_call (ax_cons (ev_var (i := 0) (T := (tS K tInt)) rfl) fun a85 => (ax_cons ev_int fun a86 => (ax_nil fun c h => ⟨⟨a85, a86⟩, rfl, h⟩)))) fun _ => o1_int) ev_int fun _ => (o2_int (C := fun _ j => 0 < j) (by decide))) fun turning_89 => (show BK _ [some (val (tS K tInt) script), some (val tInt root_41), some (val tInt s53), some (val tInt length_74), some (val tInt origin_79), some (val tInt depth_84), some (val tInt turning_89), none, none, none, none] _ _ _ from (bk_asg (ev_call (ax_cons (ev_var (i := 3) (T := tInt) rfl) fun a90 => (ax_cons (ev_var (i := 5) (T := tInt) rfl) fun a91 => (ax_nil fun c h => ⟨⟨a90, a91⟩, rfl, h⟩)))) fun time_92 => (show BK _ [some (val (tS K tInt) script), some (val tInt root_41), some (val tInt s53), some (val tInt length_74), some (val tInt origin_79), some (val tInt depth_84), some (val tInt turning_89), some (val tInt time_92), none, none, none] _ _ _ from (br_ifr (tx_not (tx_b (ev_call (ax_cons (ev_var (i := 7) (T := tInt) rfl) fun a93 => (ax_cons (ev_opp (ev_opp (ev_var (i := 5) (T := tInt) rfl) ev_int (o2_int (C := CMul) (.inr ⟨by decide, by decide⟩))) (ev_var (i := 3) (T := tInt) rfl) o2_divW) fun a94 => (ax_nil fun c h => ⟨⟨a93, a94⟩, rfl, h⟩)))))) (show BK _ [some (val (tS K tInt) script), some (val tInt root_41), some (val tInt s53), some (val tInt length_74), some (val tInt origin_79), some (val tInt depth_84), some (val tInt turning_89), some (val tInt time_92), none, none, none] _ _ _ from (br_ret ev_bl fun _ => fgt_nil)) (show BK _ [some (val (tS K tInt) script), some (val tInt root_41), some (val tInt s53), some (val tInt length_74), some (val tInt origin_79), some (val tInt depth_84), some (val tInt turning_89), some (val tInt time_92), none, none, none] _ _ _ from (bk_asg (ev_frz (ev_lst (T := tInt) (ax_cons (ev_opr (ev_cb1 (ev_call (ax_cons (ev_var (i := 0) (T := (tS K tInt)) rfl) fun a97 => (ax_cons ev_int fun a98 => (ax_nil fun c h => ⟨⟨a97, a98⟩, rfl, h⟩)))) fun _ => o1_int) (ev_opp (ev_opp ev_int ev_int (o2_int (C := CPow) ⟨by decide, by decide, by decide⟩)) ev_int o2_int0) fun _ => (o2_int (C := fun _ j => 0 < j) (by decide))) fun a105 => (ax_cons (ev_opr (ev_cb1 (ev_call (ax_cons (ev_var (i := 0) (T := (tS K tInt)) rfl) fun a101 => (ax_cons ev_int fun a102 => (ax_nil fun c h => ⟨⟨a101, a102⟩, rfl, h⟩)))) fun _ => o1_int) (ev_opp (ev_opp ev_int ev_int (o2_int (C := CPow) ⟨by decide, by decide, by decide⟩)) ev_int o2_int0) fun _ => (o2_int (C := fun _ j => 0 < j) (by decide))) fun a106 => (ax_nil (m := some ([a105, a106] : List Int)) fun c h => by cases h; exact ⟨rfl, Nat.le_of_ble_eq_true rfl⟩))))) fun times_109 => (show BK _ [some (val (tS K tInt) script), some (val tInt root_41), some (val tInt s53), some (val tInt length_74), some (val tInt origin_79), some (val tInt depth_84), some (val tInt turning_89), some (val tInt time_92), some (val (tL tInt) times_109), none, none] _ _ _ from (bk_ifj (eJ := fun (s116 : (List Int)) => [some (val (tS K tInt) script), some (val tInt root_41), some (val tInt s53), some (val tInt length_74), some (val tInt origin_79), some (val tInt depth_84), some (val tInt turning_89), some (val tInt time_92), some (val (tL tInt) s116), none, none]) (tx_e (ev_opr (ev_opr (ev_opr (ev_cb1 (ev_call (ax_cons (ev_var (i := 0) (T := (tS K tInt)) rfl) fun a110 => (ax_cons ev_int fun a111 => (ax_nil fun c h => ⟨⟨a110, a111⟩, rfl, h⟩)))) fun _ => o1_int) ev_int fun _ => (o2_int (C := CDiv) ⟨by decide, by decide⟩)) ev_int fun _ => (o2_int (C := fun _ j => 0 < j) (by decide))) ev_int fun _ => o2_eqI)) (show BK _ [some (val (tS K tInt) script), some (val tInt root_41), some (val tInt s53), some (val tInt length_74), some (val tInt origin_79), some (val tInt depth_84), some (val tInt turning_89), some (val tInt time_92), some (val (tL tInt) times_109), none, none] _ _ _ from (bk_asg (ev_frz (ev_lst (T := tInt) (ax_cons (ev_opr (ev_cb1 (ev_call (ax_cons (ev_var (i := 0) (T := (tS K tInt)) rfl) fun a117 => (ax_cons ev_int fun a118 => (ax_nil fun c h => ⟨⟨a117, a118⟩, rfl, h⟩)))) fun _ => o1_int) (ev_opp (ev_opp ev_int (ev_var (i := 6) (T := tInt) rfl) (o2_int (C := CMul) (.inl ⟨by decide, by decide⟩))) ev_int o2_int0) fun _ => o2_mod) fun a125 => (ax_cons (ev_opr (ev_cb1 (ev_call (ax_cons (ev_var (i := 0) (T := (tS K tInt)) rfl) fun a121 => (ax_cons ev_int fun a122 => (ax_nil fun c h => ⟨⟨a121, a122⟩, rfl, h⟩)))) fun _ => o1_int) (ev_opp (ev_opp ev_int (ev_var (i := 6) (T := tInt) rfl) (o2_int (C := CMul) (.inl ⟨by decide, by decide⟩))) ev_int o2_int0) fun _ => o2_mod) fun a126 => (ax_nil (m := some ([a125, a126] : List Int)) fun c h => by cases h; exact ⟨rfl, Nat.le_of_ble_eq_true rfl⟩))))) fun times_129 => (show BK _ [some (val (tS K tInt) script), some (val tInt root_41), some (val tInt s53), some (val tInt length_74), some (val tInt origin_79), some (val tInt depth_84), some (val tInt turning_89), some (val tInt time_92), some (val (tL tInt) times_129), none, none] _ _ _ from (bn_nx (a := times_129) (fgt_c (fgt_c (fgt_c (fgt_c (fgt_c (fgt_c (fgt_c (fgt_c (fgt_c (fgt_n (fgt_n fgt_0))))))))))))))) (show BK _ [some (val (tS K tInt) script), some (val tInt root_41), some (val tInt s53), some (val tInt length_74), some (val tInt origin_79), some (val tInt depth_84), some (val tInt turning_89), some (val tInt time_92), some (val (tL tInt) times_109), none, none] _ _ _ from (bn_nx (a := times_109) (fgt_c (fgt_c (fgt_c (fgt_c (fgt_c (fgt_c (fgt_c (fgt_c (fgt_c (fgt_n (fgt_n fgt_0))))))))))))) fun s116 => (show BK _ [some (val (tS K tInt) script), some (val tInt root_41), some (val tInt s53), some (val tInt length_74), some (val tInt origin_79), some (val tInt depth_84), some (val tInt turning_89), some (val tInt time_92), some (val (tL tInt) s116), none, none] _ _ _ from (bk_asg (ev_frz (ev_cb1p (ev_var (i := 8) (T := (tL tInt)) rfl) o1_sorted)) fun times_130 => (show BK _ [some (val (tS K tInt) script), some (val tInt root_41), some (val tInt s53), some (val tInt length_74), some (val tInt origin_79), some (val tInt depth_84), some (val tInt turning_89), some (val tInt time_92), some (val (tL tInt) times_130), none, none] _ _ _ from (bk_forL (eL := fun (s134 : Unit) => [some (val (tS K tInt) script), some (val tInt root_41), some (val tInt s53), some (val tInt length_74), some (val tInt origin_79), some (val tInt depth_84), some (val tInt turning_89), some (val tInt time_92), some (val (tL tInt) times_130), none, none]) (s0 := ()) (emb := id) emb_R (ix_L (ev_frz (ev_opp (ev_var (i := 8) (T := (tL tInt)) rfl) (ev_frz (ev_lst (T := tInt) (ax_cons (ev_var (i := 6) (T := tInt) rfl) fun a131 => (ax_cons (ev_opp (ev_var (i := 6) (T := tInt) rfl) ev_int o2_int0) fun a132 => (ax_cons ev_int fun a133 => (ax_nil (m := some ([a131, a132, a133] : List Int)) fun c h => by cases h; exact ⟨rfl, Nat.le_of_ble_eq_true rfl⟩)))))) o2_cat))) (fgt_c (fgt_c (fgt_c (fgt_c (fgt_c (fgt_c (fgt_c (fgt_c (fgt_c (fgt_n (fgt_n fgt_0))))))))))) (fun x135 s134 => (as_name)) (fun x135 s134 => (show BK _ [some (val (tS K tInt) script), some (val tInt root_41), some (val tInt s53), some (val tInt length_74), some (val tInt origin_79), some (val tInt depth_84), some (val tInt turning_89), some (val tInt time_92), some (val (tL tInt) times_130), some (val tInt x135), none] _ _ _ from (bk_asg (ev_call (ax_cons (ev_var (i := 3) (T := tInt) rfl) fun a136 => (ax_cons (ev_var (i := 4) (T := tInt) rfl) fun a137 => (ax_cons (ev_var (i := 6) (T := tInt) rfl) fun a138 => (ax_cons (ev_var (i := 9) (T := tInt) rfl) fun a139 => (ax_nil fun c h => ⟨⟨a136, a137, a138, a139⟩, rfl, h⟩)))))) fun value_140 => (show BK _ [some (val (tS K tInt) script), some (val tInt root_41), some (val tInt s53), some (val tInt length_74), some (val tInt origin_79), some (val tInt depth_84), some (val tInt turning_89), some (val tInt time_92), some (val (tL tInt) times_130), some (val tInt x135), some (val tInt value_140)] _ _ _ from (bk_if (tx_or (tx_not (tx_b (ev_call (ax_cons (ev_var (i := 10) (T := tInt) rfl) fun a141 => (ax_nil fun c h => ⟨a141, rfl, h⟩))))) (tx_e (ev_opl (ev_var (i := 10) (T := tInt) rfl) (ev_call (ax_cons (ev_var (i := 3) (T := tInt) rfl) fun a143 => (ax_cons (ev_var (i := 4) (T := tInt) rfl) fun a144 => (ax_cons (ev_var (i := 6) (T := tInt) rfl) fun a145 => (ax_cons (ev_var (i := 9) (T := tInt) rfl) fun a146 => (ax_nil fun c h => ⟨⟨a143, a144, a145, a146⟩, rfl, h⟩)))))) fun _ => o2_neI))) (show BK _ [some (val (tS K tInt) script), some (val tInt root_41), some (val tInt s53), some (val tInt length_74), some (val tInt origin_79), some (val tInt depth_84), some (val tInt turning_89), some (val tInt time_92), some (val (tL tInt) times_130), some (val tInt x135), some (val tInt value_140)] _ _ _ from (bl_ret ev_bl fun _ => fgt_nil)) (show BK _ [some (val (tS K tInt) script), some (val tInt root_41), some (val tInt s53), some (val tInt length_74), some (val tInt origin_79), some (val tInt depth_84), some (val tInt turning_89), some (val tInt time_92), some (val (tL tInt) times_130), some (val tInt x135), some (val tInt value_140)] _ _ _ from (bl_nx (a := ()) (fgt_c (fgt_c (fgt_c (fgt_c (fgt_c (fgt_c (fgt_c (fgt_c (fgt_c (fgt_n (fgt_n fgt_0)))))))))))))))))) fun s149 => (show BK _ [some (val (tS K tInt) script), some (val tInt root_41), some (val tInt s53), some (val tInt length_74), some (val tInt origin_79), some (val tInt depth_84), some (val tInt turning_89), some (val tInt time_92), some (val (tL tInt) times_130), none, none] _ _ _ from (br_ifr (tx_e (ev_opm (ev_call (ax_cons (ev_var (i := 3) (T := tInt) rfl) fun a150 => (ax_cons (ev_var (i := 4) (T := tInt) rfl) fun a151 => (ax_cons (ev_var (i := 6) (T := tInt) rfl) fun a152 => (ax_cons (ev_opp (ev_var (i := 8) (T := (tL tInt)) rfl) ev_int o2_ixL) fun a153 => (ax_nil fun c h => ⟨⟨a150, a151, a152, a153⟩, rfl, h⟩)))))) (ev_call (ax_cons (ev_var (i := 3) (T := tInt) rfl) fun a155 => (ax_cons (ev_var (i := 4) (T := tInt) rfl) fun a156 => (ax_cons (ev_var (i := 6) (T := tInt) rfl) fun a157 => (ax_cons (ev_opp (ev_var (i := 8) (T := (tL tInt)) rfl) ev_int o2_ixL) fun a158 => (ax_nil fun c h => ⟨⟨a155, a156, a157, a158⟩, rfl, h⟩)))))) fun _ _ => o2_cmp)) (show BK _ [some (val (tS K tInt) script), some (val tInt root_41), some (val tInt s53), some (val tInt length_74), some (val tInt origin_79), some (val tInt depth_84), some (val tInt turning_89), some (val tInt time_92), some (val (tL tInt) times_130), none, none] _ _ _ from (br_ret ev_bl fun _ => fgt_nil)) (show BK _ [some (val (tS K tInt) script), some (val tInt root_41), some (val tInt s53), some (val tInt length_74), some (val tInt origin_79), some (val tInt depth_84), some (val tInt turning_89), some (val tInt time_92), some (val (tL tInt) times_130), none, none] _ _ _ from (br_ifr (tx_e (ev_opr (ev_call (ax_cons (ev_var (i := 3) (T := tInt) rfl) fun a162 => (ax_cons (ev_var (i := 4) (T := tInt) rfl) fun a163 => (ax_cons (ev_var (i := 6) (T := tInt) rfl) fun a164 => (ax_cons (ev_var (i := 6) (T := tInt) rfl) fun a165 => (ax_nil fun c h => ⟨⟨a162, a163, a164, a165⟩, rfl, h⟩)))))) (ev_var (i := 4) (T := tInt) rfl) fun _ => o2_neI)) (show BK _ [some (val (tS K tInt) script), some (val tInt root_41), some (val tInt s53), some (val tInt length_74), some (val tInt origin_79), some (val tInt depth_84), some (val tInt turning_89), some (val tInt time_92), some (val (tL tInt) times_130), none, none] _ _ _ from (br_ret ev_bl fun _ => fgt_nil)) (show BK _ [some (val (tS K tInt) script), some (val tInt root_41), some (val tInt s53), some (val tInt length_74), some (val tInt origin_79), some (val tInt depth_84), some (val tInt turning_89), some (val tInt time_92), some (val (tL tInt) times_130), none, none] _ _ _ from (br_ret (ev_opr (ev_call (ax_cons (ev_var (i := 3) (T := tInt) rfl) fun a167 => (ax_cons (ev_var (i := 4) (T := tInt) rfl) fun a168 => (ax_cons (ev_var (i := 7) (T := tInt) rfl) fun a169 => (ax_cons ev_int fun a170 => (ax_nil fun c h => ⟨⟨a167, a168, a169, a170⟩, rfl, h⟩)))))) (ev_cb2p ev_int (ev_opp (ev_var (i := 4) (T := tInt) rfl) (ev_var (i := 5) (T := tInt) rfl) o2_int0) o2_max) fun _ => o2_cmp) fun _ => fgt_nil))))))))))))))))))))))))))))))))))
    (by unfold m_law; first | (simp -implicitDefEqProofs only [Option.bind_some, Option.map_some, id_eq]; done) | (simp -implicitDefEqProofs only [Option.bind_some, Option.map_some, id_eq, Option.bind_assoc]; done))
end LW

set_option Elab.async false
set_option linter.all false
set_option maxRecDepth 100000
set_option maxHeartbeats 4000000
namespace LW
open PySem PySem.Spec PyProof.Rows L2 ML
theorem cell_eq (ns : List Int) (k : Nat) : m__law_cell ns (k : Int) = some (ns.getD k 0) := cell_lem ns k
theorem whileN_more {σ : Type} {c : σ → Option Bool} {f : σ → Option σ} {t : σ} : ∀ (n : Nat) (s : σ), whileN n s c f = some t → ∀ k, whileN (n + k) s c f = some t
  | 0, s, h, k => by cases h
  | n + 1, s, h, k => by
    rw [show n + 1 + k = (n + k) + 1 by omega]
    unfold whileN at h ⊢
    obtain ⟨b, hb, h⟩ := Option.bind_eq_some_iff.mp h
    rw [hb, Option.bind_some]
    cases b with
    | false => exact h
    | true =>
      rw [if_pos rfl] at h ⊢
      obtain ⟨s', hs, h⟩ := Option.bind_eq_some_iff.mp h
      rw [hs, Option.bind_some]
      exact whileN_more n s' h k
theorem lgm {a b : Int} {m n : Nat} (ha : a.natAbs.log2 < m) (hb : b.natAbs.log2 < n) : (a * b).natAbs.log2 < m + n := by
  by_cases h : (a * b).natAbs = 0
  · rw [h]
    have : Nat.log2 0 = 0 := by decide
    omega
  · rw [Nat.log2_lt h, Int.natAbs_mul, Nat.pow_add]
    have h1 : a.natAbs ≠ 0 := fun z => h (by rw [Int.natAbs_mul, z, Nat.zero_mul])
    have h2 : b.natAbs ≠ 0 := fun z => h (by rw [Int.natAbs_mul, z, Nat.mul_zero])
    exact Nat.mul_lt_mul'' ((Nat.log2_lt h1).mp ha) ((Nat.log2_lt h2).mp hb)
theorem cube_eq (x : Int) : x ^ ((3 : Int) : Int).toNat = x * x * x := by
  show x ^ 3 = _
  rw [Int.pow_succ, Int.pow_succ, Int.pow_succ, Int.pow_zero, Int.one_mul]
theorem cube_mono {a b : Int} (h0 : 0 ≤ a) (h : a ≤ b) : a * a * a ≤ b * b * b :=
  Int.mul_le_mul (Int.mul_le_mul h h h0 (by omega)) h h0 (Int.mul_nonneg (by omega) (by omega))
theorem cube_self {a : Int} (h : 0 ≤ a) : a ≤ a * a * a := by
  by_cases z : a = 0
  · subst z; decide
  · have h1 : 1 ≤ a * a := by
      have := Int.mul_le_mul (a := 1) (b := 1) (c := a) (d := a) (by omega) (by omega) (by omega) (by omega)
      omega
    have := Int.mul_le_mul_of_nonneg_right h1 h
    omega
theorem cube_nn {a : Int} (h : 0 ≤ a) : 0 ≤ a * a * a := by have := cube_self h; omega
theorem p2_pos (i : Nat) : (0 : Int) < 2 ^ i := Int.pow_pos (by omega)
theorem p2_succ (i : Nat) : (2 : Int) ^ (i + 1) = 2 * 2 ^ i := by rw [Int.pow_succ, Int.mul_comm]
theorem p2_mono {i j : Nat} (h : i ≤ j) : (2 : Int) ^ i ≤ 2 ^ j := by
  have h2 : ((2 ^ i : Nat) : Int) ≤ ((2 ^ j : Nat) : Int) := Int.ofNat_le.mpr (Nat.pow_le_pow_right (by omega) h)
  simpa using h2
theorem p2_log {i n : Nat} (h : i < n) : ((2 : Int) ^ i).natAbs.log2 < n := by
  refine log2_small (by have := p2_pos i; have := p2_pos n; omega) ?_ (by omega)
  have := p2_mono (i := i + 1) (j := n) (by omega)
  rw [p2_succ] at this
  have := p2_pos i
  omega
section
variable {n : Int}
theorem loop1 (hn : n < (2 ^ 300 : Int)) : ∀ (k i : Nat), i + k = 300 → ∃ j : Nat, j ≤ 300 ∧ n < 2 ^ j * 2 ^ j * 2 ^ j ∧ whileN (k + 1) ((2 : Int) ^ i) (fun (s2 : Int) => ((grd (0 ≤ (3 : Int) ∧ (((s2 : Int).natAbs.log2 : Int) + 1) * (3 : Int) ≤ 100000000) (some (s2 ^ ((3 : Int) : Int).toNat))).bind fun v3 => some (decide (v3 ≤ n)))) (fun (s2 : Int) => some ((2 : Int) * s2)) = some (2 ^ j) := by
  intro k
  induction k with
  | zero =>
    intro i hi
    have hi' : i = 300 := by omega
    subst hi'
    have h0 : ¬ ((2 : Int) ^ 300 * 2 ^ 300 * 2 ^ 300 ≤ n) := by
      have := cube_self (Int.le_of_lt (p2_pos 300))
      omega
    refine ⟨300, Nat.le_refl _, by omega, ?_⟩
    unfold whileN
    dsimp only
    rw [cube_eq, grd_pos ⟨by omega, by have := p2_log (i := 300) (n := 301) (by omega); omega⟩, Option.bind_some, decide_eq_false h0]
    rfl
  | succ k ih =>
    intro i hi
    unfold whileN
    dsimp only
    rw [cube_eq, grd_pos ⟨by omega, by have := p2_log (i := i) (n := 301) (by omega); omega⟩, Option.bind_some, Option.bind_some]
    by_cases h : (2 : Int) ^ i * 2 ^ i * 2 ^ i ≤ n
    · rw [if_pos (decide_eq_true h), Option.bind_some, ← p2_succ]
      exact ih (i + 1) (by omega)
    · rw [if_neg (by simpa using h)]
      exact ⟨i, by omega, by omega, rfl⟩
theorem loop2 (h0 : 0 ≤ n) (hn : n < (2 ^ 300 : Int)) : ∀ (j : Nat) (r : Int), j ≤ 300 → 0 ≤ r → r * r * r ≤ n → n < (r + 2 * 2 ^ j) * (r + 2 * 2 ^ j) * (r + 2 * 2 ^ j) → ∃ t : Int, 0 ≤ t ∧ t * t * t ≤ n ∧ n < (t + 1) * (t + 1) * (t + 1) ∧
    whileN (j + 2) (r, (2 : Int) ^ j) (fun (s7 : Int × Int) => some (decide ((0 : Int) < s7.2))) (fun (s7 : Int × Int) =>
  ((grd (0 ≤ (3 : Int) ∧ ((((s7.1 + s7.2) : Int).natAbs.log2 : Int) + 1) * (3 : Int) ≤ 100000000) (some ((s7.1 + s7.2) ^ ((3 : Int) : Int).toNat))).bind fun v8 => some (decide (v8 ≤ n))).bind fun b =>
  ((if b = true then
  some (s7.1 + s7.2)
  else
  some s7.1)).bind fun (s9 : Int) =>
  some (s9, s7.2 / (2 : Int))) = some (t, 0) := by
  intro j
  induction j with
  | zero =>
    intro r hj hr h1 h2
    have hr2 : r < 2 ^ 300 := by have := cube_self hr; omega
    unfold whileN
    dsimp only
    rw [Option.bind_some, if_pos (decide_eq_true (p2_pos 0)), grd_pos ⟨by omega, by
      have : (r + 2 ^ 0).natAbs.log2 < 301 := log2_small (by have := p2_pos 301; omega) (by
        have := p2_succ 300
        have := p2_mono (i := 0) (j := 300) (by omega)
        omega) (by omega)
      omega⟩, cube_eq, Option.bind_some, Option.bind_some]
    rw [show ((2 : Int) ^ 0) = 1 from rfl] at h2 ⊢
    by_cases h : (r + 1) * (r + 1) * (r + 1) ≤ n
    · rw [if_pos (decide_eq_true h)]
      exact ⟨r + 1, by omega, h, by rw [show r + 1 + 1 = r + 2 * 1 by omega]; exact h2, rfl⟩
    · rw [if_neg (by simpa using h)]
      exact ⟨r, hr, h1, by omega, rfl⟩
  | succ j ih =>
    intro r hj hr h1 h2
    have hr2 : r < 2 ^ 300 := by have := cube_self hr; omega
    have e := p2_succ j
    have e2 : (2 : Int) ^ (j + 1) / 2 = 2 ^ j := by omega
    have pj := p2_pos j
    unfold whileN
    dsimp only
    rw [Option.bind_some, if_pos (decide_eq_true (by omega)), grd_pos ⟨by omega, by
      have : (r + 2 ^ (j + 1)).natAbs.log2 < 301 := log2_small (by have := p2_pos 301; omega) (by
        have := p2_succ 300
        have := p2_mono (i := j + 1) (j := 300) (by omega)
        omega) (by omega)
      omega⟩, cube_eq, Option.bind_some, Option.bind_some]
    by_cases h : (r + 2 ^ (j + 1)) * (r + 2 ^ (j + 1)) * (r + 2 ^ (j + 1)) ≤ n
    · rw [if_pos (decide_eq_true h), Option.bind_some, Option.bind_some, e2]
      refine ih (r + 2 ^ (j + 1)) (by omega) (by omega) h ?_
      rw [← e, show r + 2 ^ (j + 1) + 2 ^ (j + 1) = r + 2 * 2 ^ (j + 1) by omega]
      exact h2
    · rw [if_neg (by simpa using h), Option.bind_some, Option.bind_some, e2]
      refine ih r (by omega) hr h1 ?_
      rw [← e]; omega
end
theorem root_ex {n : Int} (h0 : 0 ≤ n) (hn : n < (2 ^ 300 : Int)) : ∃ t : Int, m_cube_root n = some t ∧ 0 ≤ t ∧ t * t * t ≤ n ∧ n < (t + 1) * (t + 1) * (t + 1) := by
  simp -implicitDefEqProofs only [m_cube_root]
  obtain ⟨j, hj, hj2, e⟩ := loop1 hn 300 0 (by omega)
  have e' := whileN_more _ _ e 699
  rw [show (2 : Int) ^ 0 = 1 from rfl] at e'
  rw [e', Option.bind_some]
  have pj := p2_pos j
  obtain ⟨t, t0, t1, t2, et⟩ := loop2 h0 hn j 0 hj (by omega) (by omega) (by
    have := cube_mono (a := 2 ^ j) (b := 0 + 2 * 2 ^ j) (by omega) (by omega)
    omega)
  have et' := whileN_more _ _ et (1000 - (j + 2))
  rw [show j + 2 + (1000 - (j + 2)) = 1000 by omega] at et'
  rw [et']
  exact ⟨t, rfl, t0, t1, t2⟩
theorem isroot_eq {t n : Int} (h0 : 0 ≤ t) (ht : t < 2 ^ 300) (h1 : t * t * t ≤ n) (h2 : n < (t + 1) * (t + 1) * (t + 1)) : m__law_is_root t n = some true := by
  have l1 : t.natAbs.log2 < 301 := log2_small (by have := p2_pos 301; omega) (by have := p2_succ 300; have := p2_pos 300; omega) (by omega)
  have l2 : (t + 1).natAbs.log2 < 301 := log2_small (by have := p2_pos 301; omega) (by have := p2_succ 300; have := p2_mono (i := 0) (j := 300) (by omega); omega) (by omega)
  have l3 := lgm l1 l1
  have l4 := lgm l2 l2
  have n0 : ¬ t < 0 := by omega
  simp -implicitDefEqProofs only [m__law_is_root, m__law_is_integer, Option.bind_some, Bool.not_false, Bool.and_self, Bool.not_true, Bool.false_eq_true, if_false, decide_eq_false n0]
  rw [grd_pos (by omega), Option.bind_some, grd_pos (by omega), Option.bind_some, if_pos (decide_eq_true h1), grd_pos (by omega), Option.bind_some, grd_pos (by omega), Option.bind_some, decide_eq_true h2]
def rise (m d : Int) : Int := m * (d * d * d) / 2500000000
theorem log40 {x : Int} (h0 : 0 ≤ x) (h : x < 2 ^ 40) : x.natAbs.log2 < 40 := log2_small (by omega) h (by omega)
theorem rise_eq {m d : Int} (m0 : 0 ≤ m) (m1 : m < 2 ^ 40) (d0 : 0 ≤ d) (d1 : d < 2 ^ 40) : m_rise m d = some (rise m d) := by
  have l1 := log40 d0 d1
  have l2 := log40 m0 m1
  have l3 := lgm (lgm l1 l1) l1
  simp -implicitDefEqProofs only [m_rise, cube_eq]
  rw [grd_pos ⟨by omega, by omega⟩, Option.bind_some, grd_pos (by omega), Option.bind_some]
  rfl
def curveF (m o k t : Int) : Int := if t ≤ k then (if o - rise m (k - t) > 0 then o - rise m (k - t) else 0) else o + rise m (t - k)
theorem curve_eq {m o k t : Int} (m0 : 0 ≤ m) (m1 : m < 2 ^ 40) (k0 : 0 ≤ k) (k1 : k < 2 ^ 39) (t0 : 0 ≤ t) (t1 : t < 2 ^ 39) : m_curve m o k t = some (curveF m o k t) := by
  simp -implicitDefEqProofs only [m_curve, curveF]
  by_cases h : t ≤ k
  · rw [if_pos (decide_eq_true h), if_pos h, rise_eq m0 m1 (by omega) (by omega)]; rfl
  · rw [if_neg (by simpa using h), if_neg h, rise_eq m0 m1 (by omega) (by omega)]; rfl
theorem lcurve_eq {m o k t : Int} (m0 : 0 ≤ m) (m1 : m < 2 ^ 40) (k0 : 0 ≤ k) (k1 : k < 2 ^ 39) (t0 : 0 ≤ t) (t1 : t < 2 ^ 39) : m__law_curve m o k t = some (curveF m o k t) := by
  simp -implicitDefEqProofs only [m__law_curve, curveF, rise]
  have ha : ∃ a, (if t - k < 0 then -(t - k) else t - k) = a ∧ 0 ≤ a ∧ a < 2 ^ 40 ∧ (t ≤ k → a = k - t) ∧ (¬ t ≤ k → a = t - k) := ⟨_, rfl, by split <;> omega, by split <;> omega, by split <;> omega, by split <;> omega⟩
  obtain ⟨a, ea, a0, a1, a2, a3⟩ := ha
  rw [ea]
  have l1 := log40 a0 a1
  have l2 := log40 m0 m1
  have l3 := lgm l2 l1
  have l4 := lgm l3 l1
  rw [grd_pos (by omega), Option.bind_some, grd_pos (by omega), Option.bind_some, grd_pos (by omega), Option.bind_some, Option.bind_some]
  rw [show m * a * a * a = m * (a * a * a) by simp only [Int.mul_assoc]]
  by_cases h : t ≤ k
  · rw [if_pos (decide_eq_true h), if_pos h, ← a2 h]
    try rfl
  · rw [if_neg (by simpa using h), if_neg h, ← a3 h]
    try rfl
theorem rise_mono {m a b : Int} (m0 : 0 ≤ m) (h0 : 0 ≤ a) (h : a ≤ b) : rise m a ≤ rise m b := by
  unfold rise
  exact Int.ediv_le_ediv (by omega) (Int.mul_le_mul_of_nonneg_left (cube_mono h0 h) m0)
theorem rise_nn {m a : Int} (m0 : 0 ≤ m) (h0 : 0 ≤ a) : 0 ≤ rise m a := Int.ediv_nonneg (Int.mul_nonneg m0 (cube_nn h0)) (by omega)
theorem curve_mono {m o k a b : Int} (m0 : 0 ≤ m) (o0 : 0 ≤ o) (h : a ≤ b) : curveF m o k a ≤ curveF m o k b := by
  unfold curveF
  by_cases h1 : b ≤ k
  · have := rise_mono (a := k - b) (b := k - a) m0 (by omega) (by omega)
    rw [if_pos (by omega), if_pos h1]
    repeat' split
    all_goals omega
  · rw [if_neg h1]
    have r1 := rise_nn (a := b - k) m0 (by omega)
    by_cases h2 : a ≤ k
    · have r2 := rise_nn (a := k - a) m0 (by omega)
      rw [if_pos h2]
      split <;> omega
    · have := rise_mono (a := a - k) (b := b - k) m0 (by omega) (by omega)
      rw [if_neg h2]; omega
theorem law_true (ns : List Int) (hl : ns.length ≤ 63) : m_law ns = some true := by
  have c0 := cell_eq ns 0
  have c1 := cell_eq ns 1
  have c2 := cell_eq ns 2
  have c3 := cell_eq ns 3
  have c4 := cell_eq ns 4
  have c5 := cell_eq ns 5
  have c6 := cell_eq ns 6
  have c7 := cell_eq ns 7
  generalize ns.getD 0 0 = x0 at c0
  generalize ns.getD 1 0 = x1 at c1
  generalize ns.getD 2 0 = x2 at c2
  generalize ns.getD 3 0 = x3 at c3
  generalize ns.getD 4 0 = x4 at c4
  generalize ns.getD 5 0 = x5 at c5
  generalize ns.getD 6 0 = x6 at c6
  generalize ns.getD 7 0 = x7 at c7
  simp only [Int.cast_ofNat_Int] at c0 c1 c2 c3 c4 c5 c6 c7
  simp -implicitDefEqProofs only [m_law]
  rw [c0, c1, c2, c3, c4, c5, c6, c7]
  have q9 : (10 : Int) ^ ((9 : Int) : Int).toNat = 1000000000 := by decide
  obtain ⟨z20, e20, g20⟩ : ∃ z, (10 : Int) ^ ((20 : Int) : Int).toNat = z ∧ 0 < z ∧ z < 2 ^ 70 := ⟨_, rfl, by decide, by decide⟩
  obtain ⟨z60, e60, g60⟩ : ∃ z, (10 : Int) ^ ((60 : Int) : Int).toNat = z ∧ 0 < z ∧ z < 2 ^ 210 := ⟨_, rfl, by decide, by decide⟩
  rw [q9, e20, e60]
  simp -implicitDefEqProofs only [Option.bind_some]
  have rr : 0 ≤ x0 / 5 % z20 ∧ x0 / 5 % z20 < 2 ^ 70 := by
    have := Int.emod_nonneg (x0 / 5) (show z20 ≠ 0 by omega)
    have := Int.emod_lt_of_pos (x0 / 5) g20.1
    omega
  have nn : 0 ≤ x0 / 2 % (z60 + 1) ∧ x0 / 2 % (z60 + 1) < 2 ^ 211 := by
    have := Int.emod_nonneg (x0 / 2) (show z60 + 1 ≠ 0 by omega)
    have := Int.emod_lt_of_pos (x0 / 2) (show 0 < z60 + 1 by omega)
    omega
  generalize x0 / 5 % z20 = r at rr
  generalize x0 / 2 % (z60 + 1) = n0 at nn
  have lr : r.natAbs.log2 < 70 := log2_small (by omega) rr.2 (by omega)
  have lr2 := lgm lr lr
  have lr3 := lgm lr2 lr
  have r3 : 0 ≤ r * r * r ∧ r * r * r < 2 ^ 210 := by
    refine ⟨cube_nn rr.1, ?_⟩
    by_cases z : (r * r * r).natAbs = 0
    · have := p2_pos 210; omega
    · have := (Nat.log2_lt z).mp lr3
      have h2 : ((2 ^ (70 + 70 + 70) : Nat) : Int) = (2 : Int) ^ 210 := by simp
      omega
  rw [grd_pos (by omega), Option.bind_some, grd_pos (by omega)]
  simp -implicitDefEqProofs only [Option.bind_some]
  generalize r * r * r = q at r3
  obtain ⟨n, en, n0', n1'⟩ : ∃ n, (if decide (x0 % 2 = 1) = true then some (if q + x1 % 3 - 1 > 0 then q + x1 % 3 - 1 else 0) else some n0) = some n ∧ 0 ≤ n ∧ n < 2 ^ 300 := by
    split
    · exact ⟨_, rfl, by split <;> omega, by split <;> omega⟩
    · exact ⟨_, rfl, by omega, by omega⟩
  rw [en, Option.bind_some]
  obtain ⟨t, et, t0, t1, t2⟩ := root_ex n0' n1'
  rw [et, Option.bind_some, isroot_eq t0 (by have := cube_self t0; omega) t1 t2]
  simp -implicitDefEqProofs only [Option.bind_some, Bool.not_true, Bool.false_eq_true, if_false]
  obtain ⟨m, em, m0, m1⟩ : ∃ m, 1 + x2 % 1460 = m ∧ 0 < m ∧ m ≤ 1460 := ⟨_, rfl, by omega, by omega⟩
  obtain ⟨o, eo, o0, o1⟩ : ∃ o, x3 % 1073741825 = o ∧ 0 ≤ o ∧ o ≤ 1073741824 := ⟨_, rfl, by omega, by omega⟩
  obtain ⟨d, ed, d0, d1⟩ : ∃ d, x4 % 1073741825 = d ∧ 0 ≤ d ∧ d ≤ 1073741824 := ⟨_, rfl, by omega, by omega⟩
  obtain ⟨k, ek, k0, k1⟩ : ∃ k, x5 % 4194305 = k ∧ 0 ≤ k ∧ k ≤ 4194304 := ⟨_, rfl, by omega, by omega⟩
  rw [em, eo, ed, ek]
  have lm : m.natAbs.log2 < 9000 := Nat.lt_trans (log40 (x := m) (by omega) (by omega)) (by omega)
  have dv : 0 ≤ d * 2500000000 / m ∧ d * 2500000000 / m ≤ d * 2500000000 := ⟨Int.ediv_nonneg (by omega) (by omega), Int.ediv_le_self _ (by omega)⟩
  have dm : m * (d * 2500000000 / m) ≤ d * 2500000000 := Int.mul_ediv_self_le (by omega)
  obtain ⟨T, eT, T0, T1, T2⟩ := root_ex (n := d * 2500000000 / m) dv.1 (by omega)
  have T3 : T < 2 ^ 39 := by
    by_cases z : T < 2 ^ 39
    · exact z
    · have := cube_mono (a := 2 ^ 39) (b := T) (by omega) (by omega)
      have : (2 : Int) ^ 39 * 2 ^ 39 * 2 ^ 39 > 1073741824 * 2500000000 := by decide
      omega
  simp -implicitDefEqProofs only [m_turning_time, grd_pos (show 0 < m ∧ m.natAbs.log2 < 9000 from ⟨m0, lm⟩), Option.bind_some, eT]
  rw [isroot_eq T0 (by omega) T1 T2]
  simp -implicitDefEqProofs only [Option.bind_some, Bool.not_true, Bool.false_eq_true, if_false]
  have kp : (0 : Int) < 2 * k + 2 := by omega
  simp -implicitDefEqProofs only [grd_pos kp, Option.bind_some]
  obtain ⟨a, b, eab, ab⟩ : ∃ a b : Int, (if decide (x6 / 7 % 2 = 1) = true then some [x6 % (2 * k + 2), x7 % (2 * k + 2)] else some [x6 % (1000000000 + 1), x7 % (1000000000 + 1)]) = some [a, b] ∧ ∀ x ∈ [a, b], 0 ≤ x ∧ x < 2 ^ 39 := by
    have := Int.emod_nonneg x6 (show 2 * k + 2 ≠ 0 by omega)
    have := Int.emod_lt_of_pos x6 kp
    have := Int.emod_nonneg x7 (show 2 * k + 2 ≠ 0 by omega)
    have := Int.emod_lt_of_pos x7 kp
    split
    · exact ⟨_, _, rfl, fun x hx => by
        simp only [List.mem_cons, List.not_mem_nil, or_false] at hx
        omega⟩
    · exact ⟨_, _, rfl, fun x hx => by
        simp only [List.mem_cons, List.not_mem_nil, or_false] at hx
        omega⟩
  rw [eab, Option.bind_some]
  have sp := sortI_perm [a, b]
  have ss := sortI_sorted [a, b]
  generalize sortI [a, b] = l at sp ss
  have ll : l.length = 2 := sp.length_eq
  obtain ⟨u, v, el⟩ : ∃ u v, l = [u, v] := by
    match l, ll with
    | [u, v], _ => exact ⟨u, v, rfl⟩
  subst el
  have hu := ab u (sp.mem_iff.mp (by simp))
  have hv := ab v (sp.mem_iff.mp (by simp))
  have huv : u ≤ v := by simpa using ss
  have cu : ∀ x, 0 ≤ x → x < 2 ^ 39 → m_curve m o k x = some (curveF m o k x) := fun x h1 h2 => curve_eq (by omega) (by omega) k0 (by omega) h1 h2
  have lu : ∀ x, 0 ≤ x → x < 2 ^ 39 → m__law_curve m o k x = some (curveF m o k x) := fun x h1 h2 => lcurve_eq (by omega) (by omega) k0 (by omega) h1 h2
  rw [grd_pos (by simp), Option.bind_some]
  rw [forL_unit (fun x hx => ?_)]
  · show (((atI [u, v] 0).bind _).bind _).bind _ = _
    rw [show atI [u, v] (0 : Int) = some u from rfl, show atI [u, v] (1 : Int) = some v from rfl]
    simp -implicitDefEqProofs only [Option.bind_some]
    rw [cu u hu.1 hu.2, cu v hv.1 hv.2, cu k k0 (by omega)]
    simp -implicitDefEqProofs only [Option.bind_some]
    have mo := curve_mono (m := m) (o := o) (k := k) (by omega) o0 huv
    have ck : curveF m o k k = o := by
      unfold curveF
      have : rise m (k - k) = 0 := by unfold rise; simp
      rw [this]
      repeat' split
      all_goals omega
    rw [ck, decide_eq_false (by omega), if_neg (by simp)]
    simp -implicitDefEqProofs only [decide_true, Bool.not_true, Bool.false_eq_true, if_false]
    rw [curve_eq (by omega) (by omega) T0 T3 (by omega) (by omega)]
    simp -implicitDefEqProofs only [Option.bind_some]
    congr 1
    apply decide_eq_true
    unfold curveF
    rw [if_pos T0, Int.sub_zero]
    have : rise m T ≤ d := by
      unfold rise
      have h1 := Int.mul_le_mul_of_nonneg_left T1 (show 0 ≤ m by omega)
      have h2 : m * (T * T * T) ≤ d * 2500000000 := Int.le_trans h1 dm
      omega
    repeat' split
    all_goals omega
  · have hx2 : 0 ≤ x ∧ x < 2 ^ 39 := by
      simp only [List.cons_append, List.nil_append, List.mem_cons, List.not_mem_nil, or_false] at hx
      omega
    rw [cu x hx2.1 hx2.2, lu x hx2.1 hx2.2]
    simp [m__law_is_integer]
end LW

namespace LW
open PySem PySem.Spec PyProof.Rows L2 ML
set_option maxHeartbeats 0
def d_cube_root : He.DefD := ⟨("cube_root", none), "cube_root", "cube_root", defArgs s_cube_root, defBody s_cube_root, defScope s_cube_root, [], []⟩
def d_rise : He.DefD := ⟨("rise", none), "rise", "rise", defArgs s_rise, defBody s_rise, defScope s_rise, [], []⟩
def d_curve : He.DefD := ⟨("curve", none), "curve", "curve", defArgs s_curve, defBody s_curve, defScope s_curve, [], []⟩
def d_turning_time : He.DefD := ⟨("turning_time", none), "turning_time", "turning_time", defArgs s_turning_time, defBody s_turning_time, defScope s_turning_time, [], []⟩
def d__law_is_integer : He.DefD := ⟨("_law_is_integer", none), "_law_is_integer", "_law_is_integer", defArgs s__law_is_integer, defBody s__law_is_integer, defScope s__law_is_integer, [], []⟩
def d__law_cell : He.DefD := ⟨("_law_cell", none), "_law_cell", "_law_cell", defArgs s__law_cell, defBody s__law_cell, defScope s__law_cell, [], []⟩
def d__law_is_root : He.DefD := ⟨("_law_is_root", none), "_law_is_root", "_law_is_root", defArgs s__law_is_root, defBody s__law_is_root, defScope s__law_is_root, [], []⟩
def d__law_curve : He.DefD := ⟨("_law_curve", none), "_law_curve", "_law_curve", defArgs s__law_curve, defBody s__law_curve, defScope s__law_curve, [], []⟩
def d_law : He.DefD := ⟨("law", none), "law", "law", defArgs s_law, defBody s_law, defScope s_law, [], []⟩
def fn_ : List He.DefD := [d_cube_root, d_rise, d_curve, d_turning_time, d__law_is_integer, d__law_cell, d__law_is_root, d__law_curve, d_law]
def fa_ : List He.Fa := [.glo "cube_root", .glo "rise", .glo "curve", .glo "turning_time", .glo "_law_is_integer", .glo "_law_cell", .glo "_law_is_root", .glo "_law_curve", .glo "law", .free "abs", .free "bool", .free "int", .free "isinstance", .free "len", .free "max", .free "sorted", .int "SCALE" 2500000000]
def loose_ : List Str := ["cube_root", "rise", "curve", "turning_time", "_law_is_integer", "_law_cell", "_law_is_root", "_law_curve", "SCALE"]
abbrev R_ : PySem.W.OpenRow := PySem.W.OpenLaw.row law_
abbrev hk : PySem.W.Hook := He.hookD 6 fa_ fn_
def ob (s : PySem.W.SharedT) : He.AlD := He.obsDG 6 fa_ fn_ (HandSHeadRun.getT s)
theorem ob_eq (s : PySem.W.SharedT) : ob s = hk.obs s.abs := He.obsDG_eq (HandSHeadRun.getT_eq s)
theorem run_ (w : World) : HandSHeadRun.RunEq R_ (PySem.W.view R_.prog [12]) hk ob 20000 loose_ w := by
  intro os
  kernel_rfl
theorem facts {P : Program} {w : World} {K : PySem.W.Frag} {h : Heap} {mg : Str → Option Value} {f : Addr} (X : K.In h) (G : h.Ns mainGlobals mg) (hfa : mg ("law" : Str) = some (.ref f)) (c : He.SaysD fa_ fn_ K) :
    ∃ fd : FuncData, (∀ (s : Shared) (v : Value), BindsTo s fd ⟨[v], []⟩ [("_law_script", v)]) ∧ ∀ base : Heap, K.In base → base.Ns mainGlobals mg → FnOk P w K mg base CX0 3 f fd ["_law_script"] (sp_law K) := by
  have T : Txt K mg := ⟨He.free_ok X G (c.fact 9 rfl), He.free_ok X G (c.fact 10 rfl), He.free_ok X G (c.fact 11 rfl), He.free_ok X G (c.fact 12 rfl), He.free_ok X G (c.fact 13 rfl), He.free_ok X G (c.fact 14 rfl), He.free_ok X G (c.fact 15 rfl), He.int_ok X G (c.fact 16 (f := .int "SCALE" 2500000000) rfl)⟩
  obtain ⟨fd_cube_root, F_cube_root⟩ := c.def_ 0 (d := d_cube_root) rfl
  have g_cube_root : mg "cube_root" = some (.ref (He.fAd K d_cube_root.at_)) := He.glo_ok X G (c.fact 0 (f := .glo "cube_root") rfl)
  obtain ⟨fd_rise, F_rise⟩ := c.def_ 1 (d := d_rise) rfl
  have g_rise : mg "rise" = some (.ref (He.fAd K d_rise.at_)) := He.glo_ok X G (c.fact 1 (f := .glo "rise") rfl)
  obtain ⟨fd_curve, F_curve⟩ := c.def_ 2 (d := d_curve) rfl
  have g_curve : mg "curve" = some (.ref (He.fAd K d_curve.at_)) := He.glo_ok X G (c.fact 2 (f := .glo "curve") rfl)
  obtain ⟨fd_turning_time, F_turning_time⟩ := c.def_ 3 (d := d_turning_time) rfl
  have g_turning_time : mg "turning_time" = some (.ref (He.fAd K d_turning_time.at_)) := He.glo_ok X G (c.fact 3 (f := .glo "turning_time") rfl)
  obtain ⟨fd__law_is_integer, F__law_is_integer⟩ := c.def_ 4 (d := d__law_is_integer) rfl
  have g__law_is_integer : mg "_law_is_integer" = some (.ref (He.fAd K d__law_is_integer.at_)) := He.glo_ok X G (c.fact 4 (f := .glo "_law_is_integer") rfl)
  obtain ⟨fd__law_cell, F__law_cell⟩ := c.def_ 5 (d := d__law_cell) rfl
  have g__law_cell : mg "_law_cell" = some (.ref (He.fAd K d__law_cell.at_)) := He.glo_ok X G (c.fact 5 (f := .glo "_law_cell") rfl)
  obtain ⟨fd__law_is_root, F__law_is_root⟩ := c.def_ 6 (d := d__law_is_root) rfl
  have g__law_is_root : mg "_law_is_root" = some (.ref (He.fAd K d__law_is_root.at_)) := He.glo_ok X G (c.fact 6 (f := .glo "_law_is_root") rfl)
  obtain ⟨fd__law_curve, F__law_curve⟩ := c.def_ 7 (d := d__law_curve) rfl
  have g__law_curve : mg "_law_curve" = some (.ref (He.fAd K d__law_curve.at_)) := He.glo_ok X G (c.fact 7 (f := .glo "_law_curve") rfl)
  obtain ⟨fd_law, F_law⟩ := c.def_ 8 (d := d_law) rfl
  have g_law : mg "law" = some (.ref (He.fAd K d_law.at_)) := He.glo_ok X G (c.fact 8 (f := .glo "law") rfl)
  have e := hfa.symm.trans g_law
  cases e
  have b := FunD.bindsA (ps := ["_law_script"]) F_law fun _ _ _ _ _ _ us hl => match us, hl with | [_], _ => rfl
  refine ⟨fd_law, fun s v => b s [v] rfl, fun base _ _ => ?_⟩
  have C_cube_root : Cal P w K mg base 1 "cube_root" ["number"] (sp_cube_root K) := ⟨_, fd_cube_root, g_cube_root, F_cube_root.kp, FunD.bindsN F_cube_root fun _ _ _ _ _ _ us hl => match us, hl with | [_], _ => rfl, ok_cube_root T F_cube_root ⟩
  have C_rise : Cal P w K mg base 1 "rise" ["mss", "distance"] (sp_rise K) := ⟨_, fd_rise, g_rise, F_rise.kp, FunD.bindsN F_rise fun _ _ _ _ _ _ us hl => match us, hl with | [_, _], _ => rfl, ok_rise T F_rise ⟩
  have C_curve : Cal P w K mg base 2 "curve" ["mss", "origin", "turning", "at"] (sp_curve K) := ⟨_, fd_curve, g_curve, F_curve.kp, FunD.bindsN F_curve fun _ _ _ _ _ _ us hl => match us, hl with | [_, _, _, _], _ => rfl, ok_curve T F_curve C_rise⟩
  have C_turning_time : Cal P w K mg base 2 "turning_time" ["mss", "depth"] (sp_turning_time K) := ⟨_, fd_turning_time, g_turning_time, F_turning_time.kp, FunD.bindsN F_turning_time fun _ _ _ _ _ _ us hl => match us, hl with | [_, _], _ => rfl, ok_turning_time T F_turning_time C_cube_root⟩
  have C__law_is_integer : Cal P w K mg base 1 "_law_is_integer" ["_law_actual"] (sp__law_is_integer K) := ⟨_, fd__law_is_integer, g__law_is_integer, F__law_is_integer.kp, FunD.bindsN F__law_is_integer fun _ _ _ _ _ _ us hl => match us, hl with | [_], _ => rfl, ok__law_is_integer T F__law_is_integer ⟩
  have C__law_cell : Cal P w K mg base 1 "_law_cell" ["_law_script", "_law_k"] (sp__law_cell K) := ⟨_, fd__law_cell, g__law_cell, F__law_cell.kp, FunD.bindsN F__law_cell fun _ _ _ _ _ _ us hl => match us, hl with | [_, _], _ => rfl, ok__law_cell T F__law_cell ⟩
  have C__law_is_root : Cal P w K mg base 2 "_law_is_root" ["_law_actual", "_law_number"] (sp__law_is_root K) := ⟨_, fd__law_is_root, g__law_is_root, F__law_is_root.kp, FunD.bindsN F__law_is_root fun _ _ _ _ _ _ us hl => match us, hl with | [_, _], _ => rfl, ok__law_is_root T F__law_is_root C__law_is_integer⟩
  have C__law_curve : Cal P w K mg base 1 "_law_curve" ["_law_mss", "_law_origin", "_law_turning", "_law_at"] (sp__law_curve K) := ⟨_, fd__law_curve, g__law_curve, F__law_curve.kp, FunD.bindsN F__law_curve fun _ _ _ _ _ _ us hl => match us, hl with | [_, _, _, _], _ => rfl, ok__law_curve T F__law_curve ⟩
  exact ok_law T F_law C_cube_root C_curve C_turning_time C__law_is_integer C__law_cell C__law_is_root C__law_curve
end LW
open PySem PySem.W PySem.Calls PyProof.Rows
set_option maxRecDepth 100000 in
set_option maxHeartbeats 0 in
theorem PySem.Challenge.cw_throughline_k18_cube_roots_and_curves_holds : PySem.Challenge.rw_throughline_k18_cube_roots_and_curves.Holds := by
  w_on; o_law
  refine HandSHeadRun.head_any (r := OpenLaw.row PySem.Challenge.rw_throughline_k18_cube_roots_and_curves) (q := view (OpenLaw.row PySem.Challenge.rw_throughline_k18_cube_roots_and_curves).prog [12]) (H := LW.hk) (ob := LW.ob) (M := 20000) (loose := LW.loose_) (d := HandSHeadRun.topDef (OpenLaw.row PySem.Challenge.rw_throughline_k18_cube_roots_and_curves).prog 12) (kwd := []) LW.ob_eq
    (by kernel_rfl) (fun s => by kernel_rfl) LW.run_ (by kernel_rfl) (by kernel_rfl) (by kernel_rfl) (by rfl) (by first | assumption | decide +kernel) (by decide +kernel) ⟨rfl, rfl, rfl, rfl, rfl, by decide +kernel⟩ ?hw ?hc
  case hw => w_witness2
  case hc =>
    refine L2.walk_ofE (l := PySem.Challenge.rw_throughline_k18_cube_roots_and_curves) (n := 63) (k := 3) (x := "_law_script") (CX := L2.CX0) rfl (by decide) (by kernel_rfl) ⟨rfl, by decide, by decide⟩ ?F (fun _ _ _ _ z => z)
    intro w mg fa h Y G hmg0
    obtain ⟨K, KX, c⟩ := Y
    have hmg : mg ("law" : PySem.Str) = some (.ref fa) := by
      have e : (HandSHeadRun.topDef (OpenLaw.row PySem.Challenge.rw_throughline_k18_cube_roots_and_curves).prog 12).name = ("law" : PySem.Str) := by kernel_rfl
      rw [← e]
      exact hmg0
    obtain ⟨fd, hb, hF⟩ := LW.facts (P := (PySem.Challenge.rw_throughline_k18_cube_roots_and_curves).prog) (w := w) KX G hmg c
    exact ⟨K, fd, LW.sp_law K, KX, hb, fun H a ns hl _ hS => ML.spF_law hS (LW.law_true ns hl), hF⟩
#print axioms PySem.Challenge.cw_throughline_k18_cube_roots_and_curves_holds
