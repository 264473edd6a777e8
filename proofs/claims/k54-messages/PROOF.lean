import PyProof.Rows.All
import Wide.All
import OpenK.AllK
import Wide.FinOn
import HandS.ForMost
import HandS.ForSpec
import HandS.Wide
import HandS.IsInst
import HandS.Defaults
import HandS.MakeKwOnly
import HandS.Style
import HandS.More
import HandS.Words
import HandS.WordsExc
import HandS.Head0
import HandS.Head1
import HandS.Head2
import HandS.HeadEnd
import HandS.HeadHook1
import HandS.HeadHook2
import HandS.SortInts
import HandS.Property
import HandS.CallSlots
import HandS.MakeKw
import HandS.Flow
import HandS.Ends
import HandS.Small
import HandS.WordsDict
import HandS.Iter
import HandS.TryMany
import HandS.SuiteRaise
import HandS.ExcOwn
import HandS.ExcIs
import PyProof.ExcBaseAll.ValueError
import HandS.ExcBuiltin
import HandS.Strs
import KE.KSuper
import KE.KSuperObj
import HandS.Nested
import HandS.ClsMeth
import HandS.WideBits
import HandS.HeadHook3
import HandS.ListEq
import KE.KStateDown
import PySem.Challenge.RW_throughline_k54_messages
set_option Elab.async false
set_option linter.all false
set_option maxRecDepth 100000
set_option Elab.async false
set_option linter.all false
set_option maxRecDepth 100000
set_option maxHeartbeats 2000000
/-! ML: typed values over the layer: what a reading does, by a plain function of typed data. -/
namespace ML
open PySem PySem.Spec PyProof.Rows L2

/-! ### types: how a datum lies in a heap that only grows -/
structure Ty (α : Type) where
  rp : Hp → V → α → Prop
  mono : ∀ {F F' : Hp} {v : V} {x : α}, Same F F' → rp F v x → rp F' v x
def tInt : Ty Int := ⟨fun _ v x => v = .int x, fun _ h => h⟩
def tBool : Ty Bool := ⟨fun _ v x => v = .bl x, fun _ h => h⟩
def tStr : Ty Str := ⟨fun _ v x => v = .str x, fun _ h => h⟩
def tNon : Ty Unit := ⟨fun _ v _ => v = .non, fun _ h => h⟩
/-- a scalar whose kind is not told -/
def tDyn : Ty V := ⟨fun _ v x => v = x, fun _ h => h⟩
def tOpt {α : Type} (T : Ty α) : Ty (Option α) := ⟨fun F v x => match x with
  | none => v = .non
  | some y => T.rp F v y, fun {F F' v x} s h => by
    cases x with
    | none => exact h
    | some y => exact T.mono s h⟩
theorem Paired.mono {α β : Type} {f g : α → β → Prop} : ∀ {l : List α} {m : List β}, Paired f l m → (∀ a b, f a b → g a b) → Paired g l m
  | _, _, .nil, _ => .nil
  | _, _, .cons r t, h => .cons (h _ _ r) (Paired.mono t h)
/-- a tracked list -/
def tL {α : Type} (T : Ty α) : Ty (List α) := ⟨fun F v xs => ∃ a vs, v = .ref a ∧ F a = some (.lst vs) ∧ Paired (T.rp F) vs xs, fun s ⟨a, vs, e, h, p⟩ => ⟨a, vs, e, s _ _ h, Paired.mono p fun _ _ => T.mono s⟩⟩
/-- a list that is read: also the script, a constant -/
def tS {α : Type} (K : PySem.W.Frag) (T : Ty α) : Ty (List α) := ⟨fun F v xs => ∃ a vs, v = .ref a ∧ SqL K F a vs ∧ Paired (T.rp F) vs xs, fun s ⟨a, vs, e, h, p⟩ => ⟨a, vs, e, s.seq h, Paired.mono p fun _ _ => T.mono s⟩⟩
/-- a tuple of any length, one kind -/
def tU {α : Type} (T : Ty α) : Ty (List α) := ⟨fun F v xs => ∃ a vs, v = .ref a ∧ F a = some (.tup vs) ∧ Paired (T.rp F) vs xs, fun s ⟨a, vs, e, h, p⟩ => ⟨a, vs, e, s _ _ h, Paired.mono p fun _ _ => T.mono s⟩⟩
def tP {α β : Type} (T : Ty α) (U : Ty β) : Ty (α × β) := ⟨fun F v p => ∃ a x y, v = .ref a ∧ F a = some (.tup [x, y]) ∧ T.rp F x p.1 ∧ U.rp F y p.2, fun s ⟨a, x, y, e, h, p, q⟩ => ⟨a, x, y, e, s _ _ h, T.mono s p, U.mono s q⟩⟩

/-! ### slots -/
structure SP where
  ok : Hp → Hp → (Addr → Prop) → V → Prop
  mono : ∀ {F F' H H' : Hp} {o : Addr → Prop} {v : V}, ok F H o v → Same F F' → (∀ a, o a → H' a = H a) → ok F' H' o v
structure VP where
  p : Hp → V → Prop
  mono : ∀ {F F' : Hp} {v : V}, Same F F' → p F v → p F' v
def VP.sp (q : VP) : SP := ⟨fun F _ _ v => q.p F v, fun h s _ => q.mono s h⟩
def vp {α : Type} (T : Ty α) (x : α) : VP := ⟨fun F v => T.rp F v x, fun s h => T.mono s h⟩
/-- a value -/
def val {α : Type} (T : Ty α) (x : α) : SP := (vp T x).sp
/-- anything -/
def anyS : SP := ⟨fun _ _ _ _ => True, fun _ _ _ => trivial⟩
/-- a list of one's own: nothing else knows it -/
def muL {α : Type} (φ : V → Prop) (T : Ty α) (xs : List α) : SP := ⟨fun F H o v => ∃ a vs, v = .ref a ∧ φ v ∧ (∀ b, o b ↔ b = a) ∧ H a = some (.lst vs) ∧ Paired (T.rp F) vs xs,
  fun ⟨a, vs, e, f, ho, h, p⟩ s k => ⟨a, vs, e, f, ho, (k a ((ho a).mpr rfl)).trans h, Paired.mono p fun _ _ => T.mono s⟩⟩
def yes : V → Prop := fun _ => True
abbrev own {α : Type} (T : Ty α) (xs : List α) : SP := muL yes T xs

inductive Lb where
  | e (i : Nat) | s (i : Nat)
  deriving DecidableEq
abbrev Ow := Addr → Option Lb
def Ow.of (w : Ow) (l : Lb) : Addr → Prop := fun a => w a = some l
abbrev En := List (Option SP)
def StOk (F H : Hp) (w : Ow) : List SP → List V → Prop
  | [], [] => True
  | S :: st, v :: vs => S.ok F H (w.of (.s st.length)) v ∧ StOk F H w st vs
  | _, _ => False
def EnvOk (F H : Hp) (w : Ow) (env : En) (σ : L2.St) : Prop := env.length ≤ σ.length ∧ ∀ (i : Nat) (S : SP), env[i]? = some (some S) → ∃ v, σ[i]? = some (some v) ∧ S.ok F H (w.of (.e i)) v

/-- from (F0, H0) to (F, H): what F holds is held, only what P owns has changed -/
structure Ext (F0 H0 : Hp) (P : Addr → Prop) (F H : Hp) : Prop where
  f : Same F0 F
  s : Same F H
  h : ∀ b o, ¬ P b → H0 b = some o → H b = some o
  n : ∀ b, H0 b ≠ none → F b = F0 b
  t : ∀ b, H b = none → H0 b = none
theorem Ext.refl {F H : Hp} {P : Addr → Prop} (s : Same F H) : Ext F H P F H := ⟨Same.refl F, s, fun _ _ _ h => h, fun _ _ => rfl, fun _ h => h⟩
/-- the same from an entry: what P owned may have been given away -/
structure ExtE (F0 H0 : Hp) (P : Addr → Prop) (F H : Hp) : Prop where
  f : Same F0 F
  s : Same F H
  h : ∀ b o, ¬ P b → H0 b = some o → H b = some o
  n : ∀ b, ¬ P b → H0 b ≠ none → F b = F0 b
  t : ∀ b, H b = none → H0 b = none
theorem ExtE.refl {F H : Hp} {P : Addr → Prop} (s : Same F H) : ExtE F H P F H := ⟨Same.refl F, s, fun _ _ _ h => h, fun _ _ _ => rfl, fun _ h => h⟩
theorem ExtE.to {F0 H0 F H : Hp} {P : Addr → Prop} (e : ExtE F0 H0 P F H) (h : ∀ b, ¬ P b) : Ext F0 H0 P F H := ⟨e.f, e.s, e.h, fun b hb => e.n b (h b) hb, e.t⟩
theorem ExtE.to0 {F0 H0 F H : Hp} (e : ExtE F0 H0 (fun _ => False) F H) : Ext F0 H0 (fun _ => False) F H := e.to fun _ z => z
theorem Ext.toE {F0 H0 F H : Hp} {P : Addr → Prop} (e : Ext F0 H0 P F H) : ExtE F0 H0 P F H := ⟨e.f, e.s, e.h, fun b _ hb => e.n b hb, e.t⟩
theorem some_ne {α : Type} {x : Option α} {y : α} (h : x = some y) : x ≠ none := by rw [h]; intro z; cases z
theorem ne_some {α : Type} {x : Option α} (h : x ≠ none) : ∃ y, x = some y := by
  cases x with
  | none => exact absurd rfl h
  | some y => exact ⟨y, rfl⟩
theorem ExtE.tr {F0 H0 F H F' H' : Hp} {P M : Addr → Prop} (e : ExtE F0 H0 P F H) (u : ExtE F H M F' H') (hm : ∀ b, M b → H0 b = none ∨ P b) : ExtE F0 H0 P F' H' where
  f := e.f.trans u.f
  s := u.s
  h := fun b o np h0 => u.h b o (fun m => by
    rcases hm b m with z | z
    · rw [h0] at z; cases z
    · exact np z) (e.h b o np h0)
  n := fun b np h0 => by
    have hb : H b ≠ none := fun z => h0 (e.t b z)
    rw [u.n b (fun m => by
      rcases hm b m with z | z
      · exact h0 z
      · exact np z) hb, e.n b np h0]
  t := fun b hb => e.t b (u.t b hb)

/-- the entry: its heaps; what it may change -/
structure Ent where
  F : Hp
  H : Hp
  P : Addr → Prop
abbrev Ent.mk0 (F H : Hp) : Ent := ⟨F, H, fun _ => False⟩
structure GG (E : Ent) (env : En) (st : List SP) (σ : L2.St) (vs : List V) (H : Hp) (F : Hp) (w : Ow) : Prop where
  ext : ExtE E.F E.H E.P F H
  env : EnvOk F H w env σ
  st : StOk F H w st vs
  own : ∀ a l, w a = some l → F a = none ∧ H a ≠ none ∧ (E.H a = none ∨ E.P a)
def G (E : Ent) (env : En) (st : List SP) (σ : L2.St) (vs : List V) (H : Hp) : Prop := ∃ F w, GG E env st σ vs H F w

theorem StOk.len {F H : Hp} {w : Ow} : ∀ {st : List SP} {vs : List V}, StOk F H w st vs → st.length = vs.length
  | [], [], _ => rfl
  | _ :: st, _ :: vs, h => by
    have := StOk.len (st := st) (vs := vs) h.2
    simp [this]
  | [], _ :: _, h => h.elim
  | _ :: _, [], h => h.elim
theorem ofq {w w' : Ow} {l : Lb} (h : ∀ a, w' a = some l ↔ w a = some l) : w'.of l = w.of l := funext fun a => propext (h a)
/-- slots whose ownership stays, behind a step that changed M -/
theorem SP.step {S : SP} {F H F' H' : Hp} {M : Addr → Prop} {w w' : Ow} {l : Lb} {v : V} (u : Ext F H M F' H') (h : S.ok F H (w.of l) v) (hl : ∀ a, w' a = some l ↔ w a = some l) (hM : ∀ a, w a = some l → ¬ M a ∧ H a ≠ none) : S.ok F' H' (w'.of l) v := by
  rw [ofq hl]
  refine S.mono h u.f fun a ha => ?_
  obtain ⟨nm, hn⟩ := hM a ha
  obtain ⟨o, e⟩ := ne_some hn
  rw [e]
  exact u.h a o nm e
theorem StOk.step {F H F' H' : Hp} {M : Addr → Prop} {w w' : Ow} (u : Ext F H M F' H') : ∀ {st : List SP} {vs : List V}, StOk F H w st vs → (∀ i, i < st.length → ∀ a, (w' a = some (.s i) ↔ w a = some (.s i)) ∧ (w a = some (.s i) → ¬ M a ∧ H a ≠ none)) → StOk F' H' w' st vs
  | [], [], _, _ => trivial
  | S :: st, v :: vs, h, k => by
    have k0 := k st.length (by simp)
    exact ⟨SP.step u h.1 (fun a => (k0 a).1) (fun a => (k0 a).2), StOk.step u h.2 fun i hi => k i (by simp; omega)⟩
  | [], _ :: _, h, _ => h.elim
  | _ :: _, [], h, _ => h.elim
theorem EnvOk.step {F H F' H' : Hp} {M : Addr → Prop} {w w' : Ow} {env : En} {σ : L2.St} (u : Ext F H M F' H') (h : EnvOk F H w env σ) (k : ∀ (i : Nat) (S : SP), env[i]? = some (some S) → ∀ a, (w' a = some (.e i) ↔ w a = some (.e i)) ∧ (w a = some (.e i) → ¬ M a ∧ H a ≠ none)) : EnvOk F' H' w' env σ :=
  ⟨h.1, fun i S e => by
    obtain ⟨v, e1, e2⟩ := h.2 i S e
    exact ⟨v, e1, SP.step u e2 (fun a => (k i S e a).1) (fun a => (k i S e a).2)⟩⟩

/-- the one step lemma: F', H', w' behind a change of M (owned), env and st as told -/
theorem GG.step {E : Ent} {env env' : En} {st st' : List SP} {σ σ' : L2.St} {vs vs' : List V} {H F F' H' : Hp} {w w' : Ow} {M : Addr → Prop} (g : GG E env st σ vs H F w) (u : Ext F H M F' H') (hM : ∀ b, M b → ∃ l, w b = some l)
    (hw : ∀ a l, w' a = some l → (∃ l0, w a = some l0) ∨ (H a = none ∧ F' a = none ∧ H' a ≠ none)) (he : EnvOk F' H' w' env' σ') (hs : StOk F' H' w' st' vs') : GG E env' st' σ' vs' H' F' w' where
  ext := g.ext.tr u.toE fun b m => by
    obtain ⟨l, e⟩ := hM b m
    exact (g.own b l e).2.2
  env := he
  st := hs
  own := fun a l e => by
    rcases hw a l e with ⟨l0, e0⟩ | ⟨h1, h2, h3⟩
    · obtain ⟨q1, q2, q3⟩ := g.own a l0 e0
      exact ⟨(u.n a q2).trans q1, fun z => q2 (u.t a z), q3⟩
    · exact ⟨h2, h3, .inl (g.ext.t a h1)⟩
/-- no change of the heap -/
theorem GG.re {E : Ent} {env env' : En} {st st' : List SP} {σ σ' : L2.St} {vs vs' : List V} {H F : Hp} {w w' : Ow} (g : GG E env st σ vs H F w) (hw : ∀ a l, w' a = some l → ∃ l0, w a = some l0) (he : EnvOk F H w' env' σ') (hs : StOk F H w' st' vs') : GG E env' st' σ' vs' H F w' :=
  g.step (M := fun _ => False) (Ext.refl g.ext.s) (fun _ z => z.elim) (fun a l e => .inl (hw a l e)) he hs
theorem GG.pushV {E : Ent} {env : En} {st : List SP} {σ : L2.St} {vs : List V} {H F : Hp} {w : Ow} {α : Type} {T : Ty α} {x : α} {v : V} (g : GG E env st σ vs H F w) (h : T.rp F v x) : GG E env (val T x :: st) σ (v :: vs) H F w :=
  g.re (fun a l e => ⟨l, e⟩) g.env ⟨h, g.st⟩
theorem GG.pop {E : Ent} {env : En} {S : SP} {st : List SP} {σ : L2.St} {v : V} {vs : List V} {H F : Hp} {w : Ow} (g : GG E env (S :: st) σ (v :: vs) H F w) : GG E env st σ vs H F w :=
  g.re (fun a l e => ⟨l, e⟩) g.env g.st.2
theorem GG.mid {E : Ent} {env : En} {α : Type} {T : Ty α} {x : α} {st : List SP} {σ : L2.St} {v : V} {vs : List V} {H F : Hp} {w : Ow} : ∀ {st1 : List SP} {vs1 : List V}, st1.length = vs1.length → GG E env (st1 ++ val T x :: st) σ (vs1 ++ v :: vs) H F w → T.rp F v x
  | [], [], _, g => g.st.1
  | _ :: st1, _ :: vs1, e, g => GG.mid (st1 := st1) (vs1 := vs1) (by simpa using e) g.pop
  | [], _ :: _, e, _ => by simp at e
  | _ :: _, [], e, _ => by simp at e
theorem GG.top {E : Ent} {env : En} {α : Type} {T : Ty α} {x : α} {st : List SP} {σ : L2.St} {v : V} {vs : List V} {H F : Hp} {w : Ow} (g : GG E env (val T x :: st) σ (v :: vs) H F w) : T.rp F v x := g.st.1
/-- a new object that all may know: F grows by it -/
theorem Ext.newF {F H : Hp} {p : Addr} {o : HO} (s : Same F H) (hp : H p = none) : Ext F H (fun _ => False) (upd F p o) (upd H p o) where
  f := fun b u e => by
    have hb : b ≠ p := fun z => by
      rw [z] at e
      have := s p u e
      rw [hp] at this; cases this
    rw [upd_ne hb]; exact e
  s := fun b u e => by
    by_cases hb : b = p
    · subst hb; rw [upd_same] at e ⊢; exact e
    · rw [upd_ne hb] at e ⊢; exact s b u e
  h := fun b u _ e => by rw [upd_ne (ne_of_none e hp)]; exact e
  n := fun b h => upd_ne fun z => h (by rw [z]; exact hp)
  t := fun b h => by
    by_cases hb : b = p
    · rw [hb, upd_same] at h; cases h
    · rw [upd_ne hb] at h; exact h
/-- a new object of one's own -/
theorem Ext.newO {F H : Hp} {p : Addr} {o : HO} (s : Same F H) (hp : H p = none) : Ext F H (fun _ => False) F (upd H p o) where
  f := Same.refl F
  s := fun b u e => by
    have := s b u e
    rw [upd_ne (ne_of_none this hp)]; exact this
  h := fun b u _ e => by rw [upd_ne (ne_of_none e hp)]; exact e
  n := fun _ _ => rfl
  t := fun b h => by
    by_cases hb : b = p
    · rw [hb, upd_same] at h; cases h
    · rw [upd_ne hb] at h; exact h
/-- an own object changed -/
theorem Ext.chg {F H : Hp} {p : Addr} {o : HO} (s : Same F H) (hf : F p = none) : Ext F H (fun b => b = p) F (upd H p o) where
  f := Same.refl F
  s := fun b u e => by
    rw [upd_ne (ne_of_none e hf)]; exact s b u e
  h := fun b u nb e => by rw [upd_ne nb]; exact e
  n := fun _ _ => rfl
  t := fun b h => by
    by_cases hb : b = p
    · rw [hb, upd_same] at h; cases h
    · rw [upd_ne hb] at h; exact h
/-- behind a step that changed nothing that is owned: the same slots -/
theorem GG.grow {E : Ent} {env : En} {st : List SP} {σ : L2.St} {vs : List V} {H F F' H' : Hp} {w : Ow} (g : GG E env st σ vs H F w) (u : Ext F H (fun _ => False) F' H') : GG E env st σ vs H' F' w :=
  g.step u (fun _ z => z.elim) (fun a l e => .inl ⟨l, e⟩)
    (g.env.step u fun i S _ a => ⟨Iff.rfl, fun e => ⟨fun z => z, (g.own a _ e).2.1⟩⟩)
    (g.st.step u fun i _ a => ⟨Iff.rfl, fun e => ⟨fun z => z, (g.own a _ e).2.1⟩⟩)
/-- w with the label l's set made N -/
noncomputable def Ow.put (w : Ow) (l : Lb) (N : Addr → Prop) : Ow := fun a => by
  classical
  exact if N a then some l else if w a = some l then none else w a
theorem Ow.put_of {w : Ow} {l : Lb} {N : Addr → Prop} : (w.put l N).of l = N := by
  classical
  funext a
  unfold Ow.of Ow.put
  by_cases h : N a
  · simp [h]
  · by_cases h2 : w a = some l
    · simp [h, h2]
    · simp [h, h2]
theorem Ow.put_ne {w : Ow} {l k : Lb} {N : Addr → Prop} (hk : k ≠ l) (hN : ∀ a, N a → w a = none ∨ w a = some l) (a : Addr) : (w.put l N) a = some k ↔ w a = some k := by
  classical
  unfold Ow.put
  by_cases h : N a
  · simp only [h, if_true]
    constructor
    · intro e; exact absurd (Option.some.inj e).symm hk
    · intro e
      rcases hN a h with z | z
      · rw [z] at e; cases e
      · rw [z] at e; exact absurd (Option.some.inj e).symm hk
  · by_cases h2 : w a = some l
    · simp only [h, if_false, h2, if_true]
      constructor
      · intro e; cases e
      · intro e; exact absurd (Option.some.inj e).symm hk
    · simp [h, h2]
theorem Ow.put_sub {w : Ow} {l k : Lb} {N : Addr → Prop} {a : Addr} (h : (w.put l N) a = some k) : N a ∨ w a = some k := by
  classical
  unfold Ow.put at h
  by_cases hN : N a
  · exact .inl hN
  · by_cases h2 : w a = some l
    · simp [hN, h2] at h
    · simp [hN, h2] at h
      exact .inr h
/-- a new object of one's own comes to the top -/
theorem GG.pushO {E : Ent} {env : En} {st : List SP} {σ : L2.St} {vs : List V} {H F : Hp} {w : Ow} {p : Addr} {o : HO} {S : SP} (g : GG E env st σ vs H F w) (hp : H p = none) (h : S.ok F (upd H p o) (fun b => b = p) (.ref p)) :
    GG E env (S :: st) σ (.ref p :: vs) (upd H p o) F (w.put (.s st.length) fun b => b = p) := by
  have u : Ext F H (fun _ => False) F (upd H p o) := Ext.newO (o := o) g.ext.s hp
  have wp : w p = none := by
    cases e : w p with
    | none => rfl
    | some l => exact absurd hp (g.own p l e).2.1
  have hN : ∀ a, a = p → w a = none ∨ w a = some (Lb.s st.length) := fun a z => .inl (by rw [z]; exact wp)
  refine g.step u (fun _ z => z.elim) (fun a l e => ?_) ?_ ⟨?_, ?_⟩
  · rcases Ow.put_sub e with z | z
    · refine .inr ?_
      rw [z]
      refine ⟨hp, ?_, by rw [upd_same]; intro q; cases q⟩
      cases q : F p with
      | none => rfl
      | some x => have := g.ext.s p x q; rw [hp] at this; cases this
    · exact .inl ⟨l, z⟩
  · exact g.env.step u fun i S _ a => ⟨Ow.put_ne (by intro z; cases z) hN a, fun e => ⟨fun z => z, (g.own a _ e).2.1⟩⟩
  · rw [Ow.put_of]; exact h
  · exact g.st.step u fun i hi a => ⟨Ow.put_ne (by intro z; cases z; omega) hN a, fun e => ⟨fun z => z, (g.own a _ e).2.1⟩⟩
/-- the top's slot goes to the name i -/
theorem GG.store {E : Ent} {env : En} {S : SP} {st : List SP} {σ : L2.St} {v : V} {vs : List V} {H F : Hp} {w : Ow} {i : Nat} (g : GG E env (S :: st) σ (v :: vs) H F w) (hi : i < env.length) :
    ∃ w', GG E (env.set i (some S)) st (σ.set i (some v)) vs H F w' := by
  classical
  refine ⟨fun a => if w a = some (.s st.length) then some (.e i) else if w a = some (.e i) then none else w a, g.re (fun a l e => ?_) ⟨by simpa using g.env.1, fun j S' e => ?_⟩ ?_⟩
  · by_cases h : w a = some (.s st.length)
    · exact ⟨_, h⟩
    · by_cases h2 : w a = some (.e i)
      · simp [h2] at e
      · simp [h, h2] at e; exact ⟨_, e⟩
  · by_cases hj : i = j
    · subst hj
      have e1 : S = S' := by
        rw [List.getElem?_set_self hi] at e
        exact Option.some.inj (Option.some.inj e)
      subst e1
      refine ⟨v, by rw [List.getElem?_set_self (Nat.lt_of_lt_of_le hi g.env.1)], ?_⟩
      have hq := g.st.1
      have ee : Ow.of (fun a => if w a = some (.s st.length) then some (.e i) else if w a = some (.e i) then none else w a) (.e i) = w.of (.s st.length) := by
        funext a
        unfold Ow.of
        by_cases h : w a = some (.s st.length)
        · simp [h]
        · by_cases h2 : w a = some (.e i)
          · simp [h, h2]
          · simp [h, h2]
      rw [ee]
      exact hq
    · rw [List.getElem?_set_ne hj] at e
      obtain ⟨u, e1, e2⟩ := g.env.2 j S' e
      refine ⟨u, by rw [List.getElem?_set_ne hj]; exact e1, ?_⟩
      have ee : Ow.of (fun a => if w a = some (.s st.length) then some (.e i) else if w a = some (.e i) then none else w a) (.e j) = w.of (.e j) := by
        funext a
        unfold Ow.of
        by_cases h : w a = some (.s st.length)
        · simp [h]; exact fun z => hj z
        · by_cases h2 : w a = some (.e i)
          · simp [h, h2]; exact fun z => hj z
          · simp [h, h2]
      rw [ee]
      exact e2
  · refine g.st.2.step (M := fun _ => False) (Ext.refl g.ext.s) fun k hk a => ⟨?_, fun e => ⟨fun z => z, (g.own a _ e).2.1⟩⟩
    show (if w a = some (.s st.length) then some (.e i) else if w a = some (.e i) then none else w a) = some (.s k) ↔ w a = some (.s k)
    by_cases h : w a = some (.s st.length)
    · simp [h]; omega
    · by_cases h2 : w a = some (.e i)
      · simp [h, h2]
      · simp [h, h2]
/-- names may be forgotten, slots weakened -/
def Fgt (env env' : En) : Prop := env'.length ≤ env.length ∧ ∀ (i : Nat) (S : SP), env'[i]? = some (some S) → ∃ S0, env[i]? = some (some S0) ∧ ∀ F H o v, S0.ok F H o v → S.ok F H o v
theorem Fgt.refl (env : En) : Fgt env env := ⟨Nat.le_refl _, fun _ S h => ⟨S, h, fun _ _ _ _ h => h⟩⟩
theorem G.fgt {E : Ent} {env env' : En} {st : List SP} {σ : L2.St} {vs : List V} {H : Hp} (g : G E env st σ vs H) (h : Fgt env env') : G E env' st σ vs H := by
  obtain ⟨F, w, g⟩ := g
  exact ⟨F, w, g.re (fun a l e => ⟨l, e⟩) ⟨Nat.le_trans h.1 g.env.1, fun i S e => by
    obtain ⟨S0, e0, k⟩ := h.2 i S e
    obtain ⟨v, e1, e2⟩ := g.env.2 i S0 e0
    exact ⟨v, e1, k _ _ _ _ e2⟩⟩ g.st⟩
/-- the slot below the top goes -/
theorem GG.nip {E : Ent} {env : En} {S Z : SP} {st : List SP} {σ : L2.St} {v z : V} {vs : List V} {H F : Hp} {w : Ow} (g : GG E env (S :: Z :: st) σ (v :: z :: vs) H F w) : ∃ w', GG E env (S :: st) σ (v :: vs) H F w' := by
  have hq := g.st.1
  have hS : ∀ a, w a = some (.s (Z :: st).length) → a = a := fun _ _ => rfl
  classical
  refine ⟨fun a => if w a = some (.s (st.length + 1)) then some (.s st.length) else if w a = some (.s st.length) then none else w a, g.re (fun a l e => ?_) (g.env.step (M := fun _ => False) (Ext.refl g.ext.s) fun i S' _ a => ⟨?_, fun e => ⟨fun z => z, (g.own a _ e).2.1⟩⟩) ⟨?_, g.st.2.2.step (M := fun _ => False) (Ext.refl g.ext.s) fun k hk a => ⟨?_, fun e => ⟨fun z => z, (g.own a _ e).2.1⟩⟩⟩⟩
  · by_cases h : w a = some (.s (st.length + 1))
    · exact ⟨_, h⟩
    · by_cases h2 : w a = some (.s st.length)
      · simp [h2] at e
      · simp [h, h2] at e; exact ⟨_, e⟩
  · show (if w a = some (.s (st.length + 1)) then some (.s st.length) else if w a = some (.s st.length) then none else w a) = some (.e i) ↔ w a = some (.e i)
    by_cases h : w a = some (.s (st.length + 1))
    · simp [h]
    · by_cases h2 : w a = some (.s st.length)
      · simp [h, h2]
      · simp [h, h2]
  · have ee : Ow.of (fun a => if w a = some (.s (st.length + 1)) then some (.s st.length) else if w a = some (.s st.length) then none else w a) (.s st.length) = w.of (.s (st.length + 1)) := by
      funext a
      unfold Ow.of
      by_cases h : w a = some (.s (st.length + 1))
      · simp [h]
      · by_cases h2 : w a = some (.s st.length)
        · simp [h, h2]
        · simp [h, h2]
    rw [ee]
    simpa using hq
  · show (if w a = some (.s (st.length + 1)) then some (.s st.length) else if w a = some (.s st.length) then none else w a) = some (.s k) ↔ w a = some (.s k)
    by_cases h : w a = some (.s (st.length + 1))
    · simp [h]; omega
    · by_cases h2 : w a = some (.s st.length)
      · simp [h, h2]; omega
      · simp [h, h2]
/-! ### what is owned becomes a value that all may know -/
def Fz (S : SP) (q : VP) : Prop := ∀ (F H : Hp) (o : Addr → Prop) (v : V), S.ok F H o v → (∀ a, o a → F a = none) → ∀ F', Same F F' → (∀ a, o a → F' a = H a) → q.p F' v
theorem fz_v {q : VP} : Fz q.sp q := fun F H o v h _ F' s _ => q.mono s h
theorem fz_val {α : Type} {T : Ty α} {x : α} : Fz (val T x) (vp T x) := fz_v
theorem fz_mu {α : Type} {φ : V → Prop} {T : Ty α} {xs : List α} : Fz (muL φ T xs) (vp (tL T) xs) := fun F H o v ⟨a, us, e, f, ho, h, p⟩ _ F' s k => ⟨a, us, e, (k a ((ho a).mpr rfl)).trans h, Paired.mono p fun _ _ => T.mono s⟩
/-- what l owns goes to F -/
theorem GG.frzL {E : Ent} {env : En} {st : List SP} {σ : L2.St} {vs : List V} {H F : Hp} {w : Ow} (g : GG E env st σ vs H F w) (l : Lb) : ∃ (F' : Hp) (w' : Ow), Same F F' ∧ (∀ a, w a = some l → F' a = H a) ∧ (∀ k, k ≠ l → w'.of k = w.of k) ∧ ExtE E.F E.H E.P F' H ∧ (∀ a k, w' a = some k → F' a = none ∧ H a ≠ none ∧ (E.H a = none ∨ E.P a)) := by
  classical
  have sF : Same F (fun a => if w a = some l then H a else F a) := fun b o e => by
    have hb : ¬ w b = some l := fun z => by
      rw [(g.own b l z).1] at e; cases e
    show (if w b = some l then H b else F b) = some o
    rw [if_neg hb]; exact e
  have sH : Same (fun a => if w a = some l then H a else F a) H := fun b o e => by
    have e' : (if w b = some l then H b else F b) = some o := e
    by_cases hb : w b = some l
    · rw [if_pos hb] at e'; exact e'
    · rw [if_neg hb] at e'; exact g.ext.s b o e'
  refine ⟨fun a => if w a = some l then H a else F a, w.put l (fun _ => False), sF, fun a h => if_pos h, fun k hk => ofq (Ow.put_ne (N := fun _ => False) hk (fun _ z => False.elim z)), ⟨g.ext.f.trans sF, sH, g.ext.h, fun b nb hb => ?_, g.ext.t⟩, fun b k e => ?_⟩
  · have hl : ¬ w b = some l := fun z => by
      rcases (g.own b l z).2.2 with y | y
      · exact hb y
      · exact nb y
    show (if w b = some l then H b else F b) = E.F b
    rw [if_neg hl]
    exact g.ext.n b nb hb
  · have hl : ¬ w b = some l := fun z => by
      have : (w.put l fun _ => False) b = none := by
        unfold Ow.put
        simp [z]
      rw [this] at e; cases e
    rcases Ow.put_sub e with z | z
    · exact z.elim
    · obtain ⟨r1, r2, r3⟩ := g.own b k z
      exact ⟨by show (if w b = some l then H b else F b) = none; rw [if_neg hl]; exact r1, r2, r3⟩
theorem StOk.reF {F F' H : Hp} {w w' : Ow} (s : Same F F') : ∀ {st : List SP} {vs : List V}, StOk F H w st vs → (∀ i, i < st.length → w'.of (.s i) = w.of (.s i)) → StOk F' H w' st vs
  | [], [], _, _ => trivial
  | S :: st, v :: vs, h, k => ⟨by rw [k st.length (by simp)]; exact S.mono h.1 s fun _ _ => rfl, StOk.reF s h.2 fun i hi => k i (by simp; omega)⟩
  | [], _ :: _, h, _ => h.elim
  | _ :: _, [], h, _ => h.elim
theorem GG.freezeS {E : Ent} {env : En} {S : SP} {q : VP} {st : List SP} {σ : L2.St} {v : V} {vs : List V} {H F : Hp} {w : Ow} (g : GG E env (S :: st) σ (v :: vs) H F w) (z : Fz S q) :
    ∃ F' w', GG E env (q.sp :: st) σ (v :: vs) H F' w' := by
  obtain ⟨F', w', s, hl, hk, e, o⟩ := g.frzL (.s st.length)
  refine ⟨F', w', e, ⟨g.env.1, fun i S' h => ?_⟩, ⟨z F H _ v g.st.1 (fun a ha => (g.own a _ ha).1) F' s hl, g.st.2.reF s fun i hi => hk _ (by intro y; injection y with y; omega)⟩, o⟩
  obtain ⟨u, e1, e2⟩ := g.env.2 i S' h
  refine ⟨u, e1, ?_⟩
  rw [hk _ (by intro y; cases y)]
  exact S'.mono e2 s fun _ _ => rfl
theorem GG.frzE {E : Ent} {env : En} {S : SP} {q : VP} {i : Nat} {st : List SP} {σ : L2.St} {vs : List V} {H F : Hp} {w : Ow} (g : GG E env st σ vs H F w) (h : env[i]? = some (some S)) (z : Fz S q) : ∃ F' w', GG E (env.set i (some q.sp)) st σ vs H F' w' := by
  obtain ⟨F', w', s, hl, hk, e, o⟩ := g.frzL (.e i)
  have hi : i < env.length := (List.getElem?_eq_some_iff.mp h).1
  refine ⟨F', w', e, ⟨by simpa using g.env.1, fun j S' h' => ?_⟩, g.st.reF s fun k hk' => hk _ (by intro y; cases y), o⟩
  by_cases hj : i = j
  · subst hj
    rw [List.getElem?_set_self hi] at h'
    cases h'
    obtain ⟨u, e1, e2⟩ := g.env.2 i S h
    exact ⟨u, e1, z F H _ u e2 (fun a ha => (g.own a _ ha).1) F' s hl⟩
  · rw [List.getElem?_set_ne hj] at h'
    obtain ⟨u, e1, e2⟩ := g.env.2 j S' h'
    refine ⟨u, e1, ?_⟩
    rw [hk _ (by intro y; injection y with y; exact hj y.symm)]
    exact S'.mono e2 s fun _ _ => rfl
/-- the top's own list becomes a value -/
theorem GG.freeze {E : Ent} {env : En} {α : Type} {φ : V → Prop} {T : Ty α} {xs : List α} {st : List SP} {σ : L2.St} {v : V} {vs : List V} {H F : Hp} {w : Ow} (g : GG E env (muL φ T xs :: st) σ (v :: vs) H F w) :
    ∃ F' w', GG E env (val (tL T) xs :: st) σ (v :: vs) H F' w' := g.freezeS fz_mu
end ML

set_option Elab.async false
set_option linter.all false
set_option maxRecDepth 100000
set_option maxHeartbeats 2000000
namespace ML
open PySem PySem.Spec PyProof.Rows L2

/-! ### judgements -/
/-- an expression: m its value, if some; S its slot; env' the names behind it -/
def EX {α : Type} (E : Ent) (env : En) (te : TE) (m : Option α) (S : α → SP) (env' : α → En) : Prop :=
  ∀ (st : List SP) (vs : List V) (σ : L2.St) (H : Hp) (Q : VK) (x : α), G E env st σ vs H → m = some x → (∀ v H', G E (env' x) (S x :: st) σ (v :: vs) H' → Q v H') → te σ H Q
abbrev EV {α : Type} (E : Ent) (env : En) (te : TE) (m : Option α) (S : α → SP) : Prop := EX E env te m S fun _ => env
/-- a test -/
def TX (E : Ent) (env : En) (tt : TT) (m : Option Bool) : Prop :=
  ∀ (st : List SP) (vs : List V) (σ : L2.St) (H : Hp) (Q : Bool → Hp → Prop) (b : Bool), G E env st σ vs H → m = some b → (∀ H', G E env st σ vs H' → Q b H') → tt σ H Q
/-- an argument list: acc what has come; Pc what is told of all -/
def AX {γ : Type} (E : Ent) (env : En) (ta : TA) (acc : List SP) (m : Option γ) (Pc : γ → List SP → Prop) : Prop :=
  ∀ (st : List SP) (vs us0 : List V) (σ : L2.St) (H : Hp) (Q : List V → Hp → Prop) (c : γ), G E env (acc ++ st) σ (us0 ++ vs) H → us0.length = acc.length → m = some c → (∀ us H' Ss, Pc c Ss → Ss.length = (us0 ++ us).length → G E env (Ss ++ st) σ (us.reverse ++ us0 ++ vs) H' → Q us H') → ta σ H Q
/-- one value to one; two to one -/
def O1 {γ : Type} (r : V → Hp → VK → Prop) (Sa : SP) (m : Option γ) (S : γ → SP) : Prop :=
  ∀ (E : Ent) (env : En) (st : List SP) (σ : L2.St) (vs : List V) (H : Hp) (Q : VK) (va : V) (c : γ), G E env (Sa :: st) σ (va :: vs) H → m = some c → (∀ v H', G E env (S c :: st) σ (v :: vs) H' → Q v H') → r va H Q
def O2 {γ : Type} (r : R2) (Sa Sb : SP) (m : Option γ) (S : γ → SP) : Prop :=
  ∀ (E : Ent) (env : En) (st : List SP) (σ : L2.St) (vs : List V) (H : Hp) (Q : VK) (va vb : V) (c : γ), G E env (Sb :: Sa :: st) σ (vb :: va :: vs) H → m = some c → (∀ v H', G E env (S c :: st) σ (v :: vs) H' → Q v H') → r va vb H Q

section
variable {α β γ δ : Type} {E : Ent} {env : En} {te ta tb tc : TE} {tt tu : TT}
theorem G.popV {S : SP} {st : List SP} {σ : L2.St} {v : V} {vs : List V} {H : Hp} (g : G E env (S :: st) σ (v :: vs) H) : G E env st σ vs H := by
  obtain ⟨F, w, g⟩ := g
  exact ⟨F, w, g.pop⟩

/-! ### expressions -/
theorem ev_var {i : Nat} {T : Ty α} {x : α} (h : env[i]? = some (some (val T x))) : EV E env (tVar i) (some x) (val T) := by
  intro st vs σ H Q y g hm hq
  cases hm
  obtain ⟨F, w, g⟩ := g
  obtain ⟨v, e1, e2⟩ := g.env.2 i _ h
  exact ⟨v, e1, hq v H ⟨F, w, g.pushV e2⟩⟩
theorem ev_c {T : Ty α} {x : α} {v : V} (h : ∀ F, T.rp F v x) : EV E env (tC v) (some x) (val T) := by
  intro st vs σ H Q y g hm hq
  cases hm
  obtain ⟨F, w, g⟩ := g
  exact hq v H ⟨F, w, g.pushV (h F)⟩
theorem ev_int {i : Int} : EV E env (tC (.int i)) (some i) (val tInt) := ev_c fun _ => rfl
theorem ev_bl {i : Bool} : EV E env (tC (.bl i)) (some i) (val tBool) := ev_c fun _ => rfl
theorem ev_str {i : Str} : EV E env (tC (.str i)) (some i) (val tStr) := ev_c fun _ => rfl
theorem ev_non : EV E env (tC .non) (some ()) (val tNon) := ev_c fun _ => rfl
theorem ev_none {T : Ty α} : EV E env (tC .non) (some (none : Option α)) (val (tOpt T)) := ev_c fun _ => rfl
theorem ev_op {r : R2} {ma : Option α} {mb : α → Option β} {mc : α → β → Option γ} {Sa : α → SP} {Sb : β → SP} {S : γ → SP} (ha : EV E env ta ma Sa) (hb : ∀ a, EV E env tb (mb a) Sb) (hr : ∀ a b, O2 r (Sa a) (Sb b) (mc a b) S) :
    EV E env (tOp r ta tb) (ma.bind fun a => (mb a).bind fun b => mc a b) S := by
  intro st vs σ H Q c g hm hq
  obtain ⟨a, ea, hm⟩ := Option.bind_eq_some_iff.mp hm
  obtain ⟨b, eb, hm⟩ := Option.bind_eq_some_iff.mp hm
  exact ha st vs σ H _ a g ea fun va H1 g1 => hb a _ _ σ H1 _ b g1 eb fun vb H2 g2 => hr a b E env st σ vs H2 Q va vb c g2 hm hq
theorem ev_un {r : V → Hp → VK → Prop} {ma : Option α} {mc : α → Option γ} {Sa : α → SP} {S : γ → SP} (ha : EV E env ta ma Sa) (hr : ∀ a, O1 r (Sa a) (mc a) S) : EV E env (tUn r ta) (ma.bind mc) S := by
  intro st vs σ H Q c g hm hq
  obtain ⟨a, ea, hm⟩ := Option.bind_eq_some_iff.mp hm
  exact ha st vs σ H _ a g ea fun va H1 g1 => hr a E env st σ vs H1 Q va c g1 hm hq
/-- f(e), f(e, e'), f a built-in -/
theorem ev_cb1 {r : List V → Hp → VK → Prop} {ma : Option α} {mc : α → Option γ} {Sa : α → SP} {S : γ → SP} (ha : EV E env ta ma Sa) (hr : ∀ a, O1 (fun v H Q => r [v] H Q) (Sa a) (mc a) S) : EV E env (tCB r (tCons ta tNil)) (ma.bind mc) S := by
  intro st vs σ H Q c g hm hq
  obtain ⟨a, ea, hm⟩ := Option.bind_eq_some_iff.mp hm
  exact ha st vs σ H _ a g ea fun va H1 g1 => hr a E env st σ vs H1 Q va c g1 hm hq
theorem ev_cb2 {r : List V → Hp → VK → Prop} {ma : Option α} {mb : α → Option β} {mc : α → β → Option γ} {Sa : α → SP} {Sb : β → SP} {S : γ → SP} (ha : EV E env ta ma Sa) (hb : ∀ a, EV E env tb (mb a) Sb) (hr : ∀ a b, O2 (fun v u H Q => r [v, u] H Q) (Sa a) (Sb b) (mc a b) S) :
    EV E env (tCB r (tCons ta (tCons tb tNil))) (ma.bind fun a => (mb a).bind fun b => mc a b) S := by
  intro st vs σ H Q c g hm hq
  obtain ⟨a, ea, hm⟩ := Option.bind_eq_some_iff.mp hm
  obtain ⟨b, eb, hm⟩ := Option.bind_eq_some_iff.mp hm
  exact ha st vs σ H _ a g ea fun va H1 g1 => hb a _ _ σ H1 _ b g1 eb fun vb H2 g2 => hr a b E env st σ vs H2 Q va vb c g2 hm hq
/-- a new list of one's own becomes a value -/
theorem ev_frz {T : Ty α} {φ : V → Prop} {m : Option (List α)} (h : EV E env te m (muL φ T)) : EV E env te m (val (tL T)) := by
  intro st vs σ H Q x g hm hq
  refine h st vs σ H Q x g hm fun v H' ⟨F, w, g'⟩ => ?_
  obtain ⟨F', w', g2⟩ := g'.freeze
  exact hq v H' ⟨F', w', g2⟩
/-- another view of the same slot -/
theorem ev_as {m : Option α} {f : α → β} {S : α → SP} {S' : β → SP} (h : EV E env te m S) (k : ∀ x F H o v, (S x).ok F H o v → (S' (f x)).ok F H o v) : EV E env te (m.map f) S' := by
  intro st vs σ H Q y g hm hq
  obtain ⟨x, ex, rfl⟩ := Option.map_eq_some_iff.mp hm
  refine h st vs σ H Q x g ex fun v H' ⟨F, w, g'⟩ => hq v H' ⟨F, w, g'.re (fun a l e => ⟨l, e⟩) g'.env ⟨k x _ _ _ _ g'.st.1, g'.st.2⟩⟩
theorem ev_to {m : Option α} {S S' : α → SP} (h : EV E env te m S) (k : ∀ x F H o v, (S x).ok F H o v → (S' x).ok F H o v) : EV E env te m S' := by
  intro st vs σ H Q x g hm hq
  refine h st vs σ H Q x g hm fun v H' ⟨F, w, g'⟩ => hq v H' ⟨F, w, g'.re (fun a l e => ⟨l, e⟩) g'.env ⟨k x _ _ _ _ g'.st.1, g'.st.2⟩⟩
/-- t ? a : b -/
theorem ev_if {mt : Option Bool} {ma mb : Option γ} {S : γ → SP} (ht : TX E env tt mt) (ha : EV E env ta ma S) (hb : EV E env tb mb S) : EV E env (tIf tt ta tb) (mt.bind fun b => if b = true then ma else mb) S := by
  intro st vs σ H Q c g hm hq
  obtain ⟨b, eb, hm⟩ := Option.bind_eq_some_iff.mp hm
  refine ht st vs σ H _ b g eb fun H1 g1 => ?_
  cases b with
  | true => exact ha st vs σ H1 Q c g1 hm hq
  | false => exact hb st vs σ H1 Q c g1 hm hq
/-- and, or, not as values -/
theorem ev_and {ma mb : Option Bool} (ha : EV E env ta ma (val tBool)) (hb : EV E env tb mb (val tBool)) : EV E env (tAndV ta tb) (ma.bind fun b => if b = true then mb else some false) (val tBool) := by
  intro st vs σ H Q c g hm hq
  obtain ⟨b, eb, hm⟩ := Option.bind_eq_some_iff.mp hm
  refine ha st vs σ H _ b g eb fun v H1 ⟨F, w, g1⟩ => ⟨b, g1.top, ?_⟩
  cases b with
  | true => exact hb st vs σ H1 Q c ⟨F, w, g1.pop⟩ hm hq
  | false =>
    cases hm
    exact hq _ _ ⟨F, w, g1.pop.pushV rfl⟩
theorem ev_or {ma mb : Option Bool} (ha : EV E env ta ma (val tBool)) (hb : EV E env tb mb (val tBool)) : EV E env (tOrV ta tb) (ma.bind fun b => if b = true then some true else mb) (val tBool) := by
  intro st vs σ H Q c g hm hq
  obtain ⟨b, eb, hm⟩ := Option.bind_eq_some_iff.mp hm
  refine ha st vs σ H _ b g eb fun v H1 ⟨F, w, g1⟩ => ⟨b, g1.top, ?_⟩
  cases b with
  | true =>
    cases hm
    exact hq _ _ ⟨F, w, g1.pop.pushV rfl⟩
  | false => exact hb st vs σ H1 Q c ⟨F, w, g1.pop⟩ hm hq
theorem ev_not {ma : Option Bool} (ha : EV E env ta ma (val tBool)) : EV E env (tNotV ta) (ma.bind fun b => some (!b)) (val tBool) := by
  intro st vs σ H Q c g hm hq
  obtain ⟨b, eb, hm⟩ := Option.bind_eq_some_iff.mp hm
  cases hm
  exact ha st vs σ H _ b g eb fun v H1 ⟨F, w, g1⟩ => ⟨b, g1.top, hq _ _ ⟨F, w, g1.pop.pushV rfl⟩⟩
/-! ### tests -/
theorem tx_e {m : Option Bool} (h : EV E env te m (val tBool)) : TX E env (tTest te) m := by
  intro st vs σ H Q b g hm hq
  exact h st vs σ H _ b g hm fun v H1 ⟨F, w, g1⟩ => ⟨b, g1.top, hq H1 ⟨F, w, g1.pop⟩⟩
theorem tx_b {m : Option Bool} (h : EV E env te m (val tBool)) : TX E env (tB te) m := by
  intro st vs σ H Q b g hm hq
  exact h st vs σ H _ b g hm fun v H1 ⟨F, w, g1⟩ => ⟨b, g1.top, hq H1 ⟨F, w, g1.pop⟩⟩
theorem tx_and {ma mb : Option Bool} (ha : TX E env tt ma) (hb : TX E env tu mb) : TX E env (tAnd tt tu) (ma.bind fun b => if b = true then mb else some false) := by
  intro st vs σ H Q c g hm hq
  obtain ⟨b, eb, hm⟩ := Option.bind_eq_some_iff.mp hm
  refine ha st vs σ H _ b g eb fun H1 g1 => ?_
  cases b with
  | true => exact hb st vs σ H1 Q c g1 hm hq
  | false => cases hm; exact hq _ g1
theorem tx_or {ma mb : Option Bool} (ha : TX E env tt ma) (hb : TX E env tu mb) : TX E env (tOr tt tu) (ma.bind fun b => if b = true then some true else mb) := by
  intro st vs σ H Q c g hm hq
  obtain ⟨b, eb, hm⟩ := Option.bind_eq_some_iff.mp hm
  refine ha st vs σ H _ b g eb fun H1 g1 => ?_
  cases b with
  | true => cases hm; exact hq _ g1
  | false => exact hb st vs σ H1 Q c g1 hm hq
theorem tx_not {ma : Option Bool} (ha : TX E env tt ma) : TX E env (tNot tt) (ma.bind fun b => some (!b)) := by
  intro st vs σ H Q c g hm hq
  obtain ⟨b, eb, hm⟩ := Option.bind_eq_some_iff.mp hm
  cases hm
  exact ha st vs σ H _ b g eb fun H1 g1 => hq H1 g1
/-- a op b op' c -/
theorem ev_chain {r r' : R2} {ma : Option α} {mb : Option β} {mc : Option γ} {m1 : α → β → Option Bool} {m2 : β → γ → Option Bool} {T : Ty α} {U : Ty β} {W : Ty γ} (ha : EV E env ta ma (val T)) (hb : EV E env tb mb (val U)) (hc : EV E env tc mc (val W))
    (h1 : ∀ a b, O2 r (val T a) (val U b) (m1 a b) (val tBool)) (h2 : ∀ b c, O2 r' (val U b) (val W c) (m2 b c) (val tBool)) :
    EV E env (tChain r r' ta tb tc) (ma.bind fun a => mb.bind fun b => (m1 a b).bind fun k => if k = true then mc.bind fun c => m2 b c else some false) (val tBool) := by
  intro st vs σ H Q c g hm hq
  obtain ⟨a, ea, hm⟩ := Option.bind_eq_some_iff.mp hm
  obtain ⟨b, eb, hm⟩ := Option.bind_eq_some_iff.mp hm
  obtain ⟨k, ek, hm⟩ := Option.bind_eq_some_iff.mp hm
  refine ha st vs σ H _ a g ea fun va H1 g1 => hb _ _ σ H1 _ b g1 eb fun vb H2 g2 => ?_
  obtain ⟨F2, w2, g2⟩ := g2
  have gb : U.rp F2 vb b := g2.top
  -- keep b's value below
  have g2' : GG E env (val U b :: val T a :: val U b :: st) σ (vb :: va :: vb :: vs) H2 F2 w2 := g2.re (fun a l e => ⟨l, e⟩) g2.env ⟨g2.st.1, g2.st.2.1, gb, g2.st.2.2⟩
  refine h1 a b E env _ σ _ H2 _ va vb k ⟨F2, w2, g2'⟩ ek fun v H3 ⟨F3, w3, g3⟩ => ⟨k, g3.top, ?_⟩
  cases k with
  | true =>
    rw [if_pos rfl]
    obtain ⟨z, ez, hm⟩ := Option.bind_eq_some_iff.mp hm
    exact hc _ _ σ H3 _ z ⟨F3, w3, g3.pop⟩ ez fun vc H4 g4 => h2 b z E env st σ vs H4 Q vb vc c g4 hm hq
  | false =>
    rw [if_neg Bool.false_ne_true] at hm ⊢
    cases hm
    exact hq _ _ ⟨F3, w3, g3.pop.pop.pushV rfl⟩
theorem tx_chain {r r' : R2} {m : Option Bool} (h : EV E env (tChain r r' ta tb tc) m (val tBool)) : TX E env (tTest (tChain r r' ta tb tc)) m := tx_e h
/-! ### arguments -/
theorem ax_nil {acc : List SP} {m : Option γ} {Pc : γ → List SP → Prop} (h : ∀ c, m = some c → Pc c acc) : AX E env tNil acc m Pc := by
  intro st vs us0 σ H Q c g hl hm hq
  exact hq [] H acc (h c hm) (by simp [hl]) g
theorem ax_cons {tr : TA} {acc : List SP} {m1 : Option α} {m2 : α → Option γ} {S : α → SP} {Pc : γ → List SP → Prop} (h1 : EV E env te m1 S) (h2 : ∀ a, AX E env tr (S a :: acc) (m2 a) Pc) : AX E env (tCons te tr) acc (m1.bind m2) Pc := by
  intro st vs us0 σ H Q c g hl hm hq
  obtain ⟨a, ea, hm⟩ := Option.bind_eq_some_iff.mp hm
  refine h1 _ _ σ H _ a g ea fun v H1 g1 => h2 a st vs (v :: us0) σ H1 _ c g1 (by simp [hl]) hm fun us H' Ss hp hz g2 => hq (v :: us) H' Ss hp (by simp at hz ⊢; omega) (by simpa using g2)
/-- a display [..] of values: a new list of one's own -/
theorem vals_of {T : Ty α} {F H : Hp} {w : Ow} : ∀ {st : List SP} {vs : List V} {xs : List α} {us : List V}, StOk F H w ((xs.map (val T)) ++ st) (us ++ vs) → us.length = xs.length → Paired (T.rp F) us xs ∧ StOk F H w st vs
  | _, _, [], [], h, _ => ⟨.nil, h⟩
  | _, _, x :: xs, u :: us, h, e => by
    obtain ⟨p, q⟩ := vals_of (xs := xs) (us := us) h.2 (by simpa using e)
    exact ⟨.cons h.1 p, q⟩
  | _, _, [], _ :: _, _, e => by simp at e
  | _, _, _ :: _, [], _, e => by simp at e
theorem Paired.rev {α β : Type} {f : α → β → Prop} : ∀ {l : List α} {m : List β}, Paired f l m → Paired f l.reverse m.reverse
  | _, _, .nil => .nil
  | _, _, .cons r t => by
    rw [List.reverse_cons, List.reverse_cons]
    exact Paired.snoc (Paired.rev t) r
theorem ev_lst {T : Ty α} {t : TA} {m : Option (List α)} (h : AX E env t [] m fun c Ss => Ss = (c.map (val T)).reverse ∧ c.length ≤ 1000) : EV E env (tLst t) m (own T) := by
  intro st vs σ H Q c g hm hq
  refine h st vs [] σ H _ c g rfl hm fun us H' Ss ⟨hs, hc⟩ hl ⟨F, w, g'⟩ => ?_
  subst hs
  rw [← List.map_reverse] at g'
  have hlen : us.length = c.length := by simpa using hl.symm
  obtain ⟨p, q⟩ := vals_of (xs := c.reverse) (us := us.reverse) (by simpa using g'.st) (by simp [hlen])
  have p2 : Paired (T.rp F) us c := by simpa using Paired.rev p
  refine ⟨Nat.le_of_lt (small1000 (by omega)), fun a ha => hq _ _ ⟨F, _, (g'.re (fun a l e => ⟨l, e⟩) g'.env q : GG E env st σ vs H' F w).pushO ha ⟨a, us, rfl, trivial, fun b => Iff.rfl, upd_same, p2⟩⟩⟩
/-- a pair (a, b) -/
theorem ev_pair {T : Ty α} {U : Ty β} {ma : Option α} {mb : α → Option β} (ha : EV E env ta ma (val T)) (hb : ∀ a, EV E env tb (mb a) (val U)) : EV E env (tTup (tCons ta (tCons tb tNil))) (ma.bind fun a => (mb a).bind fun b => some (a, b)) (val (tP T U)) := by
  intro st vs σ H Q c g hm hq
  obtain ⟨a, ea, hm⟩ := Option.bind_eq_some_iff.mp hm
  obtain ⟨b, eb, hm⟩ := Option.bind_eq_some_iff.mp hm
  cases hm
  refine ha st vs σ H _ a g ea fun va H1 g1 => hb a _ _ σ H1 _ b g1 eb fun vb H2 ⟨F, w, g2⟩ => ⟨by show 2 ≤ sizeLine; decide, fun p hp => ?_⟩
  have u := Ext.newF (F := F) (o := .tup [va, vb]) g2.ext.s hp
  exact hq _ _ ⟨_, w, (g2.pop.pop.grow u).pushV ⟨p, va, vb, rfl, upd_same, T.mono u.f g2.st.2.1, U.mono u.f g2.st.1⟩⟩
/-! ### the operators -/
/-- nothing is made -/
theorem o2_mk {r : R2} {T : Ty α} {U : Ty β} {W : Ty γ} {a : α} {b : β} {m : Option γ} (hr : ∀ c, m = some c → ∀ (F H : Hp) (Q : VK) (va vb : V), Same F H → T.rp F va a → U.rp F vb b → (∀ v, W.rp F v c → Q v H) → r va vb H Q) : O2 r (val T a) (val U b) m (val W) := by
  intro E env st σ vs H Q va vb c ⟨F, w, g⟩ hm hq
  exact hr c hm F H Q va vb g.ext.s g.st.2.1 g.st.1 fun v hv => hq v H ⟨F, w, g.pop.pop.pushV hv⟩
theorem o1_mk {r : V → Hp → VK → Prop} {T : Ty α} {W : Ty γ} {a : α} {m : Option γ} (hr : ∀ c, m = some c → ∀ (F H : Hp) (Q : VK) (va : V), Same F H → T.rp F va a → (∀ v, W.rp F v c → Q v H) → r va H Q) : O1 r (val T a) m (val W) := by
  intro E env st σ vs H Q va c ⟨F, w, g⟩ hm hq
  exact hr c hm F H Q va g.ext.s g.st.1 fun v hv => hq v H ⟨F, w, g.pop.pushV hv⟩
theorem o2_int {C : Int → Int → Prop} {f : Int → Int → Int} {a b : Int} (hc : C a b) : O2 (rI C fun i j => .int (f i j)) (val tInt a) (val tInt b) (some (f a b)) (val tInt) := o2_mk fun c hm F H Q va vb s ha hb hq => by
  cases hm
  exact ⟨a, b, ha, hb, hc, hq _ rfl⟩
theorem o2_int0 {f : Int → Int → Int} {a b : Int} : O2 (rI0 fun i j => .int (f i j)) (val tInt a) (val tInt b) (some (f a b)) (val tInt) := o2_mk fun c hm F H Q va vb s ha hb hq => by
  cases hm
  exact ⟨a, b, ha, hb, hq _ rfl⟩
theorem o2_cmp {f : Int → Int → Bool} {a b : Int} : O2 (rI0 fun i j => .bl (f i j)) (val tInt a) (val tInt b) (some (f a b)) (val tBool) := o2_mk fun c hm F H Q va vb s ha hb hq => by
  cases hm
  exact ⟨a, b, ha, hb, hq _ rfl⟩
/-- guards -/
def grd (p : Prop) [Decidable p] {γ : Type} (k : Option γ) : Option γ := if p then k else none
theorem grd_some {p : Prop} [Decidable p] {k : Option γ} {c : γ} (h : grd p k = some c) : p ∧ k = some c := by
  unfold grd at h
  split at h
  · exact ⟨‹_›, h⟩
  · cases h
theorem grd_pos {p : Prop} [Decidable p] {k : Option γ} (h : p) : grd p k = k := if_pos h
theorem o2_intG {C : Int → Int → Prop} {f : Int → Int → Int} {p : Int → Int → Prop} [∀ i j, Decidable (p i j)] {a b : Int} (hp : ∀ i j, p i j → C i j) : O2 (rI C fun i j => .int (f i j)) (val tInt a) (val tInt b) (grd (p a b) (some (f a b))) (val tInt) := o2_mk fun c hm F H Q va vb s ha hb hq => by
  obtain ⟨q, hm⟩ := grd_some hm
  cases hm
  exact ⟨a, b, ha, hb, hp _ _ q, hq _ rfl⟩
theorem o2_mulW {a b : Int} : O2 (rI CMulW fun i j => .int (i * j)) (val tInt a) (val tInt b) (grd (a.natAbs.log2 + b.natAbs.log2 < 1000000) (some (a * b))) (val tInt) := o2_intG (f := fun i j => i * j) (p := fun a b => a.natAbs.log2 + b.natAbs.log2 < 1000000) fun _ _ h => h
theorem o2_divW {a b : Int} : O2 (rI CDivW fun i j => .int (i / j)) (val tInt a) (val tInt b) (grd (0 < b ∧ b.natAbs.log2 < 9000) (some (a / b))) (val tInt) := o2_intG (f := fun i j => i / j) (p := fun a b => 0 < b ∧ b.natAbs.log2 < 9000) fun _ _ h => h
theorem o2_mod {a b : Int} : O2 (rI (fun _ j => 0 < j) fun i j => .int (i % j)) (val tInt a) (val tInt b) (grd (0 < b) (some (a % b))) (val tInt) := o2_intG (f := fun i j => i % j) (p := fun a b => 0 < b) fun _ _ h => h
theorem o2_eqI {a b : Int} : O2 rEq (val tInt a) (val tInt b) (some (decide (a = b))) (val tBool) := o2_mk fun c hm F H Q va vb s ha hb hq => by
  cases hm
  cases ha
  cases hb
  refine ⟨rfl, hq _ ?_⟩
  show V.bl _ = V.bl _
  congr 1
  exact decide_eq_decide.mpr ⟨fun e => by injection e, fun e => by rw [e]⟩
theorem o2_neI {a b : Int} : O2 rNe (val tInt a) (val tInt b) (some (!decide (a = b))) (val tBool) := o2_mk fun c hm F H Q va vb s ha hb hq => by
  cases hm
  cases ha
  cases hb
  refine ⟨rfl, hq _ ?_⟩
  show V.bl _ = V.bl _
  congr 2
  exact decide_eq_decide.mpr ⟨fun e => by injection e, fun e => by rw [e]⟩
theorem o2_eqB {a b : Bool} : O2 rEq (val tBool a) (val tBool b) (some (decide (a = b))) (val tBool) := o2_mk fun c hm F H Q va vb s ha hb hq => by
  cases hm
  cases ha
  cases hb
  refine ⟨rfl, hq _ ?_⟩
  show V.bl _ = V.bl _
  congr 1
  exact decide_eq_decide.mpr ⟨fun e => by injection e, fun e => by rw [e]⟩
theorem o2_neB {a b : Bool} : O2 rNe (val tBool a) (val tBool b) (some (!decide (a = b))) (val tBool) := o2_mk fun c hm F H Q va vb s ha hb hq => by
  cases hm
  cases ha
  cases hb
  refine ⟨rfl, hq _ ?_⟩
  show V.bl _ = V.bl _
  congr 2
  exact decide_eq_decide.mpr ⟨fun e => by injection e, fun e => by rw [e]⟩
theorem o2_eqS {a b : Str} : O2 rEq (val tStr a) (val tStr b) (some (decide (a = b))) (val tBool) := o2_mk fun c hm F H Q va vb s ha hb hq => by
  cases hm
  cases ha
  cases hb
  refine ⟨rfl, hq _ ?_⟩
  show V.bl _ = V.bl _
  congr 1
  exact decide_eq_decide.mpr ⟨fun e => by injection e, fun e => by rw [e]⟩
theorem o2_neS {a b : Str} : O2 rNe (val tStr a) (val tStr b) (some (!decide (a = b))) (val tBool) := o2_mk fun c hm F H Q va vb s ha hb hq => by
  cases hm
  cases ha
  cases hb
  refine ⟨rfl, hq _ ?_⟩
  show V.bl _ = V.bl _
  congr 2
  exact decide_eq_decide.mpr ⟨fun e => by injection e, fun e => by rw [e]⟩
/-- scalars of any kind -/
theorem o2_eqD {a b : V} : O2 rEq (val tDyn a) (val tDyn b) (grd (scal a b = true) (some (decide (a = b)))) (val tBool) := o2_mk fun c hm F H Q va vb s ha hb hq => by
  obtain ⟨q, hm⟩ := grd_some hm
  cases hm
  cases ha
  cases hb
  exact ⟨q, hq _ rfl⟩
theorem o2_neD {a b : V} : O2 rNe (val tDyn a) (val tDyn b) (grd (scal a b = true) (some (!decide (a = b)))) (val tBool) := o2_mk fun c hm F H Q va vb s ha hb hq => by
  obtain ⟨q, hm⟩ := grd_some hm
  cases hm
  cases ha
  cases hb
  exact ⟨q, hq _ rfl⟩
theorem o1_neg {a : Int} : O1 (rU fun i => .int (-i)) (val tInt a) (some (-a)) (val tInt) := o1_mk fun c hm F H Q va s ha hq => by
  cases hm
  exact ⟨a, ha, hq _ rfl⟩
/-! ### lists -/
theorem Paired.get {α β : Type} {f : α → β → Prop} : ∀ {l : List α} {m : List β}, Paired f l m → ∀ {i : Nat} {y : β}, m[i]? = some y → ∃ x, l[i]? = some x ∧ f x y
  | _, _, .nil, i, y, h => by simp at h
  | _, _, .cons r t, 0, y, h => by
    have e := Option.some.inj (by simpa using h)
    exact ⟨_, rfl, by rw [← e]; exact r⟩
  | _, _, .cons r t, i + 1, y, h => by
    obtain ⟨x, e1, e2⟩ := ML.Paired.get t (i := i) (y := y) (by simpa using h)
    exact ⟨x, by simpa using e1, e2⟩
theorem atI_paired {f : V → α → Prop} {vs : List V} {xs : List α} (p : Paired f vs xs) {i : Int} {y : α} (h : atI xs i = some y) : ∃ v, atI vs i = some v ∧ f v y := by
  unfold atI at h ⊢
  obtain ⟨j, e1, e2⟩ := Option.bind_eq_some_iff.mp h
  obtain ⟨v, e3, e4⟩ := ML.Paired.get p e2
  refine ⟨v, ?_, e4⟩
  rw [show vs.length = xs.length from p.length, e1]
  exact e3
theorem o2_ixL {K : PySem.W.Frag} {T : Ty α} {xs : List α} {i : Int} : O2 (rIxL K) (val (tL T) xs) (val tInt i) (atI xs i) (val T) := o2_mk fun c hm F H Q va vb s ⟨a, vs, e, h, p⟩ hb hq => by
  obtain ⟨v, e1, e2⟩ := atI_paired p hm
  exact ⟨a, vs, i, v, e, hb, .of (s _ _ h), e1, hq v e2⟩
theorem o2_ixS {K : PySem.W.Frag} {T : Ty α} {xs : List α} {i : Int} : O2 (rIxL K) (val (tS K T) xs) (val tInt i) (atI xs i) (val T) := o2_mk fun c hm F H Q va vb s ⟨a, vs, e, h, p⟩ hb hq => by
  obtain ⟨v, e1, e2⟩ := atI_paired p hm
  exact ⟨a, vs, i, v, e, hb, s.seq h, e1, hq v e2⟩
theorem o1_lenL {K : PySem.W.Frag} {T : Ty α} {xs : List α} : O1 (fun v H Q => ∃ p ys, [v] = [V.ref p] ∧ (SqL K H p ys ∨ SqT K H p ys) ∧ Q (.int ys.length) H) (val (tL T) xs) (some (xs.length : Int)) (val tInt) := o1_mk fun c hm F H Q va s ⟨a, vs, e, h, p⟩ hq => by
  cases hm
  exact ⟨a, vs, by rw [e], .inl (.of (s _ _ h)), hq _ (by show V.int _ = V.int _; rw [p.length])⟩
theorem o1_lenS {K : PySem.W.Frag} {T : Ty α} {xs : List α} : O1 (fun v H Q => ∃ p ys, [v] = [V.ref p] ∧ (SqL K H p ys ∨ SqT K H p ys) ∧ Q (.int ys.length) H) (val (tS K T) xs) (some (xs.length : Int)) (val tInt) := o1_mk fun c hm F H Q va s ⟨a, vs, e, h, p⟩ hq => by
  cases hm
  exact ⟨a, vs, by rw [e], .inl (s.seq h), hq _ (by show V.int _ = V.int _; rw [p.length])⟩
/-- list(xs): a new list of one's own -/
theorem o1_listL {K : PySem.W.Frag} {T : Ty α} {xs : List α} : O1 (fun v H Q => ∃ p ys, [v] = [V.ref p] ∧ (SqL K H p ys ∨ SqT K H p ys) ∧ ∀ l, H l = none → Q (.ref l) (upd H l (.lst ys))) (val (tL T) xs) (some xs) (own T) := by
  intro E env st σ vs H Q va c ⟨F, w, g⟩ hm hq
  cases hm
  obtain ⟨a, us, e, h, p⟩ := g.top
  exact ⟨a, us, by rw [e], .inl (.of (g.ext.s _ _ h)), fun l hl => hq _ _ ⟨F, _, g.pop.pushO hl ⟨l, us, rfl, trivial, fun b => Iff.rfl, upd_same, p⟩⟩⟩
theorem o1_listS {K : PySem.W.Frag} {T : Ty α} {xs : List α} : O1 (fun v H Q => ∃ p ys, [v] = [V.ref p] ∧ (SqL K H p ys ∨ SqT K H p ys) ∧ ∀ l, H l = none → Q (.ref l) (upd H l (.lst ys))) (val (tS K T) xs) (some xs) (own T) := by
  intro E env st σ vs H Q va c ⟨F, w, g⟩ hm hq
  cases hm
  obtain ⟨a, us, e, h, p⟩ := g.top
  exact ⟨a, us, by rw [e], .inl (g.ext.s.seq h), fun l hl => hq _ _ ⟨F, _, g.pop.pushO hl ⟨l, us, rfl, trivial, fun b => Iff.rfl, upd_same, p⟩⟩⟩
end
end ML

set_option Elab.async false
set_option linter.all false
set_option maxRecDepth 100000
set_option maxHeartbeats 2000000
namespace ML
open PySem PySem.Spec PyProof.Rows L2

/-! ### blocks -/
inductive Out (α β ρ : Type) where
  | nx (a : α) | brk (b : β) | ret (r : ρ)
abbrev Post (γ : Type) := γ → List SP → List V → Ends → Prop
def BK {γ : Type} (E : Ent) (env : En) (t : TS) (m : Option γ) (post : Post γ) : Prop :=
  ∀ (st : List SP) (vs : List V) (σ : L2.St) (H : Hp) (D : Ends) (g : γ), G E env st σ vs H → m = some g → post g st vs D → t D σ H
def pN {α : Type} (E : Ent) (eN : α → En) : Post α := fun a st vs D => ∀ σ' H', G E (eN a) st σ' vs H' → D.nx σ' H'
def pR {ρ : Type} (E : Ent) (R : ρ → SP) (eR : ρ → En) : Post ρ := fun r st vs D => ∀ v σ' H', G E (eR r) (R r :: st) σ' (v :: vs) H' → D.rt v H'
def pL {α β ρ : Type} (E : Ent) (eN : α → En) (eB : β → En) (R : ρ → SP) (eR : ρ → En) : Post (Out α β ρ) := fun o st vs D => match o with
  | .nx a => ∀ σ' H', G E (eN a) st σ' vs H' → D.nx σ' H'
  | .brk b => ∀ σ' H', G E (eB b) st σ' vs H' → D.bk σ' H'
  | .ret r => ∀ v σ' H', G E (eR r) (R r :: st) σ' (v :: vs) H' → D.rt v H'

section
variable {α β γ δ ρ τ : Type} {E : Ent} {env : En} {te ta tb tc : TE} {tt : TT} {u t t1 t2 : TS} {post : Post γ}
/-- post does not ask what follows -/
def NoNx (post : Post γ) : Prop := ∀ g st vs (D : Ends) x, post g st vs D → post g st vs { D with nx := x }
theorem bk_asg {m : Option α} {S : α → SP} {e1 : α → En} {k : α → Option γ} {i : Nat} (h : EX E env te m S e1) (hk : ∀ x, BK E ((e1 x).set i (some (S x))) u (k x) post) (hi : ∀ x, Nat.ble (i + 1) (e1 x).length = true := by intro _; rfl)
    (hp : ∀ g st vs D x, post g st vs D → post g st vs { D with nx := x } ∨ True := by intros; exact Or.inr trivial) : BK E env (tSeq (tAsg te (gName i)) u) (m.bind k) post := by
  intro st vs σ H D g gg hm hq
  obtain ⟨x, ex, hm⟩ := Option.bind_eq_some_iff.mp hm
  refine h st vs σ H _ x gg ex fun v H1 ⟨F, w, g1⟩ => ?_
  obtain ⟨w', g2⟩ := g1.store (Nat.le_of_ble_eq_true (hi x))
  exact hk x st vs _ H1 D g ⟨F, w', g2⟩ hm hq
theorem bk_expr {m : Option α} {S : α → SP} {e1 : α → En} {k : α → Option γ} (h : EX E env te m S e1) (hk : ∀ x, BK E (e1 x) u (k x) post) : BK E env (tSeq (tDrop te) u) (m.bind k) post := by
  intro st vs σ H D g gg hm hq
  obtain ⟨x, ex, hm⟩ := Option.bind_eq_some_iff.mp hm
  exact h st vs σ H _ x gg ex fun v H1 g1 => hk x st vs _ H1 D g g1.popV hm hq
theorem bk_pass (hk : ∀ {m : Option γ}, True) {m : Option γ} (h : BK E env u m post) : BK E env (tSeq tNext u) m post := fun st vs σ H D g gg hm hq => h st vs σ H D g gg hm hq
/-- fall through -/
theorem bn_nx {a : α} {eN : α → En} (h : Fgt env (eN a)) : BK E env tNext (some a) (pN E eN) := by
  intro st vs σ H D g gg hm hq
  cases hm
  exact hq σ H (gg.fgt h)
theorem bl_nx {a : α} {eN : α → En} {eB : β → En} {R : ρ → SP} {eR : ρ → En} (h : Fgt env (eN a)) : BK E env tNext (some (.nx a)) (pL E eN eB R eR) := by
  intro st vs σ H D g gg hm hq
  cases hm
  exact hq σ H (gg.fgt h)
theorem bl_brk {b : β} {eN : α → En} {eB : β → En} {R : ρ → SP} {eR : ρ → En} (h : Fgt env (eB b)) : BK E env tBreak (some (.brk b)) (pL E eN eB R eR) := by
  intro st vs σ H D g gg hm hq
  cases hm
  exact hq σ H (gg.fgt h)
theorem br_ret {m : Option ρ} {R : ρ → SP} {eR : ρ → En} {e1 : ρ → En} (h : EX E env te m R e1) (hf : ∀ r, Fgt (e1 r) (eR r)) : BK E env (tRet te) m (pR E R eR) := by
  intro st vs σ H D g gg hm hq
  exact h st vs σ H _ g gg hm fun v H1 g1 => hq v σ H1 (g1.fgt (hf g))
theorem bl_ret {m : Option ρ} {R : ρ → SP} {eR : ρ → En} {e1 : ρ → En} {eN : α → En} {eB : β → En} (h : EX E env te m R e1) (hf : ∀ r, Fgt (e1 r) (eR r)) : BK E env (tRet te) (m.bind fun r => some (.ret r)) (pL E eN eB R eR) := by
  intro st vs σ H D g gg hm hq
  obtain ⟨r, er, hm⟩ := Option.bind_eq_some_iff.mp hm
  cases hm
  exact h st vs σ H _ r gg er fun v H1 g1 => hq v σ H1 (g1.fgt (hf r))
/-- a returning block among others -/
theorem bl_ofR {m : Option ρ} {R : ρ → SP} {eR : ρ → En} {eN : α → En} {eB : β → En} (h : BK E env t m (pR E R eR)) : BK E env t (m.bind fun r => some (.ret r)) (pL E eN eB R eR) := by
  intro st vs σ H D g gg hm hq
  obtain ⟨r, er, hm⟩ := Option.bind_eq_some_iff.mp hm
  cases hm
  exact h st vs σ H D r gg er hq
theorem bl_ofN {m : Option α} {R : ρ → SP} {eR : ρ → En} {eN : α → En} {eB : β → En} (h : BK E env t m (pN E eN)) : BK E env t (m.bind fun r => some (.nx r)) (pL E eN eB R eR) := by
  intro st vs σ H D g gg hm hq
  obtain ⟨r, er, hm⟩ := Option.bind_eq_some_iff.mp hm
  cases hm
  exact h st vs σ H D r gg er hq
/-- how a returned value stands in the wish -/
def Emb (E : Ent) (post : Post γ) (R : ρ → SP) (eR : ρ → En) (emb : ρ → γ) : Prop := ∀ r st vs D, post (emb r) st vs D → pR E R eR r st vs D
theorem emb_R {R : ρ → SP} {eR : ρ → En} : Emb E (pR E R eR) R eR id := fun _ _ _ _ h => h
theorem emb_L {R : ρ → SP} {eR : ρ → En} {eN : α → En} {eB : β → En} : Emb E (pL E eN eB R eR) R eR Out.ret := fun _ _ _ _ h => h
/-- if, both ways the same kind of end (last in its block) -/
theorem bk_if {mt : Option Bool} {ma mb : Option γ} (ht : TX E env tt mt) (ha : BK E env t1 ma post) (hb : BK E env t2 mb post) : BK E env (tIfS tt t1 t2) (mt.bind fun b => if b = true then ma else mb) post := by
  intro st vs σ H D g gg hm hq
  obtain ⟨b, eb, hm⟩ := Option.bind_eq_some_iff.mp hm
  refine ht st vs σ H _ b gg eb fun H1 g1 => ?_
  cases b with
  | true => exact ha st vs σ H1 D g g1 hm hq
  | false => exact hb st vs σ H1 D g g1 hm hq
/-- if whose first way returns, the second is empty -/
theorem bk_ifr {mt : Option Bool} {ma : Option ρ} {mb : Option γ} {R : ρ → SP} {eR : ρ → En} {emb : ρ → γ} (he : Emb E post R eR emb) (ht : TX E env tt mt) (ha : BK E env t1 ma (pR E R eR)) (hb : BK E env u mb post) :
    BK E env (tSeq (tIfS tt t1 tNext) u) (mt.bind fun b => if b = true then ma.bind fun r => some (emb r) else mb) post := by
  intro st vs σ H D g gg hm hq
  obtain ⟨b, eb, hm⟩ := Option.bind_eq_some_iff.mp hm
  refine ht st vs σ H _ b gg eb fun H1 g1 => ?_
  cases b with
  | true =>
    obtain ⟨r, er, hm⟩ := Option.bind_eq_some_iff.mp hm
    cases hm
    exact ha st vs σ H1 _ r g1 er (he r st vs D hq)
  | false => exact hb st vs σ H1 D g g1 hm hq
/-- the same where all of it returns -/
theorem br_ifr {mt : Option Bool} {ma mb : Option ρ} {R : ρ → SP} {eR : ρ → En} (ht : TX E env tt mt) (ha : BK E env t1 ma (pR E R eR)) (hb : BK E env u mb (pR E R eR)) :
    BK E env (tSeq (tIfS tt t1 tNext) u) (mt.bind fun b => if b = true then ma else mb) (pR E R eR) := by
  intro st vs σ H D g gg hm hq
  obtain ⟨b, eb, hm⟩ := Option.bind_eq_some_iff.mp hm
  refine ht st vs σ H _ b gg eb fun H1 g1 => ?_
  cases b with
  | true => exact ha st vs σ H1 _ g g1 hm hq
  | false => exact hb st vs σ H1 D g g1 hm hq
/-- if, both ways fall through to J -/
theorem bk_ifj {mt : Option Bool} {ma mb : Option α} {k : α → Option γ} {eJ : α → En} (ht : TX E env tt mt) (ha : BK E env t1 ma (pN E eJ)) (hb : BK E env t2 mb (pN E eJ)) (hk : ∀ x, BK E (eJ x) u (k x) post) :
    BK E env (tSeq (tIfS tt t1 t2) u) (mt.bind fun b => (if b = true then ma else mb).bind k) post := by
  intro st vs σ H D g gg hm hq
  obtain ⟨b, eb, hm⟩ := Option.bind_eq_some_iff.mp hm
  obtain ⟨x, ex, hm2⟩ := Option.bind_eq_some_iff.mp hm
  refine ht st vs σ H _ b gg eb fun H1 g1 => ?_
  cases b with
  | true => exact ha st vs σ H1 _ x g1 ex fun σ' H' g2 => hk x st vs σ' H' D g g2 hm2 hq
  | false => exact hb st vs σ H1 _ x g1 ex fun σ' H' g2 => hk x st vs σ' H' D g g2 hm2 hq
/-- if, some ways return or break, the others fall through to J -/
def thenO {α β ρ γ : Type} (o : Option (Out α β ρ)) (k : α → Option γ) (hb : β → Option γ) (hr : ρ → Option γ) : Option γ := o.bind fun o => match o with
  | .nx a => k a
  | .brk b => hb b
  | .ret r => hr r
theorem bk_ifm {mt : Option Bool} {ma mb : Option (Out α β ρ)} {k : α → Option γ} {eJ : α → En} {eB : β → En} {R : ρ → SP} {eR : ρ → En} {emb : ρ → γ} {embB : β → γ} (he : Emb E post R eR emb) (heB : ∀ b st vs D, post (embB b) st vs D → ∀ σ' H', G E (eB b) st σ' vs H' → D.bk σ' H')
    (ht : TX E env tt mt) (ha : BK E env t1 ma (pL E eJ eB R eR)) (hb : BK E env t2 mb (pL E eJ eB R eR)) (hk : ∀ x, BK E (eJ x) u (k x) post) :
    BK E env (tSeq (tIfS tt t1 t2) u) (mt.bind fun b => thenO (if b = true then ma else mb) k (fun b => some (embB b)) fun r => some (emb r)) post := by
  intro st vs σ H D g gg hm hq
  obtain ⟨b, eb, hm⟩ := Option.bind_eq_some_iff.mp hm
  unfold thenO at hm
  obtain ⟨x, ex, hm⟩ := Option.bind_eq_some_iff.mp hm
  refine ht st vs σ H _ b gg eb fun H1 g1 => ?_
  have fin : pL E eJ eB R eR x st vs { D with nx := u D } := by
    cases x with
    | nx a => exact fun σ' H' g2 => hk a st vs σ' H' D g g2 hm hq
    | brk b =>
      cases hm
      exact heB b st vs D hq
    | ret r =>
      cases hm
      exact he r st vs D hq
  cases b with
  | true => exact ha st vs σ H1 _ x g1 ex fin
  | false => exact hb st vs σ H1 _ x g1 ex fin

/-! ### targets -/
/-- the top goes to a target -/
def AS (E : Ent) (env : En) (g : TG) (S : SP) (env' : En) : Prop :=
  ∀ (st : List SP) (vs : List V) (σ : L2.St) (H : Hp) (Q : L2.St → Hp → Prop) (v : V), G E env (S :: st) σ (v :: vs) H → (∀ σ' H', G E env' st σ' vs H' → Q σ' H') → g v σ H Q
theorem as_name {i : Nat} {S : SP} (hi : Nat.ble (i + 1) env.length = true := by rfl) : AS E env (gName i) S (env.set i (some S)) := by
  intro st vs σ H Q v ⟨F, w, g⟩ hq
  obtain ⟨w', g2⟩ := g.store (Nat.le_of_ble_eq_true hi)
  exact hq _ H ⟨F, w', g2⟩
/-- a, b = pair -/
theorem as_pair {K : PySem.W.Frag} {i j : Nat} {T : Ty α} {U : Ty β} {p : α × β} (hi : Nat.ble (i + 1) env.length = true := by rfl) (hj : Nat.ble (j + 1) env.length = true := by rfl) :
    AS E env (gTup K 2 (gCons (gName i) (gCons (gName j) gNil))) (val (tP T U) p) ((env.set i (some (val T p.1))).set j (some (val U p.2))) := by
  intro st vs σ H Q v ⟨F, w, g⟩ hq
  obtain ⟨a, x, y, e, h, h1, h2⟩ := g.top
  refine ⟨a, [x, y], e, .of (g.ext.s _ _ h), rfl, x, [y], rfl, y, [], rfl, rfl, ?_⟩
  obtain ⟨w1, g1⟩ := (g.pop.pushV h1).store (i := i) (Nat.le_of_ble_eq_true hi)
  obtain ⟨w2, g2⟩ := (g1.pushV h2).store (i := j) (by rw [List.length_set]; exact Nat.le_of_ble_eq_true hj)
  exact hq _ H ⟨F, w2, g2⟩
theorem bk_asgT {m : Option α} {S : α → SP} {e1 e2 : α → En} {k : α → Option γ} {g : TG} (h : EX E env te m S e1) (ha : ∀ x, AS E (e1 x) g (S x) (e2 x)) (hk : ∀ x, BK E (e2 x) u (k x) post) : BK E env (tSeq (tAsg te g) u) (m.bind k) post := by
  intro st vs σ H D y gg hm hq
  obtain ⟨x, ex, hm⟩ := Option.bind_eq_some_iff.mp hm
  exact h st vs σ H _ x gg ex fun v H1 g1 => ha x st vs σ H1 _ v g1 fun σ' H' g2 => hk x st vs σ' H' D y g2 hm hq

/-! ### what is walked -/
/-- J gives the items xs, one a turn, as slots S, while Z (at v) stands on top -/
def Wk {α : Type} (J : It) (xs : List α) (S : α → SP) (Z : SP) (v : V) : Prop :=
  ∀ (E : Ent) (env : En) (st1 st : List SP) (σ : L2.St) (vs1 vs : List V) (H : Hp) (i : Nat), st1.length = vs1.length → G E env (st1 ++ Z :: st) σ (vs1 ++ v :: vs) H →
    (∀ y, xs[i]? = some y → J.go i H ∧ ∀ x H', J.yld i H x H' → G E env (S y :: (st1 ++ Z :: st)) σ (x :: (vs1 ++ v :: vs)) H') ∧ (xs.length ≤ i → J.stop i H)
def IX {α : Type} (E : Ent) (env : En) (wi : TI) (m : Option (List α)) (S : α → SP) : Prop :=
  ∀ (st : List SP) (vs : List V) (σ : L2.St) (H : Hp) (R : It → Hp → Prop) (xs : List α), G E env st σ vs H → m = some xs → (∀ J Z v H', Wk J xs S Z v → G E env (Z :: st) σ (v :: vs) H' → R J H') → wi σ H R
theorem wk_L {K : PySem.W.Frag} {T : Ty α} {xs : List α} {a : Addr} : Wk (Itl K a) xs (val T) (val (tL T) xs) (.ref a) := by
  intro E env st1 st σ vs1 vs H i hl1 ⟨F, w, g⟩
  obtain ⟨a', us, e, h, p⟩ := GG.mid hl1 g
  cases e
  have hs : SqL K H a us := .of (g.ext.s _ _ h)
  refine ⟨fun y hy => ?_, fun hl => ⟨us, hs, by rw [p.length]; exact hl⟩⟩
  obtain ⟨x, e1, e2⟩ := ML.Paired.get p hy
  refine ⟨⟨us, x, hs, e1⟩, fun x' H' ⟨eH, hx⟩ => ?_⟩
  cases eH
  have := hx us hs
  rw [e1] at this
  cases this
  exact ⟨F, w, g.pushV e2⟩
theorem wk_U {K : PySem.W.Frag} {T : Ty α} {xs : List α} {a : Addr} : Wk (Itt K a) xs (val T) (val (tU T) xs) (.ref a) := by
  intro E env st1 st σ vs1 vs H i hl1 ⟨F, w, g⟩
  obtain ⟨a', us, e, h, p⟩ := GG.mid hl1 g
  cases e
  have hs : SqT K H a us := .of (g.ext.s _ _ h)
  refine ⟨fun y hy => ?_, fun hl => ⟨us, hs, by rw [p.length]; exact hl⟩⟩
  obtain ⟨x, e1, e2⟩ := ML.Paired.get p hy
  refine ⟨⟨us, x, hs, e1⟩, fun x' H' ⟨eH, hx⟩ => ?_⟩
  cases eH
  have := hx us hs
  rw [e1] at this
  cases this
  exact ⟨F, w, g.pushV e2⟩
theorem ix_L {K : PySem.W.Frag} {T : Ty α} {m : Option (List α)} (h : EV E env te m (val (tL T))) : IX E env (iList K te) m (val T) := by
  intro st vs σ H R xs gg hm hq
  refine h st vs σ H _ xs gg hm fun v H1 ⟨F, w, g1⟩ => ?_
  obtain ⟨a, us, e, hh, p⟩ := g1.top
  cases e
  exact ⟨a, rfl, ⟨us, .of (g1.ext.s _ _ hh)⟩, hq _ _ _ _ wk_L ⟨F, w, g1⟩⟩
theorem ix_U {K : PySem.W.Frag} {T : Ty α} {m : Option (List α)} (h : EV E env te m (val (tU T))) : IX E env (iTup K te) m (val T) := by
  intro st vs σ H R xs gg hm hq
  refine h st vs σ H _ xs gg hm fun v H1 ⟨F, w, g1⟩ => ?_
  obtain ⟨a, us, e, hh, p⟩ := g1.top
  cases e
  exact ⟨a, rfl, ⟨us, .of (g1.ext.s _ _ hh)⟩, hq _ _ _ _ wk_U ⟨F, w, g1⟩⟩
theorem wk_S {K : PySem.W.Frag} {T : Ty α} {xs : List α} {a : Addr} (one : ∀ (F : Hp) (us us' : List V), SqL K F a us → SqL K F a us' → us = us') : Wk (Itl K a) xs (val T) (val (tS K T) xs) (.ref a) := by
  intro E env st1 st σ vs1 vs H i hl1 ⟨F, w, g⟩
  obtain ⟨a', us, e, h, p⟩ := GG.mid hl1 g
  cases e
  have hs : SqL K H a us := g.ext.s.seq h
  refine ⟨fun y hy => ?_, fun hl => ⟨us, hs, by rw [p.length]; exact hl⟩⟩
  obtain ⟨x, e1, e2⟩ := ML.Paired.get p hy
  refine ⟨⟨us, x, hs, e1⟩, fun x' H' ⟨eH, hx⟩ => ?_⟩
  cases eH
  have := hx us hs
  rw [e1] at this
  cases this
  exact ⟨F, w, g.pushV e2⟩
/-- a range -/
def rangeL (a : Int) (n : Nat) : List Int := (List.range n).map fun i => a + (i : Nat)
theorem rangeL_get {a : Int} {n i : Nat} {y : Int} (h : (rangeL a n)[i]? = some y) : i < n ∧ y = a + (i : Nat) := by
  unfold rangeL at h
  rw [List.getElem?_map] at h
  obtain ⟨j, e1, e2⟩ := Option.map_eq_some_iff.mp h
  have hi : i < n := by
    have := (List.getElem?_eq_some_iff.mp e1).1
    simpa using this
  rw [List.getElem?_range hi] at e1
  cases e1
  exact ⟨hi, e2.symm⟩
theorem rangeL_len {a : Int} {n : Nat} : (rangeL a n).length = n := by simp [rangeL]
theorem wk_R {a : Int} {n : Nat} : Wk (Itr a n) (rangeL a n) (val tInt) anyS .non := by
  intro E env st1 st σ vs1 vs H i hl1 ⟨F, w, g⟩
  refine ⟨fun y hy => ?_, fun hl => by rw [rangeL_len] at hl; exact hl⟩
  obtain ⟨hi, ey⟩ := rangeL_get hy
  refine ⟨hi, fun x H' ⟨eH, hx⟩ => ?_⟩
  cases eH
  exact ⟨F, w, g.pushV (by rw [hx, ey]; rfl)⟩
theorem G.pushAny {st : List SP} {σ : L2.St} {vs : List V} {H : Hp} {v : V} (g : G E env st σ vs H) : G E env (anyS :: st) σ (v :: vs) H := by
  obtain ⟨F, w, g⟩ := g
  exact ⟨F, w, g.re (fun a l e => ⟨l, e⟩) g.env ⟨trivial, g.st⟩⟩
def range1 (n : Int) : Option (List Int) := grd (n < 4611686018427387904 ∧ -4611686018427387904 ≤ n) (some (rangeL 0 n.toNat))
def range2 (a b : Int) : Option (List Int) := grd (-4611686018427387904 ≤ a ∧ a < 4611686018427387904 ∧ -4611686018427387904 ≤ b ∧ b < 4611686018427387904) (some (rangeL a (b - a).toNat))
theorem ix_R1 {m : Option Int} (h : EV E env te m (val tInt)) : IX E env (iRng1 (tCons te tNil)) (m.bind range1) (val tInt) := by
  intro st vs σ H R xs gg hm hq
  obtain ⟨n, en, hm⟩ := Option.bind_eq_some_iff.mp hm
  obtain ⟨⟨h1, h2⟩, hm⟩ := grd_some hm
  cases hm
  refine h st vs σ H _ n gg en fun v H1 ⟨F, w, g1⟩ => ⟨n, by rw [show v = V.int n from g1.top], h2, h1, hq _ anyS .non _ wk_R (G.pushAny ⟨F, w, g1.pop⟩)⟩
theorem ix_R2 {ma : Option Int} {mb : Int → Option Int} (ha : EV E env ta ma (val tInt)) (hb : ∀ a, EV E env tb (mb a) (val tInt)) : IX E env (iRng2 (tCons ta (tCons tb tNil))) (ma.bind fun a => (mb a).bind fun b => range2 a b) (val tInt) := by
  intro st vs σ H R xs gg hm hq
  obtain ⟨a, ea, hm⟩ := Option.bind_eq_some_iff.mp hm
  obtain ⟨b, eb, hm⟩ := Option.bind_eq_some_iff.mp hm
  obtain ⟨hc, hm⟩ := grd_some hm
  cases hm
  refine ha st vs σ H _ a gg ea fun v H1 g1 => hb a _ _ σ H1 _ b g1 eb fun u H2 ⟨F, w, g2⟩ => ⟨a, b, ?_, hc, hq _ anyS .non _ wk_R (G.pushAny ⟨F, w, g2.pop.pop⟩)⟩
  rw [show u = V.int b from g2.top, show v = V.int a from g2.st.2.1]

/-! ### for -/
def forN {α σ : Type} : List α → σ → (α → σ → Option σ) → Option σ
  | [], s, _ => some s
  | x :: xs, s, f => (f x s).bind fun s' => forN xs s' f
def forK {σ ρ : Type} (k : σ → Option (Sum σ ρ)) : Out σ σ ρ → Option (Sum σ ρ)
  | .nx s => k s
  | .brk s => some (.inl s)
  | .ret r => some (.inr r)
def forL {α σ ρ : Type} : List α → σ → (α → σ → Option (Out σ σ ρ)) → Option (Sum σ ρ)
  | [], s, _ => some (.inl s)
  | x :: xs, s, f => (f x s).bind (forK fun s' => forL xs s' f)
theorem drop_cons {α : Type} {xs : List α} {i : Nat} {y : α} {r : List α} (h : xs.drop i = y :: r) : xs[i]? = some y ∧ xs.drop (i + 1) = r := by
  constructor
  · have := congrArg (fun l : List α => l[0]?) h
    simpa using this
  · have := congrArg List.tail h
    simpa using this
theorem drop_nil {α : Type} {xs : List α} {i : Nat} (h : xs.drop i = []) : xs.length ≤ i := List.drop_eq_nil_iff.mp h
/-- the body always falls through -/
theorem bk_forN {σs : Type} {wi : TI} {g : TG} {tb : TS} {mx : Option (List α)} {S : α → SP} {eL : σs → En} {eX : α → σs → En} {s0 : σs} {f : α → σs → Option σs} {k : σs → Option γ} (hi : IX E env wi mx S) (h0 : Fgt env (eL s0)) (hg : ∀ x s, AS E (eL s) g (S x) (eX x s))
    (hb : ∀ x s, BK E (eX x s) tb (f x s) (pN E eL)) (hk : ∀ s, BK E (eL s) u (k s) post) : BK E env (tSeq (tFor wi g tb) u) (mx.bind fun xs => (forN xs s0 f).bind k) post := by
  intro st vs σ H D y gg hm hq
  obtain ⟨xs, exs, hm⟩ := Option.bind_eq_some_iff.mp hm
  obtain ⟨s1, es, hm⟩ := Option.bind_eq_some_iff.mp hm
  refine hi st vs σ H _ xs gg exs fun J Z v H1 wk g1 => ?_
  refine ⟨fun i m σ' H' => m = xs.length - i ∧ ∃ s, G E (eL s) (Z :: st) σ' (v :: vs) H' ∧ forN (xs.drop i) s f = some s1, ⟨_, rfl, s0, g1.fgt h0, by simpa using es⟩, ?_⟩
  rintro i m σ' H' ⟨rfl, s, g2, e⟩
  obtain ⟨w1, w2⟩ := wk E (eL s) [] st σ' [] vs H' i rfl g2
  cases hd : xs.drop i with
  | nil =>
    rw [hd] at e
    cases e
    exact .inl ⟨w2 (drop_nil hd), hk s1 st vs σ' H' D y g2.popV hm hq⟩
  | cons x r =>
    rw [hd] at e
    obtain ⟨d1, d2⟩ := drop_cons hd
    obtain ⟨s', e1, e2⟩ := Option.bind_eq_some_iff.mp (show ((f x s).bind fun s' => forN r s' f) = some s1 from e)
    obtain ⟨w3, w4⟩ := w1 x d1
    have hlt : i < xs.length := (List.getElem?_eq_some_iff.mp d1).1
    refine .inr ⟨w3, fun σ'' H'' => ∃ m', m' < xs.length - i ∧ m' = xs.length - (i + 1) ∧ ∃ s, G E (eL s) (Z :: st) σ'' (v :: vs) H'' ∧ forN (xs.drop (i + 1)) s f = some s1, fun σ'' H'' ⟨m', h1, h2, h3⟩ => ⟨m', h1, h2, h3⟩, fun xv H'' hy => ?_⟩
    refine hg x s _ _ σ' H'' _ xv (w4 xv H'' hy) fun σ2 H2 g3 => ?_
    exact hb x s _ _ σ2 H2 _ s' g3 e1 fun σ3 H3 g4 => ⟨_, by omega, rfl, s', g4, by rw [d2]; exact e2⟩
def thenS {σ ρ γ : Type} (o : Option (Sum σ ρ)) (k : σ → Option γ) (h : ρ → Option γ) : Option γ := o.bind fun o => match o with
  | .inl s => k s
  | .inr r => h r
theorem G.nip {S Z : SP} {st : List SP} {σ : L2.St} {v z : V} {vs : List V} {H : Hp} (g : G E env (S :: Z :: st) σ (v :: z :: vs) H) : G E env (S :: st) σ (v :: vs) H := by
  obtain ⟨F, w, g⟩ := g
  obtain ⟨w', g'⟩ := g.nip
  exact ⟨F, w', g'⟩
/-- the body may return, break -/
theorem bk_forL {σs : Type} {wi : TI} {g : TG} {tb : TS} {mx : Option (List α)} {S : α → SP} {eL : σs → En} {eX : α → σs → En} {s0 : σs} {f : α → σs → Option (Out σs σs ρ)} {k : σs → Option γ} {R : ρ → SP} {eR : ρ → En} {emb : ρ → γ} (he : Emb E post R eR emb)
    (hi : IX E env wi mx S) (h0 : Fgt env (eL s0)) (hg : ∀ x s, AS E (eL s) g (S x) (eX x s)) (hb : ∀ x s, BK E (eX x s) tb (f x s) (pL E eL eL R eR)) (hk : ∀ s, BK E (eL s) u (k s) post) :
    BK E env (tSeq (tFor wi g tb) u) (mx.bind fun xs => thenS (forL xs s0 f) k fun r => some (emb r)) post := by
  intro st vs σ H D y gg hm hq
  obtain ⟨xs, exs, hm⟩ := Option.bind_eq_some_iff.mp hm
  unfold thenS at hm
  obtain ⟨s1, es, hm⟩ := Option.bind_eq_some_iff.mp hm
  refine hi st vs σ H _ xs gg exs fun J Z v H1 wk g1 => ?_
  have nxt : ∀ s, s1 = .inl s → ∀ σ' H', G E (eL s) (Z :: st) σ' (v :: vs) H' → u D σ' H' := fun s e σ' H' g2 => by
    subst e
    exact hk s st vs σ' H' D y g2.popV hm hq
  refine ⟨fun i m σ' H' => m = xs.length - i ∧ ∃ s, G E (eL s) (Z :: st) σ' (v :: vs) H' ∧ forL (xs.drop i) s f = some s1, ⟨_, rfl, s0, g1.fgt h0, by simpa using es⟩, ?_⟩
  rintro i m σ' H' ⟨rfl, s, g2, e⟩
  obtain ⟨w1, w2⟩ := wk E (eL s) [] st σ' [] vs H' i rfl g2
  cases hd : xs.drop i with
  | nil =>
    rw [hd] at e
    have e' : s1 = .inl s := (Option.some.inj e).symm
    exact .inl ⟨w2 (drop_nil hd), nxt s e' σ' H' g2⟩
  | cons x r =>
    rw [hd] at e
    obtain ⟨d1, d2⟩ := drop_cons hd
    obtain ⟨o, e1, e2⟩ := Option.bind_eq_some_iff.mp (show ((f x s).bind (forK fun s' => forL r s' f)) = some s1 from e)
    obtain ⟨w3, w4⟩ := w1 x d1
    have hlt : i < xs.length := (List.getElem?_eq_some_iff.mp d1).1
    refine .inr ⟨w3, fun σ'' H'' => ∃ m', m' < xs.length - i ∧ m' = xs.length - (i + 1) ∧ ∃ s, G E (eL s) (Z :: st) σ'' (v :: vs) H'' ∧ forL (xs.drop (i + 1)) s f = some s1, fun σ'' H'' ⟨m', h1, h2, h3⟩ => ⟨m', h1, h2, h3⟩, fun xv H'' hy => ?_⟩
    refine hg x s _ _ σ' H'' _ xv (w4 xv H'' hy) fun σ2 H2 g3 => ?_
    refine hb x s _ _ σ2 H2 _ o g3 e1 ?_
    cases o with
    | nx s' => exact fun σ3 H3 g4 => ⟨_, by omega, rfl, s', g4, by rw [d2]; exact e2⟩
    | brk s' => exact fun σ3 H3 g4 => nxt s' (Option.some.inj e2).symm σ3 H3 g4
    | ret r' =>
      have e3 : s1 = .inr r' := (Option.some.inj e2).symm
      subst e3
      cases hm
      exact fun v' σ3 H3 g4 => he r' st vs D hq v' σ3 H3 g4.nip
/-! ### while -/
def whileN {σ : Type} : Nat → σ → (σ → Option Bool) → (σ → Option σ) → Option σ
  | 0, _, _, _ => none
  | n + 1, s, c, f => (c s).bind fun b => if b = true then (f s).bind fun s' => whileN n s' c f else some s
theorem bk_whileN {σs : Type} {tc : TT} {tb : TS} {eL : σs → En} {s0 : σs} {c : σs → Option Bool} {f : σs → Option σs} {k : σs → Option γ} (n : Nat) (h0 : Fgt env (eL s0)) (hc : ∀ s, TX E (eL s) tc (c s)) (hb : ∀ s, BK E (eL s) tb (f s) (pN E eL)) (hk : ∀ s, BK E (eL s) u (k s) post) :
    BK E env (tSeq (tWhile tc tb) u) ((whileN n s0 c f).bind k) post := by
  intro st vs σ H D y gg hm hq
  obtain ⟨s1, es, hm⟩ := Option.bind_eq_some_iff.mp hm
  refine ⟨fun m σ' H' => ∃ s, G E (eL s) st σ' vs H' ∧ whileN m s c f = some s1, ⟨n, s0, gg.fgt h0, es⟩, ?_⟩
  rintro m σ' H' ⟨s, g2, e⟩
  rcases m with _ | m
  · cases e
  · obtain ⟨b, eb, e⟩ := Option.bind_eq_some_iff.mp (show ((c s).bind fun b => if b = true then (f s).bind fun s' => whileN m s' c f else some s) = some s1 from e)
    refine hc s st vs σ' H' _ b g2 eb fun H2 g3 => ?_
    cases b with
    | true =>
      obtain ⟨s', e1, e2⟩ := Option.bind_eq_some_iff.mp e
      exact ⟨fun σ'' H'' => ∃ s, G E (eL s) st σ'' vs H'' ∧ whileN m s c f = some s1, fun σ'' H'' h => ⟨m, Nat.lt_succ_self m, h⟩, hb s st vs σ' H2 _ s' g3 e1 fun σ3 H3 g4 => ⟨s', g4, e2⟩⟩
    | false =>
      have e3 : some s = some s1 := e
      rw [← Option.some.inj e3] at hm
      exact hk s st vs σ' H2 D y g3 hm hq
end
end ML

set_option Elab.async false
set_option linter.all false
set_option maxRecDepth 100000
set_option maxHeartbeats 2000000
namespace ML
open PySem PySem.Spec PyProof.Rows L2

section
variable {α β γ δ ρ τ : Type} {E : Ent} {env : En} {te ta tb tc ti : TE} {tt : TT} {u t t1 t2 : TS} {post : Post γ}
/-! ### a name that holds a list of one's own -/
theorem GG.mutE {φ : V → Prop} {T : Ty α} {xs : List α} {i : Nat} {st : List SP} {σ : L2.St} {vs : List V} {H F : Hp} {w : Ow} (g : GG E env st σ vs H F w) (h : env[i]? = some (some (muL φ T xs))) :
    ∃ a us, σ[i]? = some (some (.ref a)) ∧ H a = some (.lst us) ∧ Paired (T.rp F) us xs ∧ ∀ us' ys, Paired (T.rp F) us' ys → GG E (env.set i (some (muL φ T ys))) st σ vs (upd H a (.lst us')) F w := by
  obtain ⟨v, e1, a, us, rfl, hf, ho, hh, p⟩ := g.env.2 i _ h
  have wa : w a = some (.e i) := (ho a).mpr rfl
  obtain ⟨q1, q2, q3⟩ := g.own a _ wa
  have hi : i < env.length := (List.getElem?_eq_some_iff.mp h).1
  refine ⟨a, us, e1, hh, p, fun us' ys p' => ?_⟩
  have u := Ext.chg (o := .lst us') g.ext.s q1
  refine g.step u (fun b hb => ⟨.e i, by rw [hb]; exact wa⟩) (fun b l e => .inl ⟨l, e⟩) ⟨by simpa using g.env.1, fun j S e => ?_⟩ (g.st.step u fun k hk b => ⟨Iff.rfl, fun e => ⟨fun z => ?_, (g.own b _ e).2.1⟩⟩)
  · by_cases hj : i = j
    · subst hj
      rw [List.getElem?_set_self hi] at e
      cases e
      exact ⟨_, e1, a, us', rfl, hf, ho, upd_same, p'⟩
    · rw [List.getElem?_set_ne hj] at e
      obtain ⟨v, e2, e3⟩ := g.env.2 j S e
      refine ⟨v, e2, SP.step u e3 (fun _ => Iff.rfl) fun b eb => ⟨fun z => ?_, (g.own b _ eb).2.1⟩⟩
      rw [z, wa] at eb
      cases eb
      exact hj rfl
  · rw [z, wa] at e
    cases e
theorem tyV_lst {K : PySem.W.Frag} {a : Addr} {us : List V} {H : Hp} (h : H a = some (.lst us)) : tyV K "list" (.ref a) H := .inl ⟨rfl, us, .of h⟩
/-- x.append(e) -/
theorem ex_append {K : PySem.W.Frag} {φ : V → Prop} {T : Ty α} {xs : List α} {i : Nat} {m : Option α} (h : env[i]? = some (some (muL φ T xs))) (he : EV E env te m (val T)) :
    EX E env (tBM K "list" rAppend (tVar i) (tCons te tNil)) (m.bind fun x => grd (xs.length < 16777216) (some (xs ++ [x]))) (fun _ => val tNon ()) fun ys => env.set i (some (muL φ T ys)) := by
  intro st vs σ H Q c gg hm hq
  obtain ⟨x, ex, hm⟩ := Option.bind_eq_some_iff.mp hm
  obtain ⟨hlen, hm⟩ := grd_some hm
  cases hm
  obtain ⟨F, w, g⟩ := id gg
  obtain ⟨a, us, e1, hh, p, _⟩ := g.mutE h
  refine ⟨_, e1, tyV_lst hh, he st vs σ H _ x gg ex fun v H2 ⟨F2, w2, g2⟩ => ?_⟩
  obtain ⟨a', us2, e2, hh2, p2, k⟩ := g2.pop.mutE h
  rw [e1] at e2
  cases e2
  refine ⟨a, us2, v, rfl, rfl, hh2, by rw [p2.length, sizeLine_eq]; exact hlen, hq _ _ ⟨F2, w2, (k (us2 ++ [v]) (xs ++ [x]) (Paired.snoc p2 g2.top)).pushV (T := tNon) rfl⟩⟩
/-- x.reverse(), x.clear() -/
theorem ex_reverse {K : PySem.W.Frag} {φ : V → Prop} {T : Ty α} {xs : List α} {i : Nat} (h : env[i]? = some (some (muL φ T xs))) :
    EX E env (tBM0 K "list" rReverse (tVar i)) (some xs.reverse) (fun _ => val tNon ()) fun ys => env.set i (some (muL φ T ys)) := by
  intro st vs σ H Q c ⟨F, w, g⟩ hm hq
  cases hm
  obtain ⟨a, us, e1, hh, p, k⟩ := g.mutE h
  exact ⟨_, e1, tyV_lst hh, a, us, rfl, rfl, hh, hq _ _ ⟨F, w, (k us.reverse xs.reverse (Paired.rev p)).pushV (T := tNon) rfl⟩⟩
theorem ex_clear {K : PySem.W.Frag} {φ : V → Prop} {T : Ty α} {xs : List α} {i : Nat} (h : env[i]? = some (some (muL φ T xs))) :
    EX E env (tBM0 K "list" rClear (tVar i)) (some []) (fun _ => val tNon ()) fun ys => env.set i (some (muL φ T ys)) := by
  intro st vs σ H Q c ⟨F, w, g⟩ hm hq
  cases hm
  obtain ⟨a, us, e1, hh, p, k⟩ := g.mutE h
  exact ⟨_, e1, tyV_lst hh, a, us, rfl, rfl, hh, hq _ _ ⟨F, w, (k [] [] .nil).pushV (T := tNon) rfl⟩⟩
/-- x[i] = e -/
theorem Paired.set {α β : Type} {f : α → β → Prop} {a : α} {b : β} (r : f a b) : ∀ {l : List α} {m : List β} (j : Nat), Paired f l m → Paired f (l.set j a) (m.set j b)
  | _, _, _, .nil => .nil
  | _, _, 0, .cons _ t => .cons r t
  | _, _, j + 1, .cons q t => .cons q (Paired.set r j t)
def setI (xs : List α) (i : Int) (x : α) : Option (List α) := (ixN xs.length i).map fun j => xs.set j x
theorem bk_setI {φ : V → Prop} {T : Ty α} {xs : List α} {j : Nat} {m : Option α} {mi : Option Int} {k : List α → Option γ} (h : env[j]? = some (some (muL φ T xs))) (he : EV E env te m (val T)) (hi : EV E env ti mi (val tInt))
    (hk : ∀ ys, BK E (env.set j (some (muL φ T ys))) u (k ys) post) : BK E env (tSeq (tAsg te (gSub (tVar j) ti rSetL)) u) (m.bind fun x => mi.bind fun i => (setI xs i x).bind k) post := by
  intro st vs σ H D y gg hm hq
  obtain ⟨x, ex, hm⟩ := Option.bind_eq_some_iff.mp hm
  obtain ⟨i, ei, hm⟩ := Option.bind_eq_some_iff.mp hm
  obtain ⟨ys, ey, hm⟩ := Option.bind_eq_some_iff.mp hm
  obtain ⟨j', ej, rfl⟩ := Option.map_eq_some_iff.mp ey
  refine he st vs σ H _ x gg ex fun v H2 gg2 => ?_
  obtain ⟨F2, w2, g2⟩ := id gg2
  obtain ⟨a, us, e1, hh, p, _⟩ := g2.mutE h
  refine ⟨_, e1, hi _ _ σ H2 _ i gg2 ei fun iv H3 ⟨F3, w3, g3⟩ => ?_⟩
  obtain ⟨a', us3, e2, hh3, p3, k3⟩ := g3.pop.pop.mutE h
  rw [e1] at e2
  cases e2
  refine ⟨a, us3, i, j', rfl, g3.top, hh3, by rw [p3.length]; exact ej, ?_⟩
  exact hk _ st vs σ _ D y ⟨F3, w3, k3 _ _ (ML.Paired.set (f := T.rp F3) (show T.rp F3 v x from g3.st.2.1) j' p3)⟩ hm hq
/-! ### from now on all may know it -/
theorem bk_frzS {S : SP} {q : VP} (i : Nat) {m : Option γ} (h : env[i]? = some (some S)) (z : Fz S q) (hk : BK E (env.set i (some q.sp)) u m post) : BK E env u m post := by
  intro st vs σ H D y ⟨F, w, g⟩ hm hq
  obtain ⟨F', w', g'⟩ := g.frzE h z
  exact hk st vs σ H D y ⟨F', w', g'⟩ hm hq
theorem bk_frz {φ : V → Prop} {T : Ty α} {xs : List α} (i : Nat) {m : Option γ} (h : env[i]? = some (some (muL φ T xs))) (hk : BK E (env.set i (some (val (tL T) xs))) u m post) : BK E env u m post := bk_frzS i h fz_mu hk
/-! ### read only: what is one's own is a value for one expression -/
/-- the value does not lie in the heap -/
def Flat (T : Ty α) : Prop := ∀ F F' v x, T.rp F v x → T.rp F' v x
theorem flat_int : Flat tInt := fun _ _ _ _ h => h
theorem flat_bool : Flat tBool := fun _ _ _ _ h => h
theorem flat_str : Flat tStr := fun _ _ _ _ h => h
theorem flat_non : Flat tNon := fun _ _ _ _ h => h
theorem flat_dyn : Flat tDyn := fun _ _ _ _ h => h
/-- values that hold no objects but tuples may come out of a borrow -/
def Nb (T : Ty α) : Prop := ∀ (F F2 : Hp) (v : V) (x : α), (∀ a us, F a = some (.tup us) → F2 a = some (.tup us)) → T.rp F v x → T.rp F2 v x
theorem nb_fl {T : Ty α} (h : Flat T) : Nb T := fun F F2 v x _ r => h F F2 v x r
theorem nb_int : Nb tInt := nb_fl flat_int
theorem nb_bool : Nb tBool := nb_fl flat_bool
theorem nb_str : Nb tStr := nb_fl flat_str
theorem nb_non : Nb tNon := nb_fl flat_non
theorem nb_dyn : Nb tDyn := nb_fl flat_dyn
theorem nb_P {T : Ty α} {U : Ty β} (h : Nb T) (k : Nb U) : Nb (tP T U) := fun F F2 v x s ⟨a, p, q, e, hf, h1, h2⟩ => ⟨a, p, q, e, s _ _ hf, h F F2 _ _ s h1, k F F2 _ _ s h2⟩
theorem nb_U {T : Ty α} (h : Nb T) : Nb (tU T) := fun F F2 v x s ⟨a, us, e, hf, p⟩ => ⟨a, us, e, s _ _ hf, Paired.mono p fun _ _ => h F F2 _ _ s⟩
theorem nb_O {T : Ty α} (h : Nb T) : Nb (tOpt T) := fun F F2 v x s r => by
  cases x with
  | none => exact r
  | some y => exact h F F2 v y s r
/-- it owns no tuples -/
def NT (S : SP) : Prop := ∀ (F H : Hp) (o : Addr → Prop) (v : V), S.ok F H o v → ∀ a, o a → ∀ us, H a ≠ some (.tup us)
theorem nt_mu {φ : V → Prop} {T : Ty α} {xs : List α} : NT (muL φ T xs) := fun F H o v ⟨a, us, e, f, ho, h, p⟩ b hb ts z => by
  rw [(ho b).mp hb, h] at z; cases z
def Brw (env env' : En) : Prop := env'.length ≤ env.length ∧ ∀ (i : Nat) (S' : SP), env'[i]? = some (some S') → (∃ q : VP, S' = q.sp ∧ env[i]? = some (some q.sp)) ∨ ∃ (S : SP) (q : VP), S' = q.sp ∧ env[i]? = some (some S) ∧ Fz S q ∧ NT S
theorem GG.brw {env' : En} {st : List SP} {σ : L2.St} {vs : List V} {H F : Hp} {w : Ow} (g : GG E env st σ vs H F w) (b : Brw env env') :
    ∃ Fp, Same F Fp ∧ Same Fp H ∧ (∀ a, w a = none → Fp a = F a) ∧ (∀ a us, w a ≠ none → Fp a ≠ some (.tup us)) ∧ GG (.mk0 Fp H) env' [] σ [] H Fp (fun _ => none) := by
  classical
  let L : Addr → Prop := fun a => ∃ i S, env[i]? = some (some S) ∧ NT S ∧ w a = some (.e i)
  let Fp : Hp := fun a => if L a then H a else F a
  have s1 : Same F Fp := fun a o e => by
    show (if L a then H a else F a) = some o
    by_cases h : L a
    · rw [if_pos h]; exact g.ext.s a o e
    · rw [if_neg h]; exact e
  have s2 : Same Fp H := fun a o e => by
    have e' : (if L a then H a else F a) = some o := e
    by_cases h : L a
    · rw [if_pos h] at e'; exact e'
    · rw [if_neg h] at e'; exact g.ext.s a o e'
  refine ⟨Fp, s1, s2, fun a h => ?_, fun a us hw e => ?_, ExtE.refl s2, ⟨Nat.le_trans b.1 g.env.1, fun i S' e => ?_⟩, trivial, fun a l e => by cases e⟩
  · show (if L a then H a else F a) = F a
    rw [if_neg]
    rintro ⟨i, S, _, _, e⟩
    rw [h] at e; cases e
  · have e' : (if L a then H a else F a) = some (.tup us) := e
    by_cases h : L a
    · rw [if_pos h] at e'
      obtain ⟨i, S, e1, n, e2⟩ := h
      obtain ⟨v, _, hS⟩ := g.env.2 i S e1
      exact n F H _ v hS a e2 us e'
    · rw [if_neg h] at e'
      obtain ⟨l, el⟩ := ne_some hw
      rw [(g.own a l el).1] at e'; cases e'
  · rcases b.2 i S' e with ⟨q, rfl, e2⟩ | ⟨S, q, rfl, e2, z, n⟩
    · obtain ⟨v, e3, e4⟩ := g.env.2 i _ e2
      exact ⟨v, e3, q.mono s1 e4⟩
    · obtain ⟨v, e3, e4⟩ := g.env.2 i _ e2
      refine ⟨v, e3, z F H _ v e4 (fun a ha => (g.own a _ ha).1) Fp s1 fun a ha => ?_⟩
      show (if L a then H a else F a) = H a
      rw [if_pos ⟨i, S, e2, n, ha⟩]
theorem GG.unbrw {st : List SP} {σ : L2.St} {vs : List V} {H F H' Fp F' : Hp} {w : Ow} (g : GG E env st σ vs H F w) (s1 : Same F Fp) (h1 : ∀ a, w a = none → Fp a = F a) (h2 : ∀ a us, w a ≠ none → Fp a ≠ some (.tup us)) (u : Ext Fp H (fun _ => False) F' H') :
    ∃ F2, GG E env st σ vs H' F2 w ∧ (∀ a, F' a = none → F2 a = none) ∧ (∀ a us, F' a = some (.tup us) → F2 a = some (.tup us)) ∧ ∀ a, w a = none → F2 a = F' a := by
  classical
  refine ⟨fun a => if w a = none then F' a else none, g.grow ⟨fun a o e => ?_, fun a o e => ?_, u.h, fun a h => ?_, u.t⟩, fun a e => ?_, fun a us e => ?_, fun a h => if_pos h⟩
  · have hw : w a = none := by
      cases q : w a with
      | none => rfl
      | some l => have := (g.own a l q).1; rw [this] at e; cases e
    show (if w a = none then F' a else none) = some o
    rw [if_pos hw]
    exact u.f a o (s1 a o e)
  · have e' : (if w a = none then F' a else none) = some o := e
    by_cases hw : w a = none
    · rw [if_pos hw] at e'; exact u.s a o e'
    · rw [if_neg hw] at e'; cases e'
  · show (if w a = none then F' a else none) = F a
    by_cases hw : w a = none
    · rw [if_pos hw, u.n a h, h1 a hw]
    · rw [if_neg hw]
      obtain ⟨l, e⟩ := ne_some hw
      exact (g.own a l e).1.symm
  · show (if w a = none then F' a else none) = none
    by_cases hw : w a = none
    · rw [if_pos hw]; exact e
    · rw [if_neg hw]
  · show (if w a = none then F' a else none) = some (.tup us)
    by_cases hw : w a = none
    · rw [if_pos hw]; exact e
    · obtain ⟨l, el⟩ := ne_some hw
      have e3 := u.n a (g.own a l el).2.1
      rw [e] at e3
      exact absurd e3.symm (h2 a us hw)
/-- new things N of one's own come to the top -/
theorem GG.addTop {st : List SP} {σ : L2.St} {vs : List V} {H F : Hp} {w : Ow} {N : Addr → Prop} {S : SP} {v : V} (g : GG E env st σ vs H F w) (hN : ∀ a, N a → w a = none ∧ F a = none ∧ H a ≠ none ∧ E.H a = none) (h : S.ok F H N v) :
    GG E env (S :: st) σ (v :: vs) H F (w.put (.s st.length) N) := by
  have hN2 : ∀ a, N a → w a = none ∨ w a = some (Lb.s st.length) := fun a z => .inl (hN a z).1
  refine ⟨g.ext, g.env.step (M := fun _ => False) (Ext.refl g.ext.s) fun i S _ a => ⟨Ow.put_ne (by intro z; cases z) hN2 a, fun e => ⟨fun z => z, (g.own a _ e).2.1⟩⟩, ⟨by rw [Ow.put_of]; exact h, g.st.step (M := fun _ => False) (Ext.refl g.ext.s) fun i hi a => ⟨Ow.put_ne (by intro z; injection z with z; omega) hN2 a, fun e => ⟨fun z => z, (g.own a _ e).2.1⟩⟩⟩, fun a l e => ?_⟩
  rcases Ow.put_sub e with z | z
  · obtain ⟨_, z2, z3, z4⟩ := hN a z
    exact ⟨z2, z3, .inl z4⟩
  · exact g.own a l z
theorem ev_brwN {env' : En} {T : Ty α} {m : Option α} (fl : Nb T) (b : Brw env env') (h : ∀ F H, EV (.mk0 F H) env' te m (val T)) : EV E env te m (val T) := by
  intro st vs σ H Q x ⟨F, w, g⟩ hm hq
  obtain ⟨Fp, s1, s2, h1, h2, g1⟩ := g.brw b
  refine h Fp H [] [] σ H Q x ⟨Fp, _, g1⟩ hm fun v H' ⟨F', w', g'⟩ => ?_
  obtain ⟨F2, g2, hF2, hF3, _⟩ := g.unbrw s1 h1 h2 g'.ext.to0
  exact hq v H' ⟨F2, w, g2.pushV (fl _ _ _ _ hF3 g'.top)⟩
theorem tx_brw {env' : En} {m : Option Bool} (b : Brw env env') (h : ∀ F H, TX (.mk0 F H) env' tt m) : TX E env tt m := by
  intro st vs σ H Q x ⟨F, w, g⟩ hm hq
  obtain ⟨Fp, s1, s2, h1, h2, g1⟩ := g.brw b
  refine h Fp H [] [] σ H Q x ⟨Fp, _, g1⟩ hm fun H' ⟨F', w', g'⟩ => ?_
  obtain ⟨F2, g2, hF2, _⟩ := g.unbrw s1 h1 h2 g'.ext.to0
  exact hq H' ⟨F2, w, g2⟩
/-- a new list, made of read things -/
theorem ev_brwON {env' : En} {T : Ty α} {m : Option (List α)} (fl : Nb T) (b : Brw env env') (h : ∀ F H, EV (.mk0 F H) env' te m (own T)) : EV E env te m (own T) := by
  intro st vs σ H Q x ⟨F, w, g⟩ hm hq
  obtain ⟨Fp, s1, s2, h1, h2, g1⟩ := g.brw b
  refine h Fp H [] [] σ H Q x ⟨Fp, _, g1⟩ hm fun v H' ⟨F', w', g'⟩ => ?_
  obtain ⟨F2, g2, hF2, hF3, _⟩ := g.unbrw s1 h1 h2 g'.ext.to0
  obtain ⟨a, us, rfl, hf, ho, hh, p⟩ := g'.st.1
  have wa : w' a = some (.s 0) := (ho a).mpr rfl
  obtain ⟨q1, q2, q3⟩ := g'.own a _ wa
  have hHa : H a = none := by
    rcases q3 with z | z
    · exact z
    · exact z.elim
  have wna : w a = none := by
    cases e : w a with
    | none => rfl
    | some l => exact absurd hHa (g.own a l e).2.1
  exact hq _ H' ⟨F2, _, g2.addTop (N := fun b => b = a) (fun b z => by rw [z]; exact ⟨wna, hF2 a q1, q2, g.ext.t a hHa⟩) ⟨a, us, rfl, trivial, fun b => Iff.rfl, hh, Paired.mono p fun _ _ => fl _ _ _ _ hF3⟩⟩
/-! ### a def's promise -/
/-- from values to a value: As the arguments' slots, f the plain function, R the result's slot -/
def spF {A : Type} (As : A → List VP) (f : A → Option ρ) (R : ρ → SP) : Sp := fun vs H Q _ => ∃ (a : A) (r : ρ) (F : Hp), Same F H ∧ StOk F H (fun _ => none) ((As a).map VP.sp).reverse vs.reverse ∧ f a = some r ∧ ∀ v H', G (.mk0 F H) [] [R r] [] [v] H' → Q v H'
theorem spF_len {A : Type} {As : A → List VP} {f : A → Option ρ} {R : ρ → SP} {vs : List V} {H : Hp} {Q : VK} {X : XK} {n : Nat} (h : spF As f R vs H Q X) (hn : ∀ a, (As a).length = n) : vs.length = n := by
  obtain ⟨a, r, F, s, st, _⟩ := h
  have := st.len
  simp at this
  rw [← this, hn]
theorem StOk.novals {F H : Hp} {w w' : Ow} : ∀ {qs : List VP} {vs : List V} {st : List SP} {us : List V}, StOk F H w (qs.map VP.sp ++ st) (vs ++ us) → vs.length = qs.length → StOk F H w' (qs.map VP.sp) vs
  | [], [], _, _, _, _ => trivial
  | q :: qs, v :: vs, _, _, h, e => ⟨h.1, StOk.novals (qs := qs) (vs := vs) h.2 (by simpa using e)⟩
  | [], _ :: _, _, _, _, e => by simp at e
  | _ :: _, [], _, _, _, e => by simp at e
theorem GG.drop {st : List SP} {σ : L2.St} {vs : List V} {H F : Hp} {w : Ow} : ∀ {st1 : List SP} {vs1 : List V}, st1.length = vs1.length → GG E env (st1 ++ st) σ (vs1 ++ vs) H F w → GG E env st σ vs H F w
  | [], [], _, g => g
  | _ :: st1, _ :: vs1, e, g => GG.drop (st1 := st1) (vs1 := vs1) (by simpa using e) g.pop
  | [], _ :: _, e, _ => by simp at e
  | _ :: _, [], e, _ => by simp at e
/-- f(e, ..) -/
theorem ev_call {A : Type} {As : A → List VP} {f : A → Option ρ} {R : ρ → SP} {X : XK} {ta : TA} {m : Option ρ} (ha : AX E env ta [] m fun c Ss => ∃ a, Ss = ((As a).map VP.sp).reverse ∧ f a = some c) : EV E env (tCall (spF As f R) [] X ta) m R := by
  intro st vs σ H Q c gg hm hq
  refine ha st vs [] σ H _ c gg rfl hm fun us H' Ss ⟨a, hs, hf⟩ hl ⟨F, w, g⟩ => ?_
  subst hs
  rw [List.append_nil]
  rw [List.append_nil] at g
  rw [List.nil_append] at hl
  have hl2 : us.reverse.length = ((As a).map VP.sp).reverse.length := by rw [hl, List.length_reverse]
  refine ⟨a, c, F, g.ext.s, ?_, hf, fun v H2 ⟨F2, w2, g2⟩ => ?_⟩
  · have z := g.st
    rw [← List.map_reverse] at z ⊢
    exact StOk.novals z (by simpa using hl2)
  · have g3 := (g.drop hl2.symm).grow (F' := F2) (H' := H2) g2.ext.to0
    refine hq v H2 ⟨F2, _, g3.addTop (N := w2.of (.s 0)) (fun b z => ?_) g2.st.1⟩
    obtain ⟨z1, z2, z3⟩ := g2.own b _ z
    have z4 : H' b = none := by
      rcases z3 with z | z
      · exact z
      · exact z.elim
    refine ⟨?_, z1, z2, g.ext.t b z4⟩
    cases e : w b with
    | none => rfl
    | some l => exact absurd z4 (g.own b l e).2.1
/-- the body's names at the entry -/
def enter (n : Nat) (qs : List VP) : En := qs.map (fun q => some q.sp) ++ List.replicate (n - qs.length) none
theorem StOk.nth {F H : Hp} {w : Ow} : ∀ {qs : List VP} {vs : List V}, StOk F H w (qs.map VP.sp).reverse vs.reverse → ∀ (i : Nat) (q : VP), qs[i]? = some q → ∃ v, vs[i]? = some v ∧ q.p F v := by
  intro qs vs h i q e
  have hl : qs.length = vs.length := by simpa using h.len
  have key : ∀ {qs : List VP} {vs : List V}, StOk F H w (qs.map VP.sp) vs → ∀ (i : Nat) (q : VP), qs[i]? = some q → ∃ v, vs[i]? = some v ∧ q.p F v := by
    intro qs
    induction qs with
    | nil => intro vs h i q e; simp at e
    | cons x qs ih => intro vs h i q e; cases vs with
      | nil => exact h.elim
      | cons v vs => cases i with
        | zero => exact ⟨v, rfl, by have z := Option.some.inj (by simpa using e : some x = some q); rw [← z]; exact h.1⟩
        | succ i =>
          obtain ⟨u, e1, e2⟩ := ih h.2 i q (by simpa using e)
          exact ⟨u, by simpa using e1, e2⟩
  have hi : i < qs.length := (List.getElem?_eq_some_iff.mp e).1
  obtain ⟨v, e1, e2⟩ := key (qs := qs.reverse) (vs := vs.reverse) (by rw [List.map_reverse]; exact h) (qs.length - 1 - i) q (by rw [List.getElem?_reverse (by omega), show qs.length - 1 - (qs.length - 1 - i) = i by omega]; exact e)
  refine ⟨v, ?_, e2⟩
  rw [List.getElem?_reverse (by omega), show vs.length - 1 - (qs.length - 1 - i) = i by omega] at e1
  exact e1
/-- THE RULE for a def's body -/
theorem run_F {A : Type} {As : A → List VP} {f : A → Option ρ} {R : ρ → SP} {eR : ρ → En} {N : List Str} {vs : List V} {H : Hp} {Q : VK} {X : XK} {D : Ends} (h : spF As f R vs H Q X) (hn : ∀ a, (As a).length ≤ N.length) (hD : D.rt = Q)
    (hb : ∀ (a : A) (F H : Hp), BK (.mk0 F H) (enter N.length (As a)) t (f a) (pR (.mk0 F H) R eR)) : t D (L2.start N vs) H := by
  obtain ⟨a, r, F, s, hst, hf, q⟩ := h
  have hl : (As a).length = vs.length := by simpa using hst.len
  have g : GG (.mk0 F H) (enter N.length (As a)) [] (L2.start N vs) [] H F (fun _ => none) := by
    refine ⟨ExtE.refl s, ⟨by simp [enter, L2.start, hl], fun i S e => ?_⟩, trivial, fun a l e => by cases e⟩
    unfold enter at e
    by_cases hi : i < (As a).length
    · rw [List.getElem?_append_left (by simpa using hi)] at e
      rw [List.getElem?_map] at e
      obtain ⟨q, e1, e2⟩ := Option.map_eq_some_iff.mp e
      obtain ⟨v, e3, e4⟩ := hst.nth i q e1
      cases e2
      refine ⟨v, ?_, e4⟩
      unfold L2.start
      rw [List.getElem?_append_left (by simp; omega), List.getElem?_map, e3]
      rfl
    · rw [List.getElem?_append_right (by simp; omega)] at e
      have := List.mem_of_getElem? e
      simp at this
  refine hb a F H [] [] (L2.start N vs) H D r ⟨F, _, g⟩ hf fun v σ' H' ⟨F', w', g'⟩ => ?_
  rw [hD]
  exact q v H' ⟨F', w', ⟨g'.ext, ⟨Nat.zero_le _, fun i S e => by simp at e⟩, g'.st, g'.own⟩⟩
/-- names forgotten, all -/
theorem fgt_nil : Fgt env [] := ⟨Nat.zero_le _, fun i S e => by simp at e⟩
/-! ### the law's end -/
theorem spF_law {K : PySem.W.Frag} {f : List Int → Option Bool} {H : Hp} {a : Addr} {ns : List Int} (hS : SqL K H a (ns.map V.int)) (hf : f ns = some true) : spF (fun ns => [vp (tS K tInt) ns]) f (val tBool) [.ref a] H (fun v _ => v = .bl true) fun _ _ _ => False := by
  refine ⟨ns, true, H, Same.refl H, ⟨⟨a, _, rfl, hS, ?_⟩, trivial⟩, hf, fun v H' ⟨F, w, g⟩ => g.top⟩
  clear hS hf
  induction ns with
  | nil => exact .nil
  | cons n ns ih => exact .cons rfl ih
/-! ### comprehensions -/
def mapO {α β : Type} : List α → (α → Option β) → Option (List β)
  | [], _ => some []
  | x :: xs, f => (f x).bind fun y => (mapO xs f).bind fun ys => some (y :: ys)
def filO {α β : Type} : List α → (α → Option Bool) → (α → Option β) → Option (List β)
  | [], _, _ => some []
  | x :: xs, t, f => (t x).bind fun b => if b = true then (f x).bind fun y => (filO xs t f).bind fun ys => some (y :: ys) else filO xs t f
theorem mapO_filO {α β : Type} (f : α → Option β) : ∀ xs : List α, mapO xs f = filO xs (fun _ => some true) f
  | [] => rfl
  | x :: xs => by
    unfold mapO filO
    rw [mapO_filO f xs]
    rfl
/-- the item goes to the comprehension's own names ws -/
def AC (E : Ent) (env : En) (ws : List Nat) (g : TG) (S : SP) (env' : En) : Prop :=
  ∀ (st : List SP) (vs : List V) (σ : L2.St) (H : Hp) (Q : L2.St → Hp → Prop) (v : V), G E env (S :: st) σ (v :: vs) H → (∀ σ' H', wipe σ' ws = wipe σ ws → G E env' st σ' vs H' → Q σ' H') → g v σ H Q
theorem wipe_set {σ : L2.St} {i : Nat} {x : Option V} : ∀ {ws : List Nat}, i ∈ ws → wipe (σ.set i x) ws = wipe σ ws
  | [], h => by simp at h
  | w :: ws, h => by
    show (wipe (σ.set i x) ws).set w none = (wipe σ ws).set w none
    by_cases hw : i ∈ ws
    · rw [wipe_set hw]
    · have hi : i = w := by simpa [hw] using h
      subst hi
      have key : ∀ ws : List Nat, i ∉ ws → wipe (σ.set i x) ws = (wipe σ ws).set i x := by
        intro ws
        induction ws with
        | nil => intro _; rfl
        | cons a ws ih =>
          intro h
          simp only [List.mem_cons, not_or] at h
          show (wipe (σ.set i x) ws).set a none = ((wipe σ ws).set a none).set i x
          rw [ih h.2, List.set_comm _ _ (fun e => h.1 e)]
      rw [key ws hw, List.set_set]
theorem wipe_wipe {σ : L2.St} : ∀ {ws us : List Nat}, (∀ i ∈ us, i ∈ ws) → wipe (wipe σ us) ws = wipe σ ws
  | ws, [], _ => rfl
  | ws, u :: us, h => by
    show wipe ((wipe σ us).set u none) ws = wipe σ ws
    rw [wipe_set (h u (by simp)), wipe_wipe fun i hi => h i (by simp [hi])]
theorem ac_name {i : Nat} {S : SP} {ws : List Nat} (hi : Nat.ble (i + 1) env.length = true := by rfl) (hw : i ∈ ws := by simp) : AC E env ws (gName i) S (env.set i (some S)) := by
  intro st vs σ H Q v ⟨F, w, g⟩ hq
  obtain ⟨w', g2⟩ := g.store (Nat.le_of_ble_eq_true hi)
  exact hq _ H (wipe_set hw) ⟨F, w', g2⟩
theorem ac_pair {K : PySem.W.Frag} {i j : Nat} {T : Ty α} {U : Ty β} {p : α × β} {ws : List Nat} (hi : Nat.ble (i + 1) env.length = true := by rfl) (hj : Nat.ble (j + 1) env.length = true := by rfl) (hw : i ∈ ws := by simp) (hw2 : j ∈ ws := by simp) :
    AC E env ws (gTup K 2 (gCons (gName i) (gCons (gName j) gNil))) (val (tP T U) p) ((env.set i (some (val T p.1))).set j (some (val U p.2))) := by
  intro st vs σ H Q v ⟨F, w, g⟩ hq
  obtain ⟨a, x, y, e, h, h1, h2⟩ := g.top
  refine ⟨a, [x, y], e, .of (g.ext.s _ _ h), rfl, x, [y], rfl, y, [], rfl, rfl, ?_⟩
  obtain ⟨w1, g1⟩ := (g.pop.pushV h1).store (i := i) (Nat.le_of_ble_eq_true hi)
  obtain ⟨w2, g2⟩ := (g1.pushV h2).store (i := j) (by rw [List.length_set]; exact Nat.le_of_ble_eq_true hj)
  refine hq _ H ?_ ⟨F, w2, g2⟩
  rw [wipe_set hw2, wipe_set hw]
/-- the comprehension's own names are not told outside -/
def NoW (env : En) (ws : List Nat) : Prop := ∀ i ∈ ws, ∀ S, env[i]? ≠ some (some S)
theorem G.wiped {ws : List Nat} {st : List SP} {σ : L2.St} {vs : List V} {H : Hp} (hw : NoW env ws) : G E env st σ vs H ↔ G E env st (wipe σ ws) vs H := by
  have key : ∀ σ σ' : L2.St, σ.length = σ'.length → (∀ i, i ∉ ws → σ'[i]? = σ[i]?) → G E env st σ vs H → G E env st σ' vs H := by
    intro σ σ' hl he ⟨F, w, g⟩
    refine ⟨F, w, g.re (fun a l e => ⟨l, e⟩) ⟨by rw [← hl]; exact g.env.1, fun i S e => ?_⟩ g.st⟩
    obtain ⟨v, e1, e2⟩ := g.env.2 i S e
    refine ⟨v, ?_, e2⟩
    rw [he i (fun hi => hw i hi S e)]
    exact e1
  exact ⟨key _ _ (wipe_length σ ws).symm fun i hi => wipe_out hi, key _ _ (wipe_length σ ws) fun i hi => (wipe_out hi).symm⟩
theorem ev_lc {wi : TI} {g : TG} {ws : List Nat} {mx : Option (List α)} {S : α → SP} {eX : α → En} {T : Ty β} {t : α → Option Bool} {f : α → Option β} (hi : IX E env wi mx S) (hw : NoW env ws) (hg : ∀ x, AC E env ws g (S x) (eX x)) (hX : ∀ x, Fgt (eX x) env) (ht : ∀ x, TX E (eX x) tt (t x)) (he : ∀ x, EV E (eX x) te (f x) (val T)) :
    EV E env (tLc wi g tt te ws) (mx.bind fun xs => grd (xs.length ≤ 16777216) (filO xs t f)) (own T) := by
  intro st vs σ H Q c gg hm hq
  obtain ⟨xs, exs, hm⟩ := Option.bind_eq_some_iff.mp hm
  obtain ⟨hlen, hm⟩ := grd_some hm
  refine hi st vs σ H _ xs gg exs fun J Z v H1 wk ⟨F1, w1, g1⟩ D hD => ?_
  have g0 : G E env (own T [] :: Z :: st) σ (.ref D :: v :: vs) (upd H1 D (.lst [])) := ⟨F1, _, g1.pushO hD ⟨D, [], rfl, trivial, fun b => Iff.rfl, upd_same, .nil⟩⟩
  refine ⟨fun i m H' => m = xs.length - i ∧ ∃ acc ys, G E env (own T acc :: Z :: st) σ (.ref D :: v :: vs) H' ∧ acc.length ≤ i ∧ filO (xs.drop i) t f = some ys ∧ acc ++ ys = c, ⟨_, rfl, [], c, g0, Nat.le_refl _, by simpa using hm, rfl⟩, ?_⟩
  rintro i m H' ⟨rfl, acc, ys, g2, hacc, e, ec⟩
  obtain ⟨k1, k2⟩ := wk E env [own T acc] st σ [.ref D] vs H' i rfl g2
  cases hd : xs.drop i with
  | nil =>
    rw [hd] at e
    cases e
    rw [List.append_nil] at ec
    subst ec
    exact .inl ⟨k2 (drop_nil hd), hq _ _ g2.nip⟩
  | cons x r =>
    rw [hd] at e
    obtain ⟨d1, d2⟩ := drop_cons hd
    have hlt : i < xs.length := (List.getElem?_eq_some_iff.mp d1).1
    obtain ⟨k3, k4⟩ := k1 x d1
    obtain ⟨b, eb, e⟩ := Option.bind_eq_some_iff.mp (show ((t x).bind fun b => if b = true then (f x).bind fun y => (filO r t f).bind fun ys => some (y :: ys) else filO r t f) = some ys from e)
    refine .inr ⟨k3, fun H'' => ∃ m', m' < xs.length - i ∧ m' = xs.length - (i + 1) ∧ ∃ acc ys, G E env (own T acc :: Z :: st) σ (.ref D :: v :: vs) H'' ∧ acc.length ≤ i + 1 ∧ filO (xs.drop (i + 1)) t f = some ys ∧ acc ++ ys = c, fun H'' ⟨m', h1, h2, h3⟩ => ⟨m', h1, h2, h3⟩, fun xv H'' hy => ?_⟩
    have g3 := k4 xv H'' hy
    refine hg x _ _ _ H'' _ xv ((G.wiped hw).mp g3) fun σ2 H2 hσ g4 => ⟨by rw [hσ, wipe_wipe fun i hi => hi], ?_⟩
    have back : ∀ {st' : List SP} {vs' : List V} {H' : Hp}, G E (eX x) st' σ2 vs' H' → G E env st' σ vs' H' := fun g => (G.wiped hw).mpr (by
      have z := (G.wiped hw).mp (g.fgt (hX x))
      rw [hσ, wipe_wipe fun i hi => hi] at z
      exact z)
    refine ht x _ _ σ2 H2 _ b g4 eb fun H3 g5 => ?_
    cases b with
    | false =>
      exact ⟨_, by omega, rfl, acc, ys, back g5, by omega, by rw [d2]; exact e, ec⟩
    | true =>
      obtain ⟨y, ey, e⟩ := Option.bind_eq_some_iff.mp e
      obtain ⟨ys', ey', e⟩ := Option.bind_eq_some_iff.mp e
      have e' : y :: ys' = ys := Option.some.inj e
      refine he x _ _ σ2 H3 _ y g5 ey fun yv H4 g6 => ?_
      obtain ⟨F6, w6, g6⟩ := back g6
      -- own D below the new value
      have hy := g6.top
      obtain ⟨a, us, ea, hf, ho, hh, p⟩ := g6.pop.st.1
      cases ea
      refine ⟨us, hh, by rw [p.length, sizeLine_eq]; omega, ?_⟩
      have wD : w6 D = some (.s (Z :: st).length) := (ho D).mpr rfl
      obtain ⟨q1, q2, q3⟩ := g6.own D _ wD
      have u := Ext.chg (o := .lst (us ++ [yv])) g6.ext.s q1
      refine ⟨_, by omega, rfl, acc ++ [y], ys', ⟨F6, w6, g6.step u (fun b hb => ⟨.s (Z :: st).length, by rw [hb]; exact wD⟩) (fun b l e => .inl ⟨l, e⟩) (g6.env.step u fun k S _ b => ⟨Iff.rfl, fun e => ⟨fun z => ?_, (g6.own b _ e).2.1⟩⟩) ⟨⟨D, us ++ [yv], rfl, hf, ho, upd_same, Paired.snoc p hy⟩, ?_⟩⟩, by simp; omega, by rw [d2]; exact ey', by rw [← ec, ← e']; simp⟩
      · rw [z, wD] at e; cases e
      · exact g6.pop.pop.st.step u fun k hk b => ⟨Iff.rfl, fun e => ⟨fun z => by rw [z, wD] at e; injection e with e; injection e with e; have e2 : (Z :: st).length = k := e; have hk2 : k < (Z :: st).length := hk; omega, (g6.own b _ e).2.1⟩⟩
theorem ev_lc1 {wi : TI} {g : TG} {ws : List Nat} {mx : Option (List α)} {S : α → SP} {eX : α → En} {T : Ty β} {f : α → Option β} (hi : IX E env wi mx S) (hw : NoW env ws) (hg : ∀ x, AC E env ws g (S x) (eX x)) (hX : ∀ x, Fgt (eX x) env) (he : ∀ x, EV E (eX x) te (f x) (val T)) :
    EV E env (tLc wi g tYes te ws) (mx.bind fun xs => grd (xs.length ≤ 16777216) (mapO xs f)) (own T) := by
  have h := ev_lc (tt := tYes) (t := fun _ => some true) hi hw hg hX (fun x => fun st vs σ H Q b gg hm hq => by cases hm; exact hq H gg) he
  have e : (fun xs : List α => grd (xs.length ≤ 16777216) (filO xs (fun _ => some true) f)) = fun xs => grd (xs.length ≤ 16777216) (mapO xs f) := funext fun xs => by rw [mapO_filO]
  rw [e] at h
  exact h
end
end ML

set_option Elab.async false
set_option linter.all false
set_option maxRecDepth 100000
set_option maxHeartbeats 2000000
namespace ML
open PySem PySem.Spec PyProof.Rows L2

section
variable {α β γ δ ρ τ : Type} {E : Ent} {env env' : En} {te ta tb tc ti : TE} {tt : TT} {u t t1 t2 : TS} {post : Post γ}
/-! ### small constructors -/
theorem fgt_0 : Fgt [] [] := Fgt.refl []
theorem fgt_c {a : Option SP} (h : Fgt env env') : Fgt (a :: env) (a :: env') := ⟨Nat.succ_le_succ h.1, fun i S e => by
  cases i with
  | zero => exact ⟨S, e, fun _ _ _ _ h => h⟩
  | succ i => exact h.2 i S e⟩
theorem fgt_n {a : Option SP} (h : Fgt env env') : Fgt (a :: env) (none :: env') := ⟨Nat.succ_le_succ h.1, fun i S e => by
  cases i with
  | zero => cases e
  | succ i => exact h.2 i S e⟩
theorem fgt_w {S0 S1 : SP} (k : ∀ F H o v, S0.ok F H o v → S1.ok F H o v) (h : Fgt env env') : Fgt (some S0 :: env) (some S1 :: env') := ⟨Nat.succ_le_succ h.1, fun i S e => by
  cases i with
  | zero => cases e; exact ⟨S0, rfl, k⟩
  | succ i => exact h.2 i S e⟩
theorem brw_0 : Brw [] [] := ⟨Nat.le_refl _, fun i S e => by simp at e⟩
theorem brw_n {a : Option SP} (h : Brw env env') : Brw (a :: env) (none :: env') := ⟨Nat.succ_le_succ h.1, fun i S e => by
  cases i with
  | zero => cases e
  | succ i => exact h.2 i S e⟩
theorem brw_v {T : Ty α} {x : α} (h : Brw env env') : Brw (some (val T x) :: env) (some (val T x) :: env') := ⟨Nat.succ_le_succ h.1, fun i S e => by
  cases i with
  | zero => cases e; exact .inl ⟨_, rfl, rfl⟩
  | succ i => exact h.2 i S e⟩
theorem brw_s {S0 : SP} {q0 : VP} (z : Fz S0 q0) (n : NT S0) (h : Brw env env') : Brw (some S0 :: env) (some q0.sp :: env') := ⟨Nat.succ_le_succ h.1, fun i S e => by
  cases i with
  | zero => cases e; exact .inr ⟨_, _, rfl, rfl, z, n⟩
  | succ i => exact h.2 i S e⟩
theorem brw_o {φ : V → Prop} {T : Ty α} {xs : List α} (h : Brw env env') : Brw (some (muL φ T xs) :: env) (some (val (tL T) xs) :: env') := brw_s fz_mu nt_mu h
/-- the inferred mirror is this one -/
theorem bk_eq {m m' : Option γ} (h : BK E env t m post) (e : m = m') : BK E env t m' post := e ▸ h
theorem ev_eq {m m' : Option α} {S : α → SP} (h : EV E env te m S) (e : m = m') : EV E env te m' S := e ▸ h
/-! ### more operators -/
theorem Paired.app {α β : Type} {f : α → β → Prop} : ∀ {l1 l2 : List α} {m1 m2 : List β}, Paired f l1 m1 → Paired f l2 m2 → Paired f (l1 ++ l2) (m1 ++ m2)
  | _, _, _, _, .nil, s => s
  | _, _, _, _, .cons r t, s => .cons r (Paired.app t s)
theorem o2_cat {T : Ty α} {xs ys : List α} : O2 rCat (val (tL T) xs) (val (tL T) ys) (grd (xs.length + ys.length ≤ 16777216) (some (xs ++ ys))) (own T) := by
  intro E env st σ vs H Q va vb c ⟨F, w, g⟩ hm hq
  obtain ⟨hl, hm⟩ := grd_some hm
  cases hm
  obtain ⟨b, zs, eb, hb, pb⟩ := g.top
  obtain ⟨a, us, ea, ha, pa⟩ := g.pop.top
  refine ⟨a, b, us, zs, ea, eb, g.ext.s _ _ ha, g.ext.s _ _ hb, by rw [pa.length, pb.length, sizeLine_eq]; exact hl, fun p hp => hq _ _ ⟨F, _, g.pop.pop.pushO hp ⟨p, _, rfl, trivial, fun b => Iff.rfl, upd_same, ?_⟩⟩⟩
  exact ML.Paired.app pa pb
theorem o1_int {a : Int} : O1 (fun v H Q => (∃ i, [v] = [V.int i] ∧ Q (.int i) H) ∨ ∃ k, [v] = [V.bl k] ∧ Q (.int (if k then 1 else 0)) H) (val tInt a) (some a) (val tInt) := o1_mk fun c hm F H Q va s ha hq => by
  cases hm
  exact .inl ⟨a, by rw [show va = V.int a from ha], hq _ rfl⟩
theorem o1_intB {a : Bool} : O1 (fun v H Q => (∃ i, [v] = [V.int i] ∧ Q (.int i) H) ∨ ∃ k, [v] = [V.bl k] ∧ Q (.int (if k then 1 else 0)) H) (val tBool a) (some (if a then 1 else 0)) (val tInt) := o1_mk fun c hm F H Q va s ha hq => by
  cases hm
  refine .inr ⟨a, by rw [show va = V.bl a from ha], hq _ ?_⟩
  cases a <;> rfl
theorem o2_max {a b : Int} : O2 (fun v u H Q => ∃ i j, [v, u] = [V.int i, V.int j] ∧ Q (.int (if j > i then j else i)) H) (val tInt a) (val tInt b) (some (if b > a then b else a)) (val tInt) := o2_mk fun c hm F H Q va vb s ha hb hq => by
  cases hm
  exact ⟨a, b, by rw [show va = V.int a from ha, show vb = V.int b from hb], hq _ rfl⟩
theorem o2_min {a b : Int} : O2 (fun v u H Q => ∃ i j, [v, u] = [V.int i, V.int j] ∧ Q (.int (if j < i then j else i)) H) (val tInt a) (val tInt b) (some (if b < a then b else a)) (val tInt) := o2_mk fun c hm F H Q va vb s ha hb hq => by
  cases hm
  exact ⟨a, b, by rw [show va = V.int a from ha, show vb = V.int b from hb], hq _ rfl⟩
theorem o1_abs {a : Int} : O1 (fun v H Q => ∃ i, [v] = [V.int i] ∧ Q (.int (if i < 0 then -i else i)) H) (val tInt a) (some (if a < 0 then -a else a)) (val tInt) := o1_mk fun c hm F H Q va s ha hq => by
  cases hm
  exact ⟨a, by rw [show va = V.int a from ha], hq _ rfl⟩
/-- is None, is not None -/
theorem o2_isN {T : Ty α} {x : Option α} (hn : ∀ F y, ¬ T.rp F .non y) : O2 (fun x y H Q => y = .non ∧ Q (.bl (decide (x = .non))) H) (val (tOpt T) x) (val tNon ()) (some x.isNone) (val tBool) := o2_mk fun c hm F H Q va vb s ha hb hq => by
  cases hm
  refine ⟨hb, hq _ ?_⟩
  cases x with
  | none => rw [show va = V.non from ha]; rfl
  | some y =>
    have : va ≠ .non := fun z => hn F y (by rw [← z]; exact ha)
    show V.bl _ = V.bl _
    rw [decide_eq_false this]
    rfl
theorem o2_notN {T : Ty α} {x : Option α} (hn : ∀ F y, ¬ T.rp F .non y) : O2 (fun x y H Q => y = .non ∧ Q (.bl (!decide (x = .non))) H) (val (tOpt T) x) (val tNon ()) (some x.isSome) (val tBool) := o2_mk fun c hm F H Q va vb s ha hb hq => by
  cases hm
  refine ⟨hb, hq _ ?_⟩
  cases x with
  | none => rw [show va = V.non from ha]; rfl
  | some y =>
    have : va ≠ .non := fun z => hn F y (by rw [← z]; exact ha)
    show V.bl _ = V.bl _
    rw [decide_eq_false this]
    rfl
theorem nn_int : ∀ (F : Hp) (y : Int), ¬ tInt.rp F .non y := fun _ _ h => by cases h
theorem nn_str : ∀ (F : Hp) (y : Str), ¬ tStr.rp F .non y := fun _ _ h => by cases h
theorem nn_L {T : Ty α} : ∀ (F : Hp) (y : List α), ¬ (tL T).rp F .non y := fun _ _ ⟨_, _, h, _⟩ => by cases h
theorem nn_P {T : Ty α} {U : Ty β} : ∀ (F : Hp) (y : α × β), ¬ (tP T U).rp F .non y := fun _ _ ⟨_, _, _, h, _⟩ => by cases h
/-- a value that is not None -/
theorem ev_some {T : Ty α} {m : Option α} (h : EV E env te m (val T)) : EV E env te (m.map some) (val (tOpt T)) := ev_as h fun x F H o v h => h
/-- isinstance of a value whose kind is known -/
def tCls : Ty String := ⟨fun _ v n => v = .ty n, fun _ h => h⟩
theorem ev_ty {n : String} : EV E env (tC (.ty n)) (some n) (val tCls) := ev_c fun _ => rfl
theorem o2_isi {K : PySem.W.Frag} {T : Ty α} {x : α} {n a : String} {b : Bool} (ht : ∀ F v, T.rp F v x → TyX K F v (.type a)) (hk : kitB a n = some b) (hm : ∀ F H v, Same F H → TyX K F v (.type a) → TyX K H v (.type a)) :
    O2 (fun v u H Q => rIsi K [v, u] H Q) (val T x) (val tCls n) (some b) (val tBool) := o2_mk fun c hc F H Q va vb s ha hb hq => by
  cases hc
  refine ⟨va, vb, .type a, .type n, b, rfl, ?_, hm F H va s (ht F va ha), kit_ty hk, hq _ rfl⟩
  rw [show vb = V.ty n from hb]
  exact .ty n
theorem isi_mono {K : PySem.W.Frag} {F H : Hp} {v : V} {t : Value} (s : Same F H) (h : TyX K F v t) : TyX K H v t := by
  cases h with
  | base h =>
    refine .base ?_
    cases h with
    | non => exact .non
    | bl b => exact .bl b
    | int i => exact .int i
    | str x => exact .str x
    | flt x => exact .flt x
    | lst e => exact .lst (s _ _ e)
    | frz e => exact .frz (s _ _ e)
    | tup e => exact .tup (s _ _ e)
    | dK e => exact .dK (s _ _ e)
    | dT e => exact .dT (s _ _ e)
    | ins e a b c d f => exact .ins (s _ _ e) a b c d f
  | byt b => exact .byt b
  | set e => exact .set (s _ _ e)
  | kList e c => exact .kList e c
  | kTuple e c => exact .kTuple e c
  | kDict e c => exact .kDict e c
  | fTuple e => exact .fTuple (s _ _ e)
  | fDict e => exact .fDict (s _ _ e)
theorem ty_int {K : PySem.W.Frag} {x : Int} : ∀ F v, tInt.rp F v x → TyX K F v (.type "int") := fun F v h => by rw [show v = V.int x from h]; exact .base (.int x)
theorem ty_bool {K : PySem.W.Frag} {x : Bool} : ∀ F v, tBool.rp F v x → TyX K F v (.type "bool") := fun F v h => by rw [show v = V.bl x from h]; exact .base (.bl x)
theorem ty_str {K : PySem.W.Frag} {x : Str} : ∀ F v, tStr.rp F v x → TyX K F v (.type "str") := fun F v h => by rw [show v = V.str x from h]; exact .base (.str x)
theorem ty_L {K : PySem.W.Frag} {T : Ty α} {x : List α} : ∀ F v, (tL T).rp F v x → TyX K F v (.type "list") := fun F v ⟨a, us, e, h, _⟩ => by rw [e]; exact .base (.lst h)
theorem ty_P {K : PySem.W.Frag} {T : Ty α} {U : Ty β} {x : α × β} : ∀ F v, (tP T U).rp F v x → TyX K F v (.type "tuple") := fun F v ⟨a, _, _, e, h, _⟩ => by rw [e]; exact .base (.tup h)
theorem ty_U {K : PySem.W.Frag} {T : Ty α} {x : List α} : ∀ F v, (tU T).rp F v x → TyX K F v (.type "tuple") := fun F v ⟨a, us, e, h, _⟩ => by rw [e]; exact .base (.tup h)
theorem o2_is {K : PySem.W.Frag} {T : Ty α} {x : α} {n a : String} {b : Bool} (ht : ∀ F v, T.rp F v x → TyX K F v (.type a)) (hk : kitB a n = some b) : O2 (fun v u H Q => rIsi K [v, u] H Q) (val T x) (val tCls n) (some b) (val tBool) := o2_isi ht hk fun _ _ _ => isi_mono
/-- x is True, x is not False .. -/
theorem o2_isBB {a b : Bool} : O2 rIsB (val tBool a) (val tBool b) (some (decide (a = b))) (val tBool) := o2_mk fun c hm F H Q va vb s ha hb hq => by
  cases hm
  exact ⟨a, b, ha, hb, hq _ rfl⟩
theorem o2_isntBB {a b : Bool} : O2 rNotB (val tBool a) (val tBool b) (some (!decide (a = b))) (val tBool) := o2_mk fun c hm F H Q va vb s ha hb hq => by
  cases hm
  exact ⟨a, b, ha, hb, hq _ rfl⟩
/-- items of a pair -/
theorem o2_ixP0 {K : PySem.W.Frag} {T : Ty α} {U : Ty β} {p : α × β} : O2 (rIxT K) (val (tP T U) p) (val tInt 0) (some p.1) (val T) := o2_mk fun c hm F H Q va vb s ⟨a, x, y, e, h, h1, h2⟩ hb hq => by
  cases hm
  exact ⟨a, [x, y], 0, x, e, hb, .of (s _ _ h), rfl, hq _ h1⟩
theorem o2_ixP1 {K : PySem.W.Frag} {T : Ty α} {U : Ty β} {p : α × β} : O2 (rIxT K) (val (tP T U) p) (val tInt 1) (some p.2) (val U) := o2_mk fun c hm F H Q va vb s ⟨a, x, y, e, h, h1, h2⟩ hb hq => by
  cases hm
  exact ⟨a, [x, y], 1, y, e, hb, .of (s _ _ h), rfl, hq _ h2⟩
theorem o2_ixU {K : PySem.W.Frag} {T : Ty α} {xs : List α} {i : Int} : O2 (rIxT K) (val (tU T) xs) (val tInt i) (atI xs i) (val T) := o2_mk fun c hm F H Q va vb s ⟨a, vs, e, h, p⟩ hb hq => by
  obtain ⟨v, e1, e2⟩ := atI_paired p hm
  exact ⟨a, vs, i, v, e, hb, .of (s _ _ h), e1, hq v e2⟩
theorem o1_lenP {K : PySem.W.Frag} {T : Ty α} {U : Ty β} {p : α × β} : O1 (fun v H Q => ∃ p ys, [v] = [V.ref p] ∧ (SqL K H p ys ∨ SqT K H p ys) ∧ Q (.int ys.length) H) (val (tP T U) p) (some (2 : Int)) (val tInt) := o1_mk fun c hm F H Q va s ⟨a, x, y, e, h, _⟩ hq => by
  cases hm
  exact ⟨a, [x, y], by rw [e], .inr (.of (s _ _ h)), hq _ rfl⟩
theorem o1_lenU {K : PySem.W.Frag} {T : Ty α} {xs : List α} : O1 (fun v H Q => ∃ p ys, [v] = [V.ref p] ∧ (SqL K H p ys ∨ SqT K H p ys) ∧ Q (.int ys.length) H) (val (tU T) xs) (some (xs.length : Int)) (val tInt) := o1_mk fun c hm F H Q va s ⟨a, vs, e, h, p⟩ hq => by
  cases hm
  exact ⟨a, vs, by rw [e], .inr (.of (s _ _ h)), hq _ (by show V.int _ = V.int _; rw [p.length])⟩
/-- x op= e -/
theorem bk_aug {i : Nat} {T : Ty α} {U : Ty β} {W : Ty δ} {x : α} {m : Option β} {ti : TIp} {mc : β → Option δ} {k : δ → Option γ} (h : env[i]? = some (some (val T x))) (he : EV E env te m (val U)) (ho : ∀ b, O2 ti (val T x) (val U b) (mc b) (val W))
    (hk : ∀ y, BK E (env.set i (some (val W y))) u (k y) post) : BK E env (tSeq (tAug i te ti) u) (m.bind fun b => (mc b).bind k) post := by
  intro st vs σ H D g gg hm hq
  obtain ⟨b, eb, hm⟩ := Option.bind_eq_some_iff.mp hm
  obtain ⟨y, ey, hm⟩ := Option.bind_eq_some_iff.mp hm
  obtain ⟨F, w, g0⟩ := id gg
  obtain ⟨v, e1, e2⟩ := g0.env.2 i _ h
  have hi : i < env.length := (List.getElem?_eq_some_iff.mp h).1
  refine ⟨v, e1, he _ _ σ H _ b ⟨F, w, g0.pushV e2⟩ eb fun vb H1 g1 => ho b E env st σ vs H1 _ v vb y g1 ey fun z H2 ⟨F2, w2, g2⟩ => ?_⟩
  obtain ⟨w3, g3⟩ := g2.store hi
  exact hk y st vs _ H2 D g ⟨F2, w3, g3⟩ hm hq
theorem o2_ipI {f : Int → Int → Int} {a b : Int} : O2 (ipI f) (val tInt a) (val tInt b) (some (f a b)) (val tInt) := o2_mk fun c hm F H Q va vb s ha hb hq => by
  cases hm
  exact ⟨a, b, ha, hb, hq _ rfl⟩
end
end ML

set_option Elab.async false
set_option linter.all false
set_option maxRecDepth 100000
set_option maxHeartbeats 2000000
namespace ML
open PySem PySem.Spec PyProof.Rows L2
section
variable {α β γ δ ρ τ : Type} {E : Ent} {env env' : En} {te ta tb tc ti : TE} {tt tu : TT} {u t t1 t2 : TS} {post : Post γ}
/-! ### the same rules where parts are plain -/
theorem ev_opp {r : R2} {a : α} {b : β} {mc : Option γ} {Sa : α → SP} {Sb : β → SP} {S : γ → SP} (ha : EV E env ta (some a) Sa) (hb : EV E env tb (some b) Sb) (hr : O2 r (Sa a) (Sb b) mc S) : EV E env (tOp r ta tb) mc S := by
  intro st vs σ H Q c g hm hq
  exact ha st vs σ H _ a g rfl fun va H1 g1 => hb _ _ σ H1 _ b g1 rfl fun vb H2 g2 => hr E env st σ vs H2 Q va vb c g2 hm hq
theorem ev_opr {r : R2} {ma : Option α} {b : β} {mc : α → Option γ} {Sa : α → SP} {Sb : β → SP} {S : γ → SP} (ha : EV E env ta ma Sa) (hb : EV E env tb (some b) Sb) (hr : ∀ a, O2 r (Sa a) (Sb b) (mc a) S) : EV E env (tOp r ta tb) (ma.bind mc) S := by
  intro st vs σ H Q c g hm hq
  obtain ⟨a, ea, hm⟩ := Option.bind_eq_some_iff.mp hm
  exact ha st vs σ H _ a g ea fun va H1 g1 => hb _ _ σ H1 _ b g1 rfl fun vb H2 g2 => hr a E env st σ vs H2 Q va vb c g2 hm hq
theorem ev_opl {r : R2} {a : α} {mb : Option β} {mc : β → Option γ} {Sa : α → SP} {Sb : β → SP} {S : γ → SP} (ha : EV E env ta (some a) Sa) (hb : EV E env tb mb Sb) (hr : ∀ b, O2 r (Sa a) (Sb b) (mc b) S) : EV E env (tOp r ta tb) (mb.bind mc) S := by
  intro st vs σ H Q c g hm hq
  obtain ⟨b, eb, hm⟩ := Option.bind_eq_some_iff.mp hm
  exact ha st vs σ H _ a g rfl fun va H1 g1 => hb _ _ σ H1 _ b g1 eb fun vb H2 g2 => hr b E env st σ vs H2 Q va vb c g2 hm hq
theorem ev_opm {r : R2} {ma : Option α} {mb : Option β} {mc : α → β → Option γ} {Sa : α → SP} {Sb : β → SP} {S : γ → SP} (ha : EV E env ta ma Sa) (hb : EV E env tb mb Sb) (hr : ∀ a b, O2 r (Sa a) (Sb b) (mc a b) S) : EV E env (tOp r ta tb) (ma.bind fun a => mb.bind fun b => mc a b) S := ev_op ha (fun _ => hb) hr
theorem ev_cb1p {r : List V → Hp → VK → Prop} {a : α} {mc : Option γ} {Sa : α → SP} {S : γ → SP} (ha : EV E env ta (some a) Sa) (hr : O1 (fun v H Q => r [v] H Q) (Sa a) mc S) : EV E env (tCB r (tCons ta tNil)) mc S := by
  intro st vs σ H Q c g hm hq
  exact ha st vs σ H _ a g rfl fun va H1 g1 => hr E env st σ vs H1 Q va c g1 hm hq
theorem ev_cb2p {r : List V → Hp → VK → Prop} {a : α} {b : β} {mc : Option γ} {Sa : α → SP} {Sb : β → SP} {S : γ → SP} (ha : EV E env ta (some a) Sa) (hb : EV E env tb (some b) Sb) (hr : O2 (fun v u H Q => r [v, u] H Q) (Sa a) (Sb b) mc S) :
    EV E env (tCB r (tCons ta (tCons tb tNil))) mc S := by
  intro st vs σ H Q c g hm hq
  exact ha st vs σ H _ a g rfl fun va H1 g1 => hb _ _ σ H1 _ b g1 rfl fun vb H2 g2 => hr E env st σ vs H2 Q va vb c g2 hm hq
theorem ev_cb2m {r : List V → Hp → VK → Prop} {ma : Option α} {mb : Option β} {mc : α → β → Option γ} {Sa : α → SP} {Sb : β → SP} {S : γ → SP} (ha : EV E env ta ma Sa) (hb : EV E env tb mb Sb) (hr : ∀ a b, O2 (fun v u H Q => r [v, u] H Q) (Sa a) (Sb b) (mc a b) S) :
    EV E env (tCB r (tCons ta (tCons tb tNil))) (ma.bind fun a => mb.bind fun b => mc a b) S := ev_cb2 ha (fun _ => hb) hr
theorem ev_unp {r : V → Hp → VK → Prop} {a : α} {mc : Option γ} {Sa : α → SP} {S : γ → SP} (ha : EV E env ta (some a) Sa) (hr : O1 r (Sa a) mc S) : EV E env (tUn r ta) mc S := by
  intro st vs σ H Q c g hm hq
  exact ha st vs σ H _ a g rfl fun va H1 g1 => hr E env st σ vs H1 Q va c g1 hm hq
theorem opt_if {b : Bool} {x y : α} : (if b = true then some x else some y) = some (if b = true then x else y) := by cases b <;> rfl
theorem ev_ifp {t : Bool} {a b : α} {S : α → SP} (ht : TX E env tt (some t)) (ha : EV E env ta (some a) S) (hb : EV E env tb (some b) S) : EV E env (tIf tt ta tb) (some (if t = true then a else b)) S := ev_eq (ev_if ht ha hb) opt_if
theorem ev_andp {a b : Bool} (ha : EV E env ta (some a) (val tBool)) (hb : EV E env tb (some b) (val tBool)) : EV E env (tAndV ta tb) (some (a && b)) (val tBool) := ev_eq (ev_and ha hb) (by cases a <;> rfl)
theorem ev_orp {a b : Bool} (ha : EV E env ta (some a) (val tBool)) (hb : EV E env tb (some b) (val tBool)) : EV E env (tOrV ta tb) (some (a || b)) (val tBool) := ev_eq (ev_or ha hb) (by cases a <;> rfl)
theorem ev_notp {a : Bool} (ha : EV E env ta (some a) (val tBool)) : EV E env (tNotV ta) (some (!a)) (val tBool) := ev_not ha
theorem tx_eq {m m' : Option Bool} (h : TX E env tt m) (e : m = m') : TX E env tt m' := e ▸ h
theorem tx_andp {a b : Bool} (ha : TX E env tt (some a)) (hb : TX E env tu (some b)) : TX E env (tAnd tt tu) (some (a && b)) := tx_eq (tx_and ha hb) (by cases a <;> rfl)
theorem tx_orp {a b : Bool} (ha : TX E env tt (some a)) (hb : TX E env tu (some b)) : TX E env (tOr tt tu) (some (a || b)) := tx_eq (tx_or ha hb) (by cases a <;> rfl)
theorem tx_notp {a : Bool} (ha : TX E env tt (some a)) : TX E env (tNot tt) (some (!a)) := tx_not ha
theorem ev_chainp {r r' : R2} {a : α} {b : β} {c : γ} {k1 k2 : Bool} {T : Ty α} {U : Ty β} {W : Ty γ} (ha : EV E env ta (some a) (val T)) (hb : EV E env tb (some b) (val U)) (hc : EV E env tc (some c) (val W)) (h1 : O2 r (val T a) (val U b) (some k1) (val tBool)) (h2 : O2 r' (val U b) (val W c) (some k2) (val tBool)) :
    EV E env (tChain r r' ta tb tc) (some (k1 && k2)) (val tBool) := by
  intro st vs σ H Q z g hm hq
  refine ha st vs σ H _ a g rfl fun va H1 g1 => hb _ _ σ H1 _ b g1 rfl fun vb H2 g2 => ?_
  obtain ⟨F2, w2, g2⟩ := g2
  have gb : U.rp F2 vb b := g2.top
  have g2' : GG E env (val U b :: val T a :: val U b :: st) σ (vb :: va :: vb :: vs) H2 F2 w2 := g2.re (fun a l e => ⟨l, e⟩) g2.env ⟨g2.st.1, g2.st.2.1, gb, g2.st.2.2⟩
  refine h1 E env _ σ _ H2 _ va vb k1 ⟨F2, w2, g2'⟩ rfl fun v H3 ⟨F3, w3, g3⟩ => ⟨k1, g3.top, ?_⟩
  cases k1 with
  | true =>
    rw [if_pos rfl]
    refine hc _ _ σ H3 _ c ⟨F3, w3, g3.pop⟩ rfl fun vc H4 g4 => h2 E env st σ vs H4 Q vb vc z g4 ?_ hq
    rw [← hm]; rfl
  | false =>
    rw [if_neg Bool.false_ne_true]
    cases hm
    exact hq _ _ ⟨F3, w3, g3.pop.pop.pushV rfl⟩
/-- tests that are plain, in an if -/
theorem br_ifrp {b : Bool} {ma mb : Option ρ} {R : ρ → SP} {eR : ρ → En} (ht : TX E env tt (some b)) (ha : BK E env t1 ma (pR E R eR)) (hb : BK E env u mb (pR E R eR)) : BK E env (tSeq (tIfS tt t1 tNext) u) (if b = true then ma else mb) (pR E R eR) := br_ifr ht ha hb
/-! ### comprehensions: the own names -/
theorem noW1 {i : Nat} (h : env[i]? = some none) : NoW env [i] := fun j hj S e => by
  have : j = i := by simpa using hj
  rw [this, h] at e; cases e
theorem noW2 {i j : Nat} (h : env[i]? = some none) (h2 : env[j]? = some none) : NoW env [i, j] := fun k hk S e => by
  have : k = i ∨ k = j := by simpa using hk
  rcases this with z | z
  · rw [z, h] at e; cases e
  · rw [z, h2] at e; cases e
theorem fgt_set {i : Nat} {s : Option SP} (h : env[i]? = some none) : Fgt (env.set i s) env := ⟨by simp, fun j S e => by
  by_cases hj : i = j
  · subst hj; rw [h] at e; cases e
  · rw [List.getElem?_set_ne hj]; exact ⟨S, e, fun _ _ _ _ h => h⟩⟩
theorem fgt_set2 {i j : Nat} {s s' : Option SP} (h : env[i]? = some none) (h2 : env[j]? = some none) : Fgt ((env.set i s).set j s') env := ⟨by simp, fun k S e => by
  by_cases hj : j = k
  · subst hj; rw [h2] at e; cases e
  · rw [List.getElem?_set_ne hj]
    by_cases hi : i = k
    · subst hi; rw [h] at e; cases e
    · rw [List.getElem?_set_ne hi]; exact ⟨S, e, fun _ _ _ _ h => h⟩⟩
end
/-! ### constants of the module -/
section
variable {X : Cx} {x : Str} {pos : Pos}
theorem pe_gint {i : Int} (hg : Gl X x) (h : ∃ t, X.mg x = some (.int i t)) (hd : (x == ("__debug__" : Str)) = false := by decide) : PE X (.Name x pos) (tC (.int i)) := by
  obtain ⟨t, h⟩ := h
  exact pe_glob hg h ⟨t, rfl⟩ hd
theorem pe_gstr {i : Str} (hg : Gl X x) (h : ∃ t, X.mg x = some (.str i t)) (hd : (x == ("__debug__" : Str)) = false := by decide) : PE X (.Name x pos) (tC (.str i)) := by
  obtain ⟨t, h⟩ := h
  exact pe_glob hg h ⟨t, rfl⟩ hd
end
/-! ### defs -/
/-- a def that may be called -/
def Cal (P : Program) (w : World) (K : PySem.W.Frag) (mg : Str → Option Value) (base : Heap) (k : Nat) (y : Str) (ps : List Str) (sp : Sp) : Prop :=
  ∃ (f : Addr) (fd : FuncData), mg y = some (.ref f) ∧ PySem.W.keepIn K (.ref f) = true ∧ Binds K fd ps [] ∧ FnOk P w K mg base CX0 k f fd ps sp
end ML

set_option Elab.async false
set_option linter.all false
set_option maxRecDepth 100000
set_option maxHeartbeats 2000000
namespace ML
open PySem PySem.Spec PyProof.Rows L2
section
variable {α β γ δ ρ τ : Type} {E : Ent} {env env' : En} {te ta tb tc ti : TE} {tt tu : TT} {u t t1 t2 : TS} {post : Post γ}
/-! ### data that are compared -/
structure DT {α : Type} (K : PySem.W.Frag) (T : Ty α) [DecidableEq α] where
  dat : α → PyData
  dp : ∀ {F H : Hp} {v : V} {x : α}, Same F H → T.rp F v x → Dp K H v (dat x)
  dep : Nat
  depth : ∀ x, (dat x).depth ≤ dep
  lay : α → Bool
  can : ∀ x, lay x = true → (dat x).canLay0 = true
  eqv : ∀ x y, PyData.eqv (dat x) (dat y) = decide (x = y)
def dInt {K : PySem.W.Frag} : DT K tInt := ⟨.int, fun _ h => by cases h; exact .int _, 0, fun _ => Nat.le_of_eq rfl, fun _ => true, fun _ _ => by simp [PyData.canLay0], fun x y => by
  unfold PyData.eqv
  exact Bool.beq_eq_decide_eq x y⟩
def dBool {K : PySem.W.Frag} : DT K tBool := ⟨.bool, fun _ h => by cases h; exact .bl _, 0, fun _ => Nat.le_of_eq rfl, fun _ => true, fun _ _ => by simp [PyData.canLay0], fun x y => by
  unfold PyData.eqv
  cases x <;> cases y <;> rfl⟩
def dStr {K : PySem.W.Frag} : DT K tStr := ⟨.str, fun _ h => by cases h; exact .str _, 0, fun _ => Nat.le_of_eq rfl, fun x => PyData.strOk x, fun _ h => by simpa [PyData.canLay0] using h, fun x y => by
  unfold PyData.eqv
  rw [Bool.eq_iff_iff]
  simp⟩
theorem dp_all {K : PySem.W.Frag} {T : Ty α} [DecidableEq α] (D : DT K T) {F H : Hp} (s : Same F H) : ∀ {vs : List V} {xs : List α}, Paired (T.rp F) vs xs → DpAll K H vs (xs.map D.dat)
  | _, _, .nil => .nil
  | _, _, .cons r t => .cons (D.dp s r) (dp_all D s t)
theorem depth_all {K : PySem.W.Frag} {T : Ty α} [DecidableEq α] (D : DT K T) : ∀ xs : List α, PyData.depthAll (xs.map D.dat) ≤ D.dep
  | [] => by simp [PyData.depthAll]
  | x :: xs => by
    have h1 := D.depth x
    have h2 := depth_all D xs
    simp only [List.map_cons, PyData.depthAll]
    omega
theorem can_all {K : PySem.W.Frag} {T : Ty α} [DecidableEq α] (D : DT K T) : ∀ xs : List α, xs.all D.lay = true → PyData.canLayAll0 (xs.map D.dat) = true
  | [], _ => by simp [PyData.canLayAll0]
  | x :: xs, h => by
    rw [List.all_cons, Bool.and_eq_true] at h
    simp only [List.map_cons, PyData.canLayAll0, Bool.and_eq_true]
    exact ⟨D.can x h.1, can_all D xs h.2⟩
theorem eqv_all {K : PySem.W.Frag} {T : Ty α} [DecidableEq α] (D : DT K T) : ∀ xs ys : List α, PyData.eqvAll (xs.map D.dat) (ys.map D.dat) = decide (xs = ys)
  | [], [] => by simp [PyData.eqvAll]
  | x :: xs, y :: ys => by
    simp only [List.map_cons, PyData.eqvAll, D.eqv, eqv_all D xs ys]
    by_cases h1 : x = y
    · by_cases h2 : xs = ys
      · simp [h1, h2]
      · simp [h1, h2]
    · simp [h1]
  | [], _ :: _ => by simp [PyData.eqvAll]
  | _ :: _, [] => by simp [PyData.eqvAll]
def dL {K : PySem.W.Frag} {T : Ty α} [DecidableEq α] (D : DT K T) : DT K (tL T) := ⟨fun xs => .list (xs.map D.dat), fun s ⟨a, vs, e, h, p⟩ => by
    rw [e]; exact .lst (.of (s _ _ h)) (dp_all D s p), D.dep + 1, fun xs => by have := depth_all D xs; simp only [PyData.depth]; omega, fun xs => xs.all D.lay, fun xs h => by simp only [PyData.canLay0]; exact can_all D xs h, fun x y => by
    simp only [PyData.eqv]; exact eqv_all D x y⟩
def dU {K : PySem.W.Frag} {T : Ty α} [DecidableEq α] (D : DT K T) : DT K (tU T) := ⟨fun xs => .tuple (xs.map D.dat), fun s ⟨a, vs, e, h, p⟩ => by
    rw [e]; exact .tup (.of (s _ _ h)) (dp_all D s p), D.dep + 1, fun xs => by have := depth_all D xs; simp only [PyData.depth]; omega, fun xs => xs.all D.lay, fun xs h => by simp only [PyData.canLay0]; exact can_all D xs h, fun x y => by
    simp only [PyData.eqv]; exact eqv_all D x y⟩
def dP {K : PySem.W.Frag} {T : Ty α} {U : Ty β} [DecidableEq α] [DecidableEq β] (D : DT K T) (C : DT K U) : DT K (tP T U) := ⟨fun p => .tuple [D.dat p.1, C.dat p.2], fun s ⟨a, x, y, e, h, h1, h2⟩ => by
    rw [e]; exact .tup (.of (s _ _ h)) (.cons (D.dp s h1) (.cons (C.dp s h2) .nil)), max D.dep C.dep + 1, fun p => by
    have h1 := D.depth p.1; have h2 := C.depth p.2
    simp only [PyData.depth, PyData.depthAll]; omega, fun p => D.lay p.1 && C.lay p.2, fun p h => by
    rw [Bool.and_eq_true] at h
    simp only [PyData.canLay0, PyData.canLayAll0, D.can _ h.1, C.can _ h.2]; rfl, fun p q => by
    obtain ⟨a, b⟩ := p
    obtain ⟨c, d⟩ := q
    simp only [PyData.eqv, PyData.eqvAll, D.eqv, C.eqv, Bool.and_true, Prod.mk.injEq]
    by_cases h1 : a = c
    · by_cases h2 : b = d
      · simp [h1, h2]
      · simp [h1, h2]
    · simp [h1]⟩
def dOpt {K : PySem.W.Frag} {T : Ty α} [DecidableEq α] (D : DT K T) (nn : ∀ x, PyData.eqv .none (D.dat x) = false) (nn2 : ∀ x, PyData.eqv (D.dat x) .none = false) : DT K (tOpt T) := ⟨fun x => match x with
    | none => .none
    | some y => D.dat y, fun {F H v x} s h => by
    cases x with
    | none => rw [show v = V.non from h]; exact .non
    | some y => exact D.dp s h, D.dep, fun x => by
    cases x with
    | none => simp [PyData.depth]
    | some y => exact D.depth y, fun x => match x with
    | none => true
    | some y => D.lay y, fun x h => by
    cases x with
    | none => simp [PyData.canLay0]
    | some y => exact D.can y h, fun x y => by
    cases x with
    | none => cases y with
      | none => simp [PyData.eqv]
      | some y => simp only [nn]; simp
    | some x => cases y with
      | none => simp only [nn2]; simp
      | some y => simp only [D.eqv]; simp⟩
theorem shaped_of {d : PyData} {n : Nat} (h1 : d.canLay0 = true) (h2 : d.depth ≤ n) (h3 : n ≤ 64) : SeqAt.shaped d = true := by
  unfold SeqAt.shaped
  rw [h1, decide_eq_true (Nat.le_trans h2 h3)]; rfl
theorem o2_eqDt {K : PySem.W.Frag} {T : Ty α} [DecidableEq α] (D : DT K T) {a b : α} (hd : D.dep ≤ 64) (hl : ∀ x, D.lay x = true) : O2 (rEqD K) (val T a) (val T b) (some (decide (a = b))) (val tBool) := o2_mk fun c hm F H Q va vb s ha hb hq => by
  cases hm
  refine ⟨_, _, D.dp s ha, D.dp s hb, shaped_of (D.can _ (hl _)) (D.depth _) hd, shaped_of (D.can _ (hl _)) (D.depth _) hd, hq _ ?_⟩
  rw [D.eqv]; rfl
theorem o2_neDt {K : PySem.W.Frag} {T : Ty α} [DecidableEq α] (D : DT K T) {a b : α} (hd : D.dep ≤ 64) (hl : ∀ x, D.lay x = true) : O2 (rNeD K) (val T a) (val T b) (some (!decide (a = b))) (val tBool) := o2_mk fun c hm F H Q va vb s ha hb hq => by
  cases hm
  refine ⟨_, _, D.dp s ha, D.dp s hb, shaped_of (D.can _ (hl _)) (D.depth _) hd, shaped_of (D.can _ (hl _)) (D.depth _) hd, hq _ ?_⟩
  rw [D.eqv]; rfl
/-- with texts within: they are to be such as Python has -/
theorem o2_eqDg {K : PySem.W.Frag} {T : Ty α} [DecidableEq α] (D : DT K T) {a b : α} (hd : D.dep ≤ 64) : O2 (rEqD K) (val T a) (val T b) (grd ((D.lay a && D.lay b) = true) (some (decide (a = b)))) (val tBool) := o2_mk fun c hm F H Q va vb s ha hb hq => by
  obtain ⟨hl, hm⟩ := grd_some hm
  rw [Bool.and_eq_true] at hl
  cases hm
  refine ⟨_, _, D.dp s ha, D.dp s hb, shaped_of (D.can _ hl.1) (D.depth _) hd, shaped_of (D.can _ hl.2) (D.depth _) hd, hq _ ?_⟩
  rw [D.eqv]; rfl
theorem o2_neDg {K : PySem.W.Frag} {T : Ty α} [DecidableEq α] (D : DT K T) {a b : α} (hd : D.dep ≤ 64) : O2 (rNeD K) (val T a) (val T b) (grd ((D.lay a && D.lay b) = true) (some (!decide (a = b)))) (val tBool) := o2_mk fun c hm F H Q va vb s ha hb hq => by
  obtain ⟨hl, hm⟩ := grd_some hm
  rw [Bool.and_eq_true] at hl
  cases hm
  refine ⟨_, _, D.dp s ha, D.dp s hb, shaped_of (D.can _ hl.1) (D.depth _) hd, shaped_of (D.can _ hl.2) (D.depth _) hd, hq _ ?_⟩
  rw [D.eqv]; rfl
theorem eqv_oi {K : PySem.W.Frag} : ∀ x, PyData.eqv .none ((dInt (K := K)).dat x) = false := fun x => by simp [dInt, PyData.eqv]
theorem eqv_io {K : PySem.W.Frag} : ∀ x, PyData.eqv ((dInt (K := K)).dat x) .none = false := fun x => by simp [dInt, PyData.eqv]
abbrev dOInt {K : PySem.W.Frag} : DT K (tOpt tInt) := dOpt dInt eqv_oi eqv_io
theorem lay_L {K : PySem.W.Frag} {T : Ty α} [DecidableEq α] {D : DT K T} (h : ∀ x, D.lay x = true) : ∀ x, (dL D).lay x = true := fun x => List.all_eq_true.mpr fun y _ => h y
theorem lay_U {K : PySem.W.Frag} {T : Ty α} [DecidableEq α] {D : DT K T} (h : ∀ x, D.lay x = true) : ∀ x, (dU D).lay x = true := fun x => List.all_eq_true.mpr fun y _ => h y
theorem lay_P {K : PySem.W.Frag} {T : Ty α} {U : Ty β} [DecidableEq α] [DecidableEq β] {D : DT K T} {C : DT K U} (h : ∀ x, D.lay x = true) (h2 : ∀ x, C.lay x = true) : ∀ x, (dP D C).lay x = true := fun x => by
  show (D.lay x.1 && C.lay x.2) = true
  rw [h, h2]; rfl
theorem lay_O {K : PySem.W.Frag} {T : Ty α} [DecidableEq α] {D : DT K T} {n1 n2} (h : ∀ x, D.lay x = true) : ∀ x, (dOpt D n1 n2).lay x = true := fun x => by
  cases x with
  | none => rfl
  | some y => exact h y
theorem lay_int {K : PySem.W.Frag} : ∀ x, (dInt (K := K)).lay x = true := fun _ => rfl
theorem lay_bool {K : PySem.W.Frag} : ∀ x, (dBool (K := K)).lay x = true := fun _ => rfl
/-! ### what may be None, where it is not -/
theorem ev_get {T : Ty α} {m : Option (Option α)} (h : EV E env te m (val (tOpt T))) : EV E env te (m.bind id) (val T) := by
  intro st vs σ H Q x g hm hq
  obtain ⟨y, ey, hm⟩ := Option.bind_eq_some_iff.mp hm
  cases (show y = some x from hm)
  exact h st vs σ H Q (some x) g ey fun v H' ⟨F, w, g'⟩ => hq v H' ⟨F, w, g'.pop.pushV g'.top⟩
theorem ev_getp {T : Ty α} {x : Option α} (h : EV E env te (some x) (val (tOpt T))) : EV E env te x (val T) := ev_get h
/-- ints and None as scalars -/
theorem o2_eqO {a b : Option Int} : O2 rEq (val (tOpt tInt) a) (val (tOpt tInt) b) (grd (a.isSome || b.isSome || true) (some (decide (a = b)))) (val tBool) := o2_mk fun c hm F H Q va vb s ha hb hq => by
  obtain ⟨_, hm⟩ := grd_some hm
  cases hm
  cases a with
  | none => cases b with
    | none => cases ha; cases hb; exact ⟨rfl, hq _ (by show V.bl _ = V.bl _; simp)⟩
    | some b => cases ha; cases (show vb = V.int b from hb); exact ⟨rfl, hq _ (by show V.bl _ = V.bl _; simp)⟩
  | some a => cases b with
    | none => cases (show va = V.int a from ha); cases hb; exact ⟨rfl, hq _ (by show V.bl _ = V.bl _; simp)⟩
    | some b => cases (show va = V.int a from ha); cases (show vb = V.int b from hb); exact ⟨rfl, hq _ (by show V.bl _ = V.bl _; simp)⟩
theorem grd_t {k : Option γ} {b : Bool} : grd ((b || true) = true) k = k := by simp [grd]
theorem o2_eqOI {a b : Option Int} : O2 rEq (val (tOpt tInt) a) (val (tOpt tInt) b) (some (decide (a = b))) (val tBool) := by
  have h := o2_eqO (a := a) (b := b)
  rw [grd_t] at h
  exact h
theorem o2_neOI {a b : Option Int} : O2 rNe (val (tOpt tInt) a) (val (tOpt tInt) b) (some (!decide (a = b))) (val tBool) := o2_mk fun c hm F H Q va vb s ha hb hq => by
  cases hm
  cases a with
  | none => cases b with
    | none => cases ha; cases hb; exact ⟨rfl, hq _ (by show V.bl _ = V.bl _; simp)⟩
    | some b => cases ha; cases (show vb = V.int b from hb); exact ⟨rfl, hq _ (by show V.bl _ = V.bl _; simp)⟩
  | some a => cases b with
    | none => cases (show va = V.int a from ha); cases hb; exact ⟨rfl, hq _ (by show V.bl _ = V.bl _; simp)⟩
    | some b => cases (show va = V.int a from ha); cases (show vb = V.int b from hb); exact ⟨rfl, hq _ (by show V.bl _ = V.bl _; simp)⟩
/-- isinstance(x, int), x an int or None -/
theorem o2_isO {K : PySem.W.Frag} {T : Ty α} {x : Option α} {n a : String} {b : Bool} (ht : ∀ x F v, T.rp F v x → TyX K F v (.type a)) (hk : kitB a n = some b) (hn : kitB "NoneType" n = some false) : O2 (fun v u H Q => rIsi K [v, u] H Q) (val (tOpt T) x) (val tCls n) (some (x.isSome && b)) (val tBool) := o2_mk fun c hc F H Q va vb s ha hb hq => by
  cases hc
  cases x with
  | none =>
    rw [show va = V.non from ha]
    refine ⟨_, vb, .type "NoneType", .type n, false, rfl, ?_, .base .non, kit_ty hn, hq _ rfl⟩
    rw [show vb = V.ty n from hb]
    exact .ty n
  | some y =>
    refine ⟨va, vb, .type a, .type n, b, rfl, ?_, isi_mono s (ht y F va ha), kit_ty hk, hq _ rfl⟩
    rw [show vb = V.ty n from hb]
    exact .ty n
/-! ### a list of one's own goes out -/
theorem GG.move {S : SP} {i : Nat} {st : List SP} {σ : L2.St} {vs : List V} {H F : Hp} {w : Ow} (g : GG E env st σ vs H F w) (h : env[i]? = some (some S)) : ∃ v w', σ[i]? = some (some v) ∧ GG E (env.set i none) (S :: st) σ (v :: vs) H F w' := by
  classical
  obtain ⟨v, e1, e2⟩ := g.env.2 i S h
  let w' : Ow := fun a => if w a = some (.e i) then some (.s st.length) else if w a = some (.s st.length) then none else w a
  have hw1 : ∀ a, w' a = some (.s st.length) ↔ w a = some (.e i) := fun a => by
    show (if w a = some (.e i) then some (.s st.length) else if w a = some (.s st.length) then none else w a) = _ ↔ _
    by_cases h1 : w a = some (.e i)
    · simp [h1]
    · by_cases h2 : w a = some (.s st.length)
      · simp [h1, h2]
      · simp [h1, h2]
  have hw2 : ∀ l, l ≠ .s st.length → l ≠ .e i → ∀ a, w' a = some l ↔ w a = some l := fun l n1 n2 a => by
    show (if w a = some (.e i) then some (.s st.length) else if w a = some (.s st.length) then none else w a) = _ ↔ _
    by_cases h1 : w a = some (.e i)
    · rw [if_pos h1, h1]; exact ⟨fun z => absurd (Option.some.inj z).symm n1, fun z => absurd (Option.some.inj z).symm n2⟩
    · by_cases h2 : w a = some (.s st.length)
      · simp [h1, h2]; exact fun z => n1 z.symm
      · simp [h1, h2]
  refine ⟨v, w', e1, g.ext, ⟨by simpa using g.env.1, fun j S' e => ?_⟩, ⟨by rw [show w'.of (.s st.length) = w.of (.e i) from funext fun a => propext (hw1 a)]; exact e2, g.st.step (M := fun _ => False) (Ext.refl g.ext.s) fun k hk a => ⟨hw2 _ (by intro z; injection z with z; omega) (by intro z; cases z) a, fun e => ⟨fun z => z, (g.own a _ e).2.1⟩⟩⟩, fun a l e => ?_⟩
  · by_cases hj : i = j
    · subst hj
      rw [List.getElem?_set_self (List.getElem?_eq_some_iff.mp h).1] at e
      cases e
    · rw [List.getElem?_set_ne hj] at e
      obtain ⟨u, f1, f2⟩ := g.env.2 j S' e
      refine ⟨u, f1, ?_⟩
      rw [show w'.of (.e j) = w.of (.e j) from funext fun a => propext (hw2 _ (by intro z; cases z) (by intro z; injection z with z; exact hj z.symm) a)]
      exact f2
  · by_cases hl : l = .s st.length
    · subst hl
      have := (hw1 a).mp e
      exact g.own a _ this
    · by_cases hl2 : l = .e i
      · subst hl2
        have e' : (if w a = some (.e i) then some (Lb.s st.length) else if w a = some (.s st.length) then none else w a) = some (.e i) := e
        by_cases h1 : w a = some (.e i)
        · simp [h1] at e'
        · by_cases h2 : w a = some (.s st.length)
          · simp [h1, h2] at e'
          · simp [h1, h2] at e'
      · exact g.own a l ((hw2 l hl hl2 a).mp e)
theorem ex_mov {i : Nat} {φ : V → Prop} {T : Ty α} {xs : List α} (h : env[i]? = some (some (muL φ T xs))) : EX E env (tVar i) (some xs) (own T) fun _ => env.set i none := by
  intro st vs σ H Q y ⟨F, w, g⟩ hm hq
  cases hm
  obtain ⟨v, w', e1, g2⟩ := g.move h
  exact ⟨v, e1, hq v H ⟨F, w', g2.re (fun a l e => ⟨l, e⟩) g2.env ⟨by
    obtain ⟨a, us, e, f, ho, hh, p⟩ := g2.st.1
    exact ⟨a, us, e, trivial, ho, hh, p⟩, g2.st.2⟩⟩⟩
/-! ### an if whose ways are followed apart -/
theorem bk_ifd {mt : Option Bool} {ma : Option α} {mb : Option β} {ka : α → Option γ} {kb : β → Option γ} {eA : α → En} {eB : β → En} (ht : TX E env tt mt) (ha : BK E env t1 ma (pN E eA)) (hb : BK E env t2 mb (pN E eB)) (hka : ∀ x, BK E (eA x) u (ka x) post) (hkb : ∀ x, BK E (eB x) u (kb x) post) :
    BK E env (tSeq (tIfS tt t1 t2) u) (mt.bind fun b => if b = true then ma.bind ka else mb.bind kb) post := by
  intro st vs σ H D g gg hm hq
  obtain ⟨b, eb, hm⟩ := Option.bind_eq_some_iff.mp hm
  refine ht st vs σ H _ b gg eb fun H1 g1 => ?_
  cases b with
  | true =>
    obtain ⟨x, ex, hm2⟩ := Option.bind_eq_some_iff.mp hm
    exact ha st vs σ H1 _ x g1 ex fun σ' H' g2 => hka x st vs σ' H' D g g2 hm2 hq
  | false =>
    obtain ⟨x, ex, hm2⟩ := Option.bind_eq_some_iff.mp hm
    exact hb st vs σ H1 _ x g1 ex fun σ' H' g2 => hkb x st vs σ' H' D g g2 hm2 hq
theorem ix_R1p {n : Int} (h : EV E env te (some n) (val tInt)) : IX E env (iRng1 (tCons te tNil)) (range1 n) (val tInt) := ix_R1 h
theorem ix_R2p {a b : Int} (ha : EV E env ta (some a) (val tInt)) (hb : EV E env tb (some b) (val tInt)) : IX E env (iRng2 (tCons ta (tCons tb tNil))) (range2 a b) (val tInt) := ix_R2 ha fun _ => hb
/-! ### enumerate, zip -/
def enumL (xs : List α) : List (Int × α) := xs.zipIdx.map fun p => ((p.2 : Int), p.1)
theorem enumL_get {xs : List α} {i : Nat} {y : Int × α} (h : (enumL xs)[i]? = some y) : y.1 = (i : Int) ∧ xs[i]? = some y.2 := by
  unfold enumL at h
  rw [List.getElem?_map] at h
  obtain ⟨p, e1, e2⟩ := Option.map_eq_some_iff.mp h
  rw [List.getElem?_zipIdx] at e1
  obtain ⟨x, e3, e4⟩ := Option.map_eq_some_iff.mp e1
  subst e4 e2
  simp [e3]
theorem enumL_len {xs : List α} : (enumL xs).length = xs.length := by simp [enumL]
theorem wk_E {K : PySem.W.Frag} {T : Ty α} {xs : List α} {a : Addr} : Wk (Ite K a) (enumL xs) (val (tP tInt T)) (val (tL T) xs) (.ref a) := by
  intro E env st1 st σ vs1 vs H i hl1 ⟨F, w, g⟩
  obtain ⟨a', us, e, h, p⟩ := GG.mid hl1 g
  cases e
  have hs : SqL K H a us := .of (g.ext.s _ _ h)
  refine ⟨fun y hy => ?_, fun hl => ⟨us, hs, by rw [p.length]; rw [enumL_len] at hl; exact hl⟩⟩
  obtain ⟨ey, hy⟩ := enumL_get hy
  obtain ⟨x, e1, e2⟩ := ML.Paired.get p hy
  refine ⟨⟨us, x, hs, e1⟩, fun x' H' ⟨B, x2, ev, hB, eH, hx⟩ => ?_⟩
  have := hx us hs
  rw [e1] at this
  cases this
  subst eH ev
  have u := Ext.newF (F := F) (o := .tup [.int (i : Nat), x]) g.ext.s hB
  refine ⟨_, w, (g.grow u).pushV ⟨B, _, _, rfl, upd_same, ?_, T.mono u.f e2⟩⟩
  show V.int _ = V.int _
  rw [ey]
theorem ix_E {K : PySem.W.Frag} {T : Ty α} {m : Option (List α)} (h : EV E env te m (val (tL T))) : IX E env (iEnum K (tCons te tNil)) (m.bind fun xs => some (enumL xs)) (val (tP tInt T)) := by
  intro st vs σ H R ys gg hm hq
  obtain ⟨xs, ex, hm⟩ := Option.bind_eq_some_iff.mp hm
  cases hm
  refine h st vs σ H _ xs gg ex fun v H1 ⟨F, w, g1⟩ => ?_
  obtain ⟨a, us, e, hh, p⟩ := g1.top
  cases e
  exact ⟨a, us, rfl, .of (g1.ext.s _ _ hh), hq _ _ _ _ wk_E ⟨F, w, g1⟩⟩
/-! ### slices -/
def TO1 (E : Ent) (env : En) (t : TO) (m : Option (Option Int)) : Prop :=
  ∀ (st : List SP) (vs : List V) (σ : L2.St) (H : Hp) (Q : Option Int → Hp → Prop) (b : Option Int), G E env st σ vs H → m = some b → (∀ H', G E env st σ vs H' → Q b H') → t σ H Q
theorem to_none : TO1 E env tNoPart (some none) := fun st vs σ H Q b g hm hq => by cases hm; exact hq H g
theorem to_some {m : Option Int} (h : EV E env te m (val tInt)) : TO1 E env (tPart te) (m.map some) := by
  intro st vs σ H Q b g hm hq
  obtain ⟨x, ex, rfl⟩ := Option.map_eq_some_iff.mp hm
  exact h st vs σ H _ x g ex fun v H1 ⟨F, w, g1⟩ => ⟨x, g1.top, hq H1 ⟨F, w, g1.pop⟩⟩
theorem to_somep {x : Int} (h : EV E env te (some x) (val tInt)) : TO1 E env (tPart te) (some (some x)) := to_some h
/-- xs[lo:hi] -/
def cutL (xs : List α) (lo hi : Option Int) : List α := (xs.drop (HT.sIx xs.length 0 lo)).take (HT.sIx xs.length xs.length hi - HT.sIx xs.length 0 lo)
theorem Paired.drop {α β : Type} {f : α → β → Prop} : ∀ {l : List α} {m : List β} (n : Nat), Paired f l m → Paired f (l.drop n) (m.drop n)
  | _, _, 0, p => p
  | _, _, _ + 1, .nil => .nil
  | _, _, n + 1, .cons _ t => Paired.drop n t
theorem Paired.take {α β : Type} {f : α → β → Prop} : ∀ {l : List α} {m : List β} (n : Nat), Paired f l m → Paired f (l.take n) (m.take n)
  | _, _, 0, _ => .nil
  | _, _, _ + 1, .nil => .nil
  | _, _, n + 1, .cons r t => .cons r (Paired.take n t)
theorem ev_slL {K : PySem.W.Frag} {T : Ty α} {tl th : TO} {m : Option (List α)} {ml mh : Option (Option Int)} (h : EV E env te m (val (tL T))) (hl : TO1 E env tl ml) (hh : TO1 E env th mh) : EV E env (tSl (rSlL K) te tl th) (m.bind fun xs => ml.bind fun l => mh.bind fun h => some (cutL xs l h)) (own T) := by
  intro st vs σ H Q c g hm hq
  obtain ⟨xs, exs, hm⟩ := Option.bind_eq_some_iff.mp hm
  obtain ⟨l, el, hm⟩ := Option.bind_eq_some_iff.mp hm
  obtain ⟨u, eu, hm⟩ := Option.bind_eq_some_iff.mp hm
  cases hm
  refine h st vs σ H _ xs g exs fun v H1 g1 => hl _ _ σ H1 _ l g1 el fun H2 g2 => hh _ _ σ H2 _ u g2 eu fun H3 ⟨F, w, g3⟩ => ?_
  obtain ⟨a, us, e, h', p⟩ := g3.top
  refine ⟨a, us, e, .of (g3.ext.s _ _ h'), fun p' hp => hq _ _ ⟨F, _, g3.pop.pushO hp ⟨p', _, rfl, trivial, fun b => Iff.rfl, upd_same, ?_⟩⟩⟩
  unfold cutV cutL
  rw [p.length]
  exact ML.Paired.take _ (ML.Paired.drop _ p)
theorem ev_slS {K : PySem.W.Frag} {T : Ty α} {tl th : TO} {m : Option (List α)} {ml mh : Option (Option Int)} (h : EV E env te m (val (tS K T))) (hl : TO1 E env tl ml) (hh : TO1 E env th mh) : EV E env (tSl (rSlL K) te tl th) (m.bind fun xs => ml.bind fun l => mh.bind fun h => some (cutL xs l h)) (own T) := by
  intro st vs σ H Q c g hm hq
  obtain ⟨xs, exs, hm⟩ := Option.bind_eq_some_iff.mp hm
  obtain ⟨l, el, hm⟩ := Option.bind_eq_some_iff.mp hm
  obtain ⟨u, eu, hm⟩ := Option.bind_eq_some_iff.mp hm
  cases hm
  refine h st vs σ H _ xs g exs fun v H1 g1 => hl _ _ σ H1 _ l g1 el fun H2 g2 => hh _ _ σ H2 _ u g2 eu fun H3 ⟨F, w, g3⟩ => ?_
  obtain ⟨a, us, e, h', p⟩ := g3.top
  refine ⟨a, us, e, g3.ext.s.seq h', fun p' hp => hq _ _ ⟨F, _, g3.pop.pushO hp ⟨p', _, rfl, trivial, fun b => Iff.rfl, upd_same, ?_⟩⟩⟩
  unfold cutV cutL
  rw [p.length]
  exact ML.Paired.take _ (ML.Paired.drop _ p)
/-! ### powers of great numbers -/
end
def CPowW (i j : Int) : Prop := 0 ≤ j ∧ (Builtin.Int.intBits i : Int) * j ≤ 2 ^ 27
section
variable {X : Cx}
theorem op_powW : OpR X (binaryOp .Pow) (rI CPowW fun i j => .int (i ^ j.toNat)) := opI fun _ _ _ _ _ _ _ hc q => pow_int hc.1 hc.2 q
end
section
variable {α β γ δ ρ τ : Type} {E : Ent} {env env' : En} {te ta tb tc ti : TE} {tt tu : TT} {u t t1 t2 : TS} {post : Post γ}
theorem CPowW.of {i j : Int} (h0 : 0 ≤ j) (h : ((i.natAbs.log2 : Int) + 1) * j ≤ 100000000) : CPowW i j := by
  refine ⟨h0, ?_⟩
  have b : Builtin.Int.intBits i ≤ i.natAbs.log2 + 1 := by
    unfold Builtin.Int.intBits
    split <;> omega
  have b2 : (Builtin.Int.intBits i : Int) * j ≤ ((i.natAbs.log2 : Int) + 1) * j := Int.mul_le_mul_of_nonneg_right (by omega) h0
  have e : (2 : Int) ^ 27 = 134217728 := by decide
  omega
theorem o2_powW {a b : Int} : O2 (rI CPowW fun i j => .int (i ^ j.toNat)) (val tInt a) (val tInt b) (grd (0 ≤ b ∧ ((a.natAbs.log2 : Int) + 1) * b ≤ 100000000) (some (a ^ b.toNat))) (val tInt) := o2_intG (f := fun i j => i ^ j.toNat) (p := fun a b => 0 ≤ b ∧ ((a.natAbs.log2 : Int) + 1) * b ≤ 100000000) fun _ _ h => CPowW.of h.1 h.2
/-! ### sorted, ints -/
def sortI (xs : List Int) : List Int := xs.mergeSort (fun a b => decide (a ≤ b))
theorem sortI_perm (xs : List Int) : (sortI xs).Perm xs := List.mergeSort_perm _ _
theorem sortI_sorted (xs : List Int) : (sortI xs).Pairwise (· ≤ ·) := by
  have h := List.pairwise_mergeSort (le := fun a b : Int => decide (a ≤ b)) (fun a b c h1 h2 => by simp at *; omega) (fun a b => by simp; omega) xs
  exact h.imp fun h => by simpa using h
theorem sortI_unique {xs ys : List Int} (p : ys.Perm xs) (s : ys.Pairwise (· ≤ ·)) : ys = sortI xs :=
  List.Perm.eq_of_pairwise (le := fun a b : Int => a ≤ b) (fun a b _ _ h1 h2 => Int.le_antisymm h1 h2) s (sortI_sorted xs) (p.trans (sortI_perm xs).symm)
theorem paired_ints {F : Hp} : ∀ {vs : List V} {xs : List Int}, Paired (tInt.rp F) vs xs → vs = xs.map V.int
  | _, _, .nil => rfl
  | _, _, .cons r t => by
    rw [paired_ints t, show _ = V.int _ from r]; rfl
theorem ints_paired {F : Hp} : ∀ {xs : List Int}, Paired (tInt.rp F) (xs.map V.int) xs
  | [] => .nil
  | _ :: _ => .cons rfl ints_paired
theorem o1_sorted {K : PySem.W.Frag} {xs : List Int} : O1 (fun v H Q => rSortedI K [v] H Q) (val (tL tInt) xs) (some (sortI xs)) (own tInt) := by
  intro E env st σ vs H Q va c ⟨F, w, g⟩ hm hq
  cases hm
  obtain ⟨a, us, e, h, p⟩ := g.top
  have e2 := paired_ints p
  refine ⟨a, xs, by rw [e], by rw [← e2]; exact .of (g.ext.s _ _ h), fun ns' p' hp hs hn => ?_⟩
  rw [sortI_unique hp hs]
  exact hq _ _ ⟨F, _, g.pop.pushO hn ⟨p', _, rfl, trivial, fun b => Iff.rfl, upd_same, ints_paired⟩⟩
end
end ML

set_option Elab.async false
set_option linter.all false
set_option maxRecDepth 100000
set_option maxHeartbeats 2000000
/-! ML: plain lemmas about the mirrors' words -/
namespace ML
open PySem PySem.Spec PyProof.Rows L2
section
variable {α β γ δ ρ σ : Type}
theorem forN_fun {xs : List α} {f : α → σ → Option σ} (g : Nat → σ) (h : ∀ i x, xs[i]? = some x → f x (g i) = some (g (i + 1))) : forN xs (g 0) f = some (g xs.length) := by
  have key : ∀ (ys : List α) (k : Nat), xs.drop k = ys → forN ys (g k) f = some (g xs.length) ∨ xs.length < k := by
    intro ys
    induction ys with
    | nil => intro k e; have := List.drop_eq_nil_iff.mp e
             by_cases hk : k = xs.length
             · left; subst hk; rfl
             · right; omega
    | cons y ys ih => intro k e
                      obtain ⟨e1, e2⟩ := drop_cons e
                      left
                      unfold forN
                      rw [h k y e1, Option.bind_some]
                      rcases ih (k + 1) e2 with z | z
                      · exact z
                      · have := (List.getElem?_eq_some_iff.mp e1).1; omega
  rcases key xs 0 rfl with z | z
  · exact z
  · omega
theorem forN_fun' {xs : List α} {f : α → σ → Option σ} {s t : σ} (g : Nat → σ) (h0 : s = g 0) (h : ∀ i x, xs[i]? = some x → f x (g i) = some (g (i + 1))) (ht : t = g xs.length) : forN xs s f = some t := by
  rw [h0, ht]; exact forN_fun g h
theorem forN_ind {xs : List α} {f : α → σ → Option σ} (P : Nat → σ → Prop) {s : σ} (h0 : P 0 s) (h : ∀ i x s, xs[i]? = some x → P i s → ∃ s', f x s = some s' ∧ P (i + 1) s') : ∃ s', forN xs s f = some s' ∧ P xs.length s' := by
  have key : ∀ (ys : List α) (k : Nat) (s : σ), k ≤ xs.length → xs.drop k = ys → P k s → ∃ s', forN ys s f = some s' ∧ P xs.length s' := by
    intro ys
    induction ys with
    | nil => intro k s hk e p
             have := List.drop_eq_nil_iff.mp e
             have e2 : k = xs.length := by omega
             subst e2
             exact ⟨s, rfl, p⟩
    | cons y ys ih => intro k s hk e p
                      obtain ⟨e1, e2⟩ := drop_cons e
                      obtain ⟨s', f1, f2⟩ := h k y s e1 p
                      have := (List.getElem?_eq_some_iff.mp e1).1
                      obtain ⟨s'', g1, g2⟩ := ih (k + 1) s' (by omega) e2 f2
                      exact ⟨s'', by unfold forN; rw [f1, Option.bind_some]; exact g1, g2⟩
  exact key xs 0 s (Nat.zero_le _) rfl h0
theorem rangeL_getN {a : Int} {n i : Nat} (h : i < n) : (rangeL a n)[i]? = some (a + (i : Int)) := by
  unfold rangeL
  rw [List.getElem?_map, List.getElem?_range h]; rfl
theorem forN_range {a : Int} {n : Nat} {f : Int → σ → Option σ} {s t : σ} (g : Nat → σ) (h0 : s = g 0) (h : ∀ i : Nat, i < n → f (a + (i : Int)) (g i) = some (g (i + 1))) (ht : t = g n) : forN (rangeL a n) s f = some t := by
  refine forN_fun' g h0 (fun i x e => ?_) (by rw [rangeL_len]; exact ht)
  obtain ⟨h1, h2⟩ := rangeL_get e
  rw [h2]; exact h i h1
theorem forN_rangeI {a : Int} {n : Nat} {f : Int → σ → Option σ} (P : Nat → σ → Prop) {s : σ} (h0 : P 0 s) (h : ∀ (i : Nat) s, i < n → P i s → ∃ s', f (a + (i : Int)) s = some s' ∧ P (i + 1) s') : ∃ s', forN (rangeL a n) s f = some s' ∧ P n s' := by
  obtain ⟨s', h1, h2⟩ := forN_ind (xs := rangeL a n) (f := f) P h0 fun i x s e p => by
    obtain ⟨k1, k2⟩ := rangeL_get e
    rw [k2]; exact h i s k1 p
  rw [rangeL_len] at h2
  exact ⟨s', h1, h2⟩
theorem forN_rangeB {a : Int} {n : Nat} {f : Int → σ → Option σ} {s : σ} {k : σ → Option γ} (Z : Option γ → Prop) (P : Nat → σ → Prop) (h0 : P 0 s) (h : ∀ (i : Nat) s, i < n → P i s → ∃ s', f (a + (i : Int)) s = some s' ∧ P (i + 1) s') (hz : ∀ s', P n s' → Z (k s')) : Z ((forN (rangeL a n) s f).bind k) := by
  obtain ⟨s', h1, h2⟩ := forN_rangeI (f := f) P h0 h
  rw [h1]
  exact hz s' h2
theorem forN_B {xs : List α} {f : α → σ → Option σ} {s : σ} {k : σ → Option γ} (Z : Option γ → Prop) (P : Nat → σ → Prop) (h0 : P 0 s) (h : ∀ (i : Nat) x s, xs[i]? = some x → P i s → ∃ s', f x s = some s' ∧ P (i + 1) s') (hz : ∀ s', P xs.length s' → Z (k s')) : Z ((forN xs s f).bind k) := by
  obtain ⟨s', h1, h2⟩ := forN_ind (f := f) P h0 h
  rw [h1]
  exact hz s' h2
/-- a search that finds nothing -/
theorem forL_ind {xs : List α} {f : α → σ → Option (Out σ σ ρ)} (P : Nat → σ → Prop) {s : σ} (h0 : P 0 s) (h : ∀ i x s, xs[i]? = some x → P i s → ∃ s', f x s = some (.nx s') ∧ P (i + 1) s') : ∃ s', forL xs s f = some (.inl s') ∧ P xs.length s' := by
  have key : ∀ (ys : List α) (k : Nat) (s : σ), k ≤ xs.length → xs.drop k = ys → P k s → ∃ s', forL ys s f = some (.inl s') ∧ P xs.length s' := by
    intro ys
    induction ys with
    | nil => intro k s hk e p
             have := List.drop_eq_nil_iff.mp e
             have e2 : k = xs.length := by omega
             subst e2
             exact ⟨s, rfl, p⟩
    | cons y ys ih => intro k s hk e p
                      obtain ⟨e1, e2⟩ := drop_cons e
                      obtain ⟨s', f1, f2⟩ := h k y s e1 p
                      have := (List.getElem?_eq_some_iff.mp e1).1
                      obtain ⟨s'', g1, g2⟩ := ih (k + 1) s' (by omega) e2 f2
                      exact ⟨s'', by unfold forL; rw [f1, Option.bind_some]; exact g1, g2⟩
  exact key xs 0 s (Nat.zero_le _) rfl h0
theorem forL_rangeI {a : Int} {n : Nat} {f : Int → σ → Option (Out σ σ ρ)} (P : Nat → σ → Prop) {s : σ} (h0 : P 0 s) (h : ∀ (i : Nat) s, i < n → P i s → ∃ s', f (a + (i : Int)) s = some (.nx s') ∧ P (i + 1) s') : ∃ s', forL (rangeL a n) s f = some (.inl s') ∧ P n s' := by
  obtain ⟨s', h1, h2⟩ := forL_ind (xs := rangeL a n) (f := f) P h0 fun i x s e p => by
    obtain ⟨k1, k2⟩ := rangeL_get e
    rw [k2]; exact h i s k1 p
  rw [rangeL_len] at h2
  exact ⟨s', h1, h2⟩
theorem forL_unit {xs : List α} {f : α → Unit → Option (Out Unit Unit ρ)} (h : ∀ x ∈ xs, f x () = some (.nx ())) : forL xs () f = some (.inl ()) := by
  obtain ⟨s', h1, _⟩ := forL_ind (xs := xs) (f := f) (s := ()) (fun _ _ => True) trivial fun i x s e _ => ⟨(), h x (List.mem_of_getElem? e), trivial⟩
  exact h1
theorem forL_rangeU {a : Int} {n : Nat} {f : Int → Unit → Option (Out Unit Unit ρ)} (h : ∀ i : Nat, i < n → f (a + (i : Int)) () = some (.nx ())) : forL (rangeL a n) () f = some (.inl ()) := by
  refine forL_unit fun x hx => ?_
  obtain ⟨i, hi⟩ := List.getElem?_of_mem hx
  obtain ⟨k1, k2⟩ := rangeL_get hi
  rw [k2]; exact h i k1
theorem range1_nat {n : Nat} (h : n ≤ 1000000000) : range1 (n : Int) = some (rangeL 0 n) := by
  unfold range1
  rw [grd_pos (by omega)]
  simp
theorem range1_int {n : Int} (h0 : 0 ≤ n) (h : n ≤ 1000000000) : range1 n = some (rangeL 0 n.toNat) := by
  unfold range1
  rw [grd_pos (by omega)]
theorem range2_int {a b : Int} (h0 : -1000000000 ≤ a) (h1 : a ≤ 1000000000) (h2 : -1000000000 ≤ b) (h3 : b ≤ 1000000000) : range2 a b = some (rangeL a (b - a).toNat) := by
  unfold range2
  rw [grd_pos (by omega)]
theorem mapO_eq {xs : List α} {f : α → Option β} (h : α → β) (hf : ∀ x ∈ xs, f x = some (h x)) : mapO xs f = some (xs.map h) := by
  induction xs with
  | nil => rfl
  | cons x xs ih =>
    unfold mapO
    rw [hf x (by simp), ih fun y hy => hf y (by simp [hy])]; rfl
theorem filO_eq {xs : List α} {t : α → Option Bool} {f : α → Option β} (p : α → Bool) (h : α → β) (ht : ∀ x ∈ xs, t x = some (p x)) (hf : ∀ x ∈ xs, p x = true → f x = some (h x)) : filO xs t f = some ((xs.filter p).map h) := by
  induction xs with
  | nil => rfl
  | cons x xs ih =>
    unfold filO
    rw [ht x (by simp), Option.bind_some, ih (fun y hy => ht y (by simp [hy])) fun y hy => hf y (by simp [hy])]
    cases hp : p x with
    | true => rw [if_pos rfl, hf x (by simp) hp, List.filter_cons_of_pos (by simpa using hp)]; rfl
    | false => rw [if_neg Bool.false_ne_true, List.filter_cons_of_neg (by simp [hp])]
/-- a cell of the script -/
theorem cell_lem (ns : List Int) (k : Nat) : (if decide ((k : Int) < (ns.length : Int)) = true then atI ns (k : Int) else some (0 : Int)) = some (ns.getD k 0) := by
  by_cases h : k < ns.length
  · have h2 : (k : Int) < (ns.length : Int) := by omega
    rw [decide_eq_true h2, if_pos rfl]
    have e : ns[k]? = some (ns.getD k 0) := by
      rw [List.getElem?_eq_getElem h, List.getD_eq_getElem?_getD, List.getElem?_eq_getElem h]; rfl
    rw [atI_nat e]
  · have h2 : ¬ (k : Int) < (ns.length : Int) := by omega
    rw [decide_eq_false h2, if_neg (by simp)]
    have e : ns.getD k 0 = 0 := by
      rw [List.getD_eq_getElem?_getD, List.getElem?_eq_none (by omega)]; rfl
    rw [e]
theorem atI_getD {xs : List α} {i : Int} (d : α) (h0 : 0 ≤ i) (h1 : i < (xs.length : Int)) : atI xs i = some (xs.getD i.toNat d) := by
  have hl : i.toNat < xs.length := by omega
  have e : xs[i.toNat]? = some (xs.getD i.toNat d) := by
    rw [List.getElem?_eq_getElem hl, List.getD_eq_getElem?_getD, List.getElem?_eq_getElem hl]; rfl
  have e2 := atI_nat e
  rw [show ((i.toNat : Nat) : Int) = i by omega] at e2
  exact e2
theorem atI_mem {xs : List α} {i : Int} (h0 : 0 ≤ i) (h1 : i < (xs.length : Int)) : ∃ x, x ∈ xs ∧ atI xs i = some x := by
  have hl : i.toNat < xs.length := by omega
  refine ⟨xs[i.toNat], List.getElem_mem _, ?_⟩
  have e2 := atI_nat (List.getElem?_eq_getElem hl)
  rw [show ((i.toNat : Nat) : Int) = i by omega] at e2
  exact e2
theorem log2_small {a : Int} {n : Nat} (h0 : -(2 ^ n) < a) (h : a < 2 ^ n) (hn : 0 < n) : a.natAbs.log2 < n := by
  by_cases hz : a = 0
  · subst hz; simpa using hn
  · rw [Nat.log2_lt (by omega)]
    have h2 : ((2 ^ n : Nat) : Int) = (2 : Int) ^ n := by simp
    omega
/-- the octets of a row drawn from a cell: each below the base -/
theorem row_step {c b m : Int} {s : Int × List Int} {i : Nat} (hb : 0 < b) (hb2 : b < 1000000) (hl : s.2.length = i) (hi : i < 1000000) (hx : ∀ x ∈ s.2, 0 ≤ x ∧ x < b) :
    ∃ s' : Int × List Int, (if decide ((10 : Int) ^ ((18 : Int) : Int).toNat ≤ c) = true then
        ((grd (0 < b) (some (s.1 % b))).bind fun v20 => grd (s.2.length < 16777216) (some (s.2 ++ [v20]))).bind fun (row_here_18 : List Int) => (grd (0 < b ∧ (b : Int).natAbs.log2 < 9000) (some (s.1 / b))).bind fun (number_19 : Int) => some (number_19, row_here_18)
      else
        ((grd (0 < b) (some (m % b))).bind fun v24 => grd (s.2.length < 16777216) (some (s.2 ++ [v24]))).bind fun (row_here_23 : List Int) => some (s.1, row_here_23)) = some s' ∧ s'.2.length = i + 1 ∧ ∀ x ∈ s'.2, 0 ≤ x ∧ x < b := by
  have hlog : (b : Int).natAbs.log2 < 9000 := Nat.lt_trans (log2_small (n := 20) (by omega) (by omega) (by omega)) (by omega)
  have add : ∀ (y : Int), 0 ≤ y → y < b → ∀ x ∈ s.2 ++ [y], 0 ≤ x ∧ x < b := fun y h1 h2 x hx' => by
    rcases List.mem_append.mp hx' with z | z
    · exact hx x z
    · have : x = y := by simpa using z
      rw [this]; exact ⟨h1, h2⟩
  split
  · rw [grd_pos hb, Option.bind_some, grd_pos (by omega), Option.bind_some, grd_pos ⟨hb, hlog⟩, Option.bind_some]
    exact ⟨_, rfl, by simp [hl], add _ (Int.emod_nonneg _ (by omega)) (Int.emod_lt_of_pos _ hb)⟩
  · rw [grd_pos hb, Option.bind_some, grd_pos (by omega), Option.bind_some]
    exact ⟨_, rfl, by simp [hl], add _ (Int.emod_nonneg _ (by omega)) (Int.emod_lt_of_pos _ hb)⟩
end
end ML

set_option Elab.async false
set_option linter.all false
set_option maxRecDepth 100000
set_option maxHeartbeats 2000000
namespace ML
open PySem PySem.Spec PyProof.Rows L2
section
variable {α β γ δ ρ τ : Type} {E : Ent} {env env' : En} {te ta tb tc ti : TE} {tt tu : TT} {u t t1 t2 : TS} {post : Post γ}
/-- what is never reached -/
theorem ev_never {S : α → SP} : EV E env te none S := fun st vs σ H Q x g hm hq => by cases hm
/-! ### items and length of a list of one's own -/
theorem ev_ixO {K : PySem.W.Frag} {φ : V → Prop} {T : Ty α} {xs : List α} {j : Nat} {mi : Option Int} (h : env[j]? = some (some (muL φ T xs))) (hi : EV E env ti mi (val tInt)) : EV E env (tOp (rIxL K) (tVar j) ti) (mi.bind fun i => atI xs i) (val T) := by
  intro st vs σ H Q c gg hm hq
  obtain ⟨i, ei, hm⟩ := Option.bind_eq_some_iff.mp hm
  obtain ⟨F, w, g⟩ := id gg
  obtain ⟨a, us, e1, hh, p, _⟩ := g.mutE h
  refine ⟨_, e1, hi st vs σ H _ i gg ei fun iv H2 ⟨F2, w2, g2⟩ => ?_⟩
  obtain ⟨a', us2, e2, hh2, p2, _⟩ := g2.mutE h
  rw [e1] at e2
  cases e2
  obtain ⟨v, f1, f2⟩ := atI_paired p2 hm
  exact ⟨a, us2, i, v, rfl, g2.top, .of hh2, f1, hq v H2 ⟨F2, w2, g2.pop.pushV f2⟩⟩
theorem ev_ixOp {K : PySem.W.Frag} {φ : V → Prop} {T : Ty α} {xs : List α} {j : Nat} {i : Int} (h : env[j]? = some (some (muL φ T xs))) (hi : EV E env ti (some i) (val tInt)) : EV E env (tOp (rIxL K) (tVar j) ti) (atI xs i) (val T) := ev_ixO h hi
theorem ev_lenO {K : PySem.W.Frag} {φ : V → Prop} {T : Ty α} {xs : List α} {j : Nat} (h : env[j]? = some (some (muL φ T xs))) : EV E env (tCB (fun vs H Q => ∃ p ys, vs = [V.ref p] ∧ (SqL K H p ys ∨ SqT K H p ys) ∧ Q (.int ys.length) H) (tCons (tVar j) tNil)) (some (xs.length : Int)) (val tInt) := by
  intro st vs σ H Q c gg hm hq
  cases hm
  obtain ⟨F, w, g⟩ := id gg
  obtain ⟨a, us, e1, hh, p, _⟩ := g.mutE h
  exact ⟨_, e1, a, us, rfl, .inl (.of hh), hq _ _ ⟨F, w, g.pushV (by show V.int _ = V.int _; rw [p.length])⟩⟩
/-! ### xs[::-1] -/
theorem ev_revL {K : PySem.W.Frag} {T : Ty α} {m : Option (List α)} (h : EV E env te m (val (tL T))) : EV E env (tRevL K te) (m.map List.reverse) (own T) := by
  intro st vs σ H Q c g hm hq
  obtain ⟨xs, exs, rfl⟩ := Option.map_eq_some_iff.mp hm
  refine h st vs σ H _ xs g exs fun v H1 ⟨F, w, g1⟩ => ?_
  obtain ⟨a, us, e, h', p⟩ := g1.top
  exact ⟨a, us, e, .of (g1.ext.s _ _ h'), fun p' hp => hq _ _ ⟨F, _, g1.pop.pushO hp ⟨p', _, rfl, trivial, fun b => Iff.rfl, upd_same, Paired.rev p⟩⟩⟩
theorem ev_revLp {K : PySem.W.Frag} {T : Ty α} {xs : List α} (h : EV E env te (some xs) (val (tL T))) : EV E env (tRevL K te) (some xs.reverse) (own T) := ev_revL h
theorem ev_revS {K : PySem.W.Frag} {T : Ty α} {m : Option (List α)} (h : EV E env te m (val (tS K T))) : EV E env (tRevL K te) (m.map List.reverse) (own T) := by
  intro st vs σ H Q c g hm hq
  obtain ⟨xs, exs, rfl⟩ := Option.map_eq_some_iff.mp hm
  refine h st vs σ H _ xs g exs fun v H1 ⟨F, w, g1⟩ => ?_
  obtain ⟨a, us, e, h', p⟩ := g1.top
  exact ⟨a, us, e, g1.ext.s.seq h', fun p' hp => hq _ _ ⟨F, _, g1.pop.pushO hp ⟨p', _, rfl, trivial, fun b => Iff.rfl, upd_same, Paired.rev p⟩⟩⟩
theorem ev_revSp {K : PySem.W.Frag} {T : Ty α} {xs : List α} (h : EV E env te (some xs) (val (tS K T))) : EV E env (tRevL K te) (some xs.reverse) (own T) := ev_revS h
end
/-! ### two arguments, one of them plain -/
section
variable {α β γ δ ρ τ : Type} {E : Ent} {env env' : En} {te ta tb tc ti : TE} {tt tu : TT} {u t t1 t2 : TS} {post : Post γ}
theorem ev_cb2r {r : List V → Hp → VK → Prop} {ma : Option α} {b : β} {mc : α → Option γ} {Sa : α → SP} {Sb : β → SP} {S : γ → SP} (ha : EV E env ta ma Sa) (hb : EV E env tb (some b) Sb) (hr : ∀ a, O2 (fun v u H Q => r [v, u] H Q) (Sa a) (Sb b) (mc a) S) :
    EV E env (tCB r (tCons ta (tCons tb tNil))) (ma.bind mc) S := by
  intro st vs σ H Q c g hm hq
  obtain ⟨a, ea, hm⟩ := Option.bind_eq_some_iff.mp hm
  exact ha st vs σ H _ a g ea fun va H1 g1 => hb _ _ σ H1 _ b g1 rfl fun vb H2 g2 => hr a E env st σ vs H2 Q va vb c g2 hm hq
theorem ev_cb2l {r : List V → Hp → VK → Prop} {a : α} {mb : Option β} {mc : β → Option γ} {Sa : α → SP} {Sb : β → SP} {S : γ → SP} (ha : EV E env ta (some a) Sa) (hb : EV E env tb mb Sb) (hr : ∀ b, O2 (fun v u H Q => r [v, u] H Q) (Sa a) (Sb b) (mc b) S) :
    EV E env (tCB r (tCons ta (tCons tb tNil))) (mb.bind mc) S := by
  intro st vs σ H Q c g hm hq
  obtain ⟨b, eb, hm⟩ := Option.bind_eq_some_iff.mp hm
  exact ha st vs σ H _ a g rfl fun va H1 g1 => hb _ _ σ H1 _ b g1 eb fun vb H2 g2 => hr b E env st σ vs H2 Q va vb c g2 hm hq
end
/-! ### the layer's rules with the constants named -/
section
variable {X : Cx} {K : PySem.W.Frag}
theorem ix_listK (h : X.K = K) : IxR X (rIxL K) := h ▸ ix_list
theorem ix_tupK (h : X.K = K) : IxR X (rIxT K) := h ▸ ix_tup
theorem sl_listK (h : X.K = K) : SlR X (rSlL K) := h ▸ sl_list
theorem call_len_seqK (h : X.K = K) : CallR X (.builtin "len") (fun xs H Q => ∃ p ys, xs = [.ref p] ∧ (SqL K H p ys ∨ SqT K H p ys) ∧ Q (.int ys.length) H) := h ▸ call_len_seq
theorem call_list_ofK (h : X.K = K) : CallR X (.type "list") (fun xs H Q => ∃ p ys, xs = [.ref p] ∧ (SqL K H p ys ∨ SqT K H p ys) ∧ ∀ l, H l = none → Q (.ref l) (upd H l (.lst ys))) := h ▸ call_list_of
theorem call_isiKK (h : X.K = K) : CallR X (.builtin "isinstance") (rIsi K) := h ▸ call_isi
theorem cr_sortedIK (h : X.K = K) : CallR X (.builtin "sorted") (rSortedI K) := h ▸ cr_sortedI
theorem op_eqDK (h : X.K = K) (hu : X.A.units + 64 < cLine) : OpR X (compareOp .Eq) (rEqD K) := h ▸ op_eqD hu
theorem op_neDK (h : X.K = K) (hu : X.A.units + 64 < cLine) : OpR X (compareOp .NotEq) (rNeD K) := h ▸ op_neD hu
theorem pi_listK {tg l : Expr} {tl : TE} (h : X.K = K) (hl : PE X l tl) : PI X tg l (iList K tl) := h ▸ pi_list hl
theorem pi_tupK {tg l : Expr} {tl : TE} (h : X.K = K) (hl : PE X l tl) : PI X tg l (iTup K tl) := h ▸ pi_tup hl
theorem pe_revLK {e : Expr} {te : TE} {k : Nat} {p1 p2 p3 pos : Pos} (h : X.K = K) (he : PE X e te) : PE X (.Subscript e (.Slice none none (some (.UnaryOp .USub (.Constant (.int 1) k p1) p2)) p3) pos) (tRevL K te) := h ▸ pe_revL he
theorem pg_tupK {es : List Expr} {k : Nat} {t : TGs} {n : Nat} {pos : Pos} (hK : X.K = K) (hc : X.calm = true) (h : PGs X es t)
    (hn : (assignEach es X.env).length = n := by rfl) (hst : (assignEach es X.env).findIdx? (·.1) = none := by rfl) : PG X (.Tuple es k pos) (gTup K n t) := hK ▸ pg_tup hc h hn hst
end
section
variable {α β γ δ ρ σ : Type}
theorem forL_B {xs : List α} {f : α → σ → Option (Out σ σ ρ)} {s : σ} {k : σ → Option γ} {h : ρ → Option γ} (Z : Option γ → Prop) (P : Nat → σ → Prop) (h0 : P 0 s) (hf : ∀ (i : Nat) x s, xs[i]? = some x → P i s → ∃ s', f x s = some (.nx s') ∧ P (i + 1) s') (hz : ∀ s', P xs.length s' → Z (k s')) : Z (thenS (forL xs s f) k h) := by
  obtain ⟨s', h1, h2⟩ := forL_ind (f := f) P h0 hf
  rw [h1]
  exact hz s' h2
theorem forL_rangeB {a : Int} {n : Nat} {f : Int → σ → Option (Out σ σ ρ)} {s : σ} {k : σ → Option γ} {h : ρ → Option γ} (Z : Option γ → Prop) (P : Nat → σ → Prop) (h0 : P 0 s) (hf : ∀ (i : Nat) s, i < n → P i s → ∃ s', f (a + (i : Int)) s = some (.nx s') ∧ P (i + 1) s') (hz : ∀ s', P n s' → Z (k s')) : Z (thenS (forL (rangeL a n) s f) k h) := by
  obtain ⟨s', h1, h2⟩ := forL_rangeI (f := f) P h0 hf
  rw [h1]
  exact hz s' h2
/-- a search that ends: either an item is found, first, or all are passed -/
theorem forL_find {xs : List α} {f : α → Unit → Option (Out Unit Unit ρ)} (g : α → Option ρ) (h : ∀ x ∈ xs, f x () = some (match g x with | some r => .ret r | none => .nx ())) : forL xs () f = some (match xs.findSome? g with | some r => .inr r | none => .inl ()) := by
  induction xs with
  | nil => rfl
  | cons x xs ih =>
    unfold forL
    rw [h x (by simp), List.findSome?_cons]
    cases hg : g x with
    | some r => rfl
    | none => exact ih fun y hy => h y (by simp [hy])
end
end ML

set_option Elab.async false
set_option linter.all false
set_option maxRecDepth 100000
set_option maxHeartbeats 2000000
/-! ML: calls that change what they are given -/
namespace ML
open PySem PySem.Spec PyProof.Rows L2
/-- this very value -/
def isSP (v : V) : SP := ⟨fun _ _ _ u => u = v, fun h _ _ => h⟩
def isVP (v : V) : VP := ⟨fun _ u => u = v, fun _ h => h⟩
def Pin (S : SP) (v : V) : Prop := ∀ (F H : Hp) (o : Addr → Prop) (u : V), S.ok F H o u → u = v
def pinV (p : Addr) : V → Prop := fun v => v = .ref p
def Pn (S : SP) (S' : Addr → SP) : Prop := ∀ (F H : Hp) (o : Addr → Prop) (u : V), S.ok F H o u → ∃ p, (S' p).ok F H o u
theorem pin_mu {α : Type} {T : Ty α} {xs : List α} {p : Addr} : Pin (muL (pinV p) T xs) (.ref p) := fun F H o u ⟨a, us, e, f, _⟩ => f
theorem pn_mu {α : Type} {φ : V → Prop} {T : Ty α} {xs : List α} : Pn (muL φ T xs) (fun p => muL (pinV p) T xs) := fun F H o u ⟨a, us, e, f, r⟩ => ⟨a, a, us, e, e, r⟩
theorem unpin_mu {α : Type} {φ : V → Prop} {T : Ty α} {xs : List α} : ∀ F H o v, (muL φ T xs).ok F H o v → (own T xs).ok F H o v := fun F H o u ⟨a, us, e, f, r⟩ => ⟨a, us, e, trivial, r⟩
/-- a part of what is owned -/
def Lens (S S1 : SP) (v1 : V) (plug : SP → SP) : Prop := ∀ (F H : Hp) (o : Addr → Prop) (u : V), S.ok F H o u → ∃ o1 : Addr → Prop, (∀ a, o1 a → o a) ∧ S1.ok F H o1 v1 ∧
  ∀ (F' H' : Hp) (o1' : Addr → Prop) (B : SP), Same F F' → (∀ a, o a → ¬ o1 a → H' a = H a) → (∀ a, o1' a → o a → o1 a) → B.ok F' H' o1' v1 → (plug B).ok F' H' (fun a => o1' a ∨ (o a ∧ ¬ o1 a)) u
theorem lens_id {S : SP} {v : V} (h : Pin S v) : Lens S S v id := fun F H o u k => ⟨o, fun _ z => z, by rw [← h F H o u k]; exact k, fun F' H' o1' B s h1 h2 b => by
  rw [h F H o u k, show (fun a => o1' a ∨ (o a ∧ ¬ o a)) = o1' from funext fun a => propext ⟨fun z => z.elim id (fun z => absurd z.1 z.2), .inl⟩]
  exact b⟩
/-! ### the promise -/
structure Pre (F H : Hp) (w : Ow) (As : List SP) (vs : List V) : Prop where
  s : Same F H
  len : As.length = vs.length
  ok : ∀ (k : Nat) (S : SP), As[k]? = some S → ∃ v, vs[k]? = some v ∧ S.ok F H (w.of (.e k)) v
  own : ∀ a l, w a = some l → F a = none ∧ H a ≠ none
structure Pst (F H : Hp) (w : Ow) (F' H' : Hp) (w' : Ow) (R : SP) (Bs : List (Option SP)) (v : V) (vs : List V) : Prop where
  ext : ExtE F H (fun a => w a ≠ none) F' H'
  ret : R.ok F' H' (w'.of (.s 0)) v
  ok : ∀ (k : Nat) (S : SP), Bs[k]? = some (some S) → ∃ u, vs[k]? = some u ∧ S.ok F' H' (w'.of (.e k)) u
  own : ∀ a l, w' a = some l → F' a = none ∧ H' a ≠ none ∧ (H a = none ∨ w a ≠ none)
def spG {A ρ : Type} (As : A → List SP) (f : A → Option ρ) (R : A → ρ → SP) (Bs : A → ρ → List (Option SP)) : Sp := fun vs H Q _ => ∃ (a : A) (r : ρ) (F : Hp) (w : Ow), Pre F H w (As a) vs ∧ f a = some r ∧ ∀ v F' H' w', Pst F H w F' H' w' (R a r) (Bs a r) v vs → Q v H'
theorem spG_len {A ρ : Type} {As : A → List SP} {f : A → Option ρ} {R : A → ρ → SP} {Bs : A → ρ → List (Option SP)} {vs : List V} {H : Hp} {Q : VK} {X : XK} {n : Nat} (h : spG As f R Bs vs H Q X) (hn : ∀ a, (As a).length = n) : vs.length = n := by
  obtain ⟨a, r, F, w, p, _⟩ := h
  rw [← p.len, hn]
section
variable {α β γ δ ρ τ : Type} {E : Ent} {env env' : En} {te ta tb tc ti : TE} {tt tu : TT} {u t t1 t2 : TS} {post : Post γ}
/-- the body's names at the entry -/
def enterS (n : Nat) (As : List SP) : En := As.map some ++ List.replicate (n - As.length) none
/-- THE RULE for a body -/
theorem run_G {A : Type} {As : A → List SP} {f : A → Option ρ} {R : A → ρ → SP} {Bs : A → ρ → List (Option SP)} {N : List Str} {vs : List V} {H : Hp} {Q : VK} {X : XK} {D : Ends} (h : spG As f R Bs vs H Q X) (hn : ∀ a, (As a).length ≤ N.length) (hD : D.rt = Q)
    (hp : ∀ (a : A) (r : ρ) (k : Nat) (S : SP), (Bs a r)[k]? = some (some S) → ∃ (v : V) (S0 : SP), Pin S v ∧ (As a)[k]? = some S0 ∧ Pin S0 v)
    (hb : ∀ (a : A) (E : Ent), BK E (enterS N.length (As a)) t (f a) (pR E (R a) (Bs a))) : t D (L2.start N vs) H := by
  obtain ⟨a, r, F, w, p, hf, q⟩ := h
  have g : GG ⟨F, H, fun a => w a ≠ none⟩ (enterS N.length (As a)) [] (L2.start N vs) [] H F w := by
    refine ⟨ExtE.refl p.s, ⟨by simp [enterS, L2.start, p.len], fun i S e => ?_⟩, trivial, fun b l e => ⟨(p.own b l e).1, (p.own b l e).2, .inr (by show w b ≠ none; rw [e]; intro z; cases z)⟩⟩
    unfold enterS at e
    by_cases hi : i < (As a).length
    · rw [List.getElem?_append_left (by simpa using hi)] at e
      rw [List.getElem?_map] at e
      obtain ⟨S', e1, e2⟩ := Option.map_eq_some_iff.mp e
      cases e2
      obtain ⟨v, e3, e4⟩ := p.ok i S e1
      refine ⟨v, ?_, e4⟩
      unfold L2.start
      rw [List.getElem?_append_left (by simp; rw [← p.len]; exact hi), List.getElem?_map, e3]
      rfl
    · rw [List.getElem?_append_right (by simp; omega)] at e
      have := List.mem_of_getElem? e
      simp at this
  refine hb a _ [] [] (L2.start N vs) H D r ⟨F, _, g⟩ hf fun v σ' H' ⟨F', w', g'⟩ => ?_
  rw [hD]
  refine q v F' H' w' ⟨g'.ext, g'.st.1, fun k S e => ?_, fun b l e => g'.own b l e⟩
  obtain ⟨u, e1, e2⟩ := g'.env.2 k S e
  obtain ⟨v0, S0, p1, p2, p3⟩ := hp a r k S e
  obtain ⟨v1, e3, e4⟩ := p.ok k S0 p2
  have := p1 _ _ _ _ e2
  have := p3 _ _ _ _ e4
  subst_vars
  exact ⟨_, e3, e2⟩
/-! ### the call -/
structure Nm where
  i : Nat
  k : Nat
  S : SP
  S1 : SP
  v : V
  plug : SP → SP
  B : SP
theorem callG {A : Type} {As : A → List SP} {f : A → Option ρ} {R : A → ρ → SP} {Bs : A → ρ → List (Option SP)} {st : List SP} {σ : L2.St} {vs : List V} {H F : Hp} {w : Ow} {Q : VK} {X : XK} (g : GG E env st σ vs H F w) (a : A) (r : ρ) (L : List Nm) (ps : List V)
    (hI : ∀ n ∈ L, ∀ m ∈ L, n.i = m.i → n = m) (hK : ∀ n ∈ L, ∀ m ∈ L, n.k = m.k → n = m) (hS : ∀ n ∈ L, env[n.i]? = some (some n.S) ∧ Lens n.S n.S1 n.v n.plug) (hlen : (As a).length = ps.length)
    (hps : ∀ (k : Nat) (S : SP), (As a)[k]? = some S → (∃ (q : VP) (v : V), S = q.sp ∧ ps[k]? = some v ∧ q.p F v) ∨ ∃ n ∈ L, n.k = k ∧ S = n.S1 ∧ ps[k]? = some n.v) (hf : f a = some r) (hB : ∀ n ∈ L, (Bs a r)[n.k]? = some (some n.B) ∧ ps[n.k]? = some n.v)
    (henv : env'.length ≤ env.length ∧ ∀ (i : Nat) (S' : SP), env'[i]? = some (some S') → (∃ n ∈ L, n.i = i ∧ S' = n.plug n.B) ∨ ((∀ n ∈ L, n.i ≠ i) ∧ env[i]? = some (some S')))
    (hq : ∀ v H', G E env' (R a r :: st) σ (v :: vs) H' → Q v H') : spG As f R Bs ps H Q X := by
  classical
  -- the parts
  have hp : ∀ n ∈ L, ∃ (u : V) (o1 : Addr → Prop), σ[n.i]? = some (some u) ∧ (∀ b, o1 b → w b = some (.e n.i)) ∧ n.S1.ok F H o1 n.v ∧
      ∀ (F' H' : Hp) (o1' : Addr → Prop) (B : SP), Same F F' → (∀ b, w b = some (.e n.i) → ¬ o1 b → H' b = H b) → (∀ b, o1' b → w b = some (.e n.i) → o1 b) → B.ok F' H' o1' n.v → (n.plug B).ok F' H' (fun b => o1' b ∨ (w b = some (.e n.i) ∧ ¬ o1 b)) u := fun n hn => by
    obtain ⟨e1, l⟩ := hS n hn
    obtain ⟨u, e2, e3⟩ := g.env.2 n.i _ e1
    obtain ⟨o1, k1, k2, k3⟩ := l F H _ u e3
    exact ⟨u, o1, e2, k1, k2, k3⟩
  have hp2 : ∀ n : Nm, ∃ y : V × (Addr → Prop), n ∈ L → (σ[n.i]? = some (some y.1) ∧ (∀ b, y.2 b → w b = some (.e n.i)) ∧ n.S1.ok F H y.2 n.v ∧
      ∀ (F' H' : Hp) (o1' : Addr → Prop) (B : SP), Same F F' → (∀ b, w b = some (.e n.i) → ¬ y.2 b → H' b = H b) → (∀ b, o1' b → w b = some (.e n.i) → y.2 b) → B.ok F' H' o1' n.v → (n.plug B).ok F' H' (fun b => o1' b ∨ (w b = some (.e n.i) ∧ ¬ y.2 b)) y.1) := fun n => by
    by_cases hn : n ∈ L
    · obtain ⟨u, o1, h1, h2, h3, h4⟩ := hp n hn
      exact ⟨(u, o1), fun _ => ⟨h1, h2, h3, h4⟩⟩
    · exact ⟨(.non, fun _ => False), fun z => absurd z hn⟩
  obtain ⟨ff, hff⟩ := Classical.axiomOfChoice hp2
  let O : Nm → Addr → Prop := fun n => (ff n).2
  let U : Nm → V := fun n => (ff n).1
  have hU : ∀ n ∈ L, σ[n.i]? = some (some (U n)) := fun n hn => (hff n hn).1
  have hO : ∀ n ∈ L, ∀ b, O n b → w b = some (.e n.i) := fun n hn => (hff n hn).2.1
  have hOk : ∀ n ∈ L, n.S1.ok F H (O n) n.v := fun n hn => (hff n hn).2.2.1
  have hOp := fun n hn => (hff n hn).2.2.2
  let wc : Ow := fun b => if h : ∃ n ∈ L, O n b then some (.e (Classical.choose h).k) else none
  have wc_of : ∀ n ∈ L, wc.of (.e n.k) = O n := fun n hn => funext fun b => propext (by
    show (if h : ∃ n ∈ L, O n b then some (Lb.e (Classical.choose h).k) else none) = some (.e n.k) ↔ O n b
    constructor
    · intro e
      by_cases h : ∃ n ∈ L, O n b
      · rw [dif_pos h] at e
        obtain ⟨c1, c2⟩ := Classical.choose_spec h
        injection e with e
        injection e with e
        rw [← hK _ c1 n hn e]; exact c2
      · rw [dif_neg h] at e; cases e
    · intro o
      have h : ∃ n ∈ L, O n b := ⟨n, hn, o⟩
      rw [dif_pos h]
      obtain ⟨c1, c2⟩ := Classical.choose_spec h
      have e1 := hO _ c1 b c2
      have e2 := hO n hn b o
      rw [e1] at e2
      injection e2 with e2
      injection e2 with e2
      rw [hI _ c1 n hn e2])
  have wc_in : ∀ b, wc b ≠ none → ∃ n ∈ L, O n b := fun b h => by
    by_cases z : ∃ n ∈ L, O n b
    · exact z
    · exact absurd (dif_neg z) h
  refine ⟨a, r, F, wc, ⟨g.ext.s, hlen, fun k S e => ?_, fun b l e => ?_⟩, hf, fun v F' H' w' z => hq v H' ?_⟩
  · rcases hps k S e with ⟨q, v, rfl, e1, e2⟩ | ⟨n, hn, rfl, rfl, e1⟩
    · exact ⟨v, e1, e2⟩
    · exact ⟨n.v, e1, by rw [wc_of n hn]; exact hOk n hn⟩
  · obtain ⟨n, hn, o⟩ := wc_in b (some_ne e)
    obtain ⟨q1, q2, _⟩ := g.own b _ (hO n hn b o)
    exact ⟨q1, q2⟩
  · -- behind
    have part : ∀ b, wc b ≠ none → ∃ n ∈ L, O n b ∧ w b = some (.e n.i) := fun b h => by
      obtain ⟨n, hn, o⟩ := wc_in b h
      exact ⟨n, hn, o, hO n hn b o⟩
    let wn : Ow := fun b => if w' b = some (.s 0) then some (.s st.length) else if h : ∃ n ∈ L, w' b = some (.e n.k) then some (.e (Classical.choose h).i) else if wc b ≠ none then none else if w b = some (.s st.length) then none else w b
    have keep : ∀ b, w' b ≠ none → wc b = none → w b = none := fun b h1 h2 => by
      obtain ⟨l, e⟩ := ne_some h1
      rcases (z.own b l e).2.2 with y | y
      · cases q : w b with
        | none => rfl
        | some l => exact absurd y (g.own b l q).2.1
      · exact absurd h2 y
    have wn_s : wn.of (.s st.length) = w'.of (.s 0) := funext fun b => propext (by
      show wn b = some (.s st.length) ↔ w' b = some (.s 0)
      constructor
      · intro e
        by_cases h0 : w' b = some (.s 0)
        · exact h0
        · have e' : (if w' b = some (.s 0) then some (Lb.s st.length) else if h : ∃ n ∈ L, w' b = some (.e n.k) then some (.e (Classical.choose h).i) else if wc b ≠ none then none else if w b = some (.s st.length) then none else w b) = some (.s st.length) := e
          rw [if_neg h0] at e'
          by_cases h1 : ∃ n ∈ L, w' b = some (.e n.k)
          · rw [dif_pos h1] at e'; cases e'
          · rw [dif_neg h1] at e'
            by_cases h2 : wc b ≠ none
            · rw [if_pos h2] at e'; cases e'
            · rw [if_neg h2] at e'
              by_cases h3 : w b = some (.s st.length)
              · rw [if_pos h3] at e'; cases e'
              · rw [if_neg h3] at e'; exact absurd e' h3
      · intro e
        exact if_pos e)
    have wn_other : ∀ l, l ≠ .s st.length → (∀ n ∈ L, l ≠ .e n.i) → ∀ b, wn b = some l ↔ w b = some l := fun l n1 n2 b => by
      show (if w' b = some (.s 0) then some (Lb.s st.length) else if h : ∃ n ∈ L, w' b = some (.e n.k) then some (.e (Classical.choose h).i) else if wc b ≠ none then none else if w b = some (.s st.length) then none else w b) = some l ↔ w b = some l
      by_cases h0 : w' b = some (.s 0)
      · rw [if_pos h0]
        refine ⟨fun e => absurd (Option.some.inj e).symm n1, fun e => ?_⟩
        by_cases h2 : wc b = none
        · rw [keep b (some_ne h0) h2] at e; cases e
        · obtain ⟨n, hn, _, e2⟩ := part b h2
          rw [e] at e2
          exact absurd (Option.some.inj e2) (n2 n hn)
      · rw [if_neg h0]
        by_cases h1 : ∃ n ∈ L, w' b = some (.e n.k)
        · rw [dif_pos h1]
          obtain ⟨c1, c2⟩ := Classical.choose_spec h1
          refine ⟨fun e => absurd (Option.some.inj e).symm (n2 _ c1), fun e => ?_⟩
          by_cases h2 : wc b = none
          · rw [keep b (some_ne c2) h2] at e; cases e
          · obtain ⟨n, hn, _, e2⟩ := part b h2
            rw [e] at e2
            exact absurd (Option.some.inj e2) (n2 n hn)
        · rw [dif_neg h1]
          by_cases h2 : wc b ≠ none
          · rw [if_pos h2]
            refine ⟨fun e => (by cases e), fun e => ?_⟩
            obtain ⟨n, hn, _, e2⟩ := part b h2
            rw [e] at e2
            exact absurd (Option.some.inj e2) (n2 n hn)
          · rw [if_neg h2]
            by_cases h3 : w b = some (.s st.length)
            · rw [if_pos h3]
              refine ⟨fun e => (by cases e), fun e => ?_⟩
              rw [h3] at e
              exact absurd (Option.some.inj e).symm n1
            · rw [if_neg h3]
    have wn_nm : ∀ n ∈ L, wn.of (.e n.i) = fun b => w'.of (.e n.k) b ∨ (w b = some (.e n.i) ∧ ¬ O n b ∧ w' b = none) := fun n hn => funext fun b => propext (by
      show (if w' b = some (.s 0) then some (Lb.s st.length) else if h : ∃ n ∈ L, w' b = some (.e n.k) then some (.e (Classical.choose h).i) else if wc b ≠ none then none else if w b = some (.s st.length) then none else w b) = some (.e n.i) ↔ w' b = some (.e n.k) ∨ (w b = some (.e n.i) ∧ ¬ O n b ∧ w' b = none)
      by_cases h0 : w' b = some (.s 0)
      · rw [if_pos h0]
        refine ⟨fun e => (by cases e), fun e => ?_⟩
        rcases e with e | ⟨_, _, e⟩
        · rw [h0] at e; cases e
        · rw [h0] at e; cases e
      · rw [if_neg h0]
        by_cases h1 : ∃ n ∈ L, w' b = some (.e n.k)
        · rw [dif_pos h1]
          obtain ⟨c1, c2⟩ := Classical.choose_spec h1
          constructor
          · intro e
            injection e with e
            injection e with e
            left
            rw [← hI _ c1 n hn e]; exact c2
          · rintro (e | ⟨_, _, e⟩)
            · rw [c2] at e
              injection e with e
              injection e with e
              rw [hK _ c1 n hn e]
            · rw [c2] at e; cases e
        · rw [dif_neg h1]
          have h1' : w' b ≠ some (.e n.k) := fun e => h1 ⟨n, hn, e⟩
          by_cases h2 : wc b ≠ none
          · rw [if_pos h2]
            refine ⟨fun e => (by cases e), ?_⟩
            rintro (e | ⟨e, no, _⟩)
            · exact absurd e h1'
            · obtain ⟨m, hm, o, e2⟩ := part b h2
              rw [e] at e2
              injection e2 with e2
              injection e2 with e2
              rw [hI n hn m hm e2] at no
              exact absurd o no
          · rw [if_neg h2]
            have h2' : wc b = none := by
              cases q : wc b with
              | none => rfl
              | some l => exact absurd (some_ne q) h2
            by_cases h3 : w b = some (.s st.length)
            · rw [if_pos h3]
              refine ⟨fun e => (by cases e), ?_⟩
              rintro (e | ⟨e, _⟩)
              · exact absurd e h1'
              · rw [h3] at e; cases e
            · rw [if_neg h3]
              constructor
              · intro e
                refine .inr ⟨e, fun o => ?_, ?_⟩
                · exact h2 (by show wc b ≠ none; rw [show wc b = some (.e n.k) from (congrFun (wc_of n hn) b).mpr o]; intro z; cases z)
                · cases q : w' b with
                  | none => rfl
                  | some l => rw [keep b (some_ne q) h2'] at e; cases e
              · rintro (e | ⟨e, _⟩)
                · exact absurd e h1'
                · exact e)
    have hH : ∀ b, w b ≠ none → wc b = none → H' b = H b := fun b h1 h2 => by
      obtain ⟨l, e⟩ := ne_some h1
      obtain ⟨o, eo⟩ := ne_some (g.own b l e).2.1
      rw [eo]
      exact z.ext.h b o (fun y => y h2) eo
    have sF : Same F F' := z.ext.f
    refine ⟨F', wn, ?_, ⟨Nat.le_trans henv.1 g.env.1, fun i S' e => ?_⟩, ⟨by rw [wn_s]; exact z.ret, ?_⟩, fun b l e => ?_⟩
    · exact g.ext.tr z.ext fun b hb => by
        obtain ⟨n, hn, o, e⟩ := part b hb
        exact (g.own b _ e).2.2
    · rcases henv.2 i S' e with ⟨n, hn, rfl, rfl⟩ | ⟨hn, e0⟩
      · obtain ⟨b1, b2⟩ := hB n hn
        obtain ⟨u', e1, e2⟩ := z.ok n.k n.B b1
        rw [b2] at e1
        cases e1
        refine ⟨U n, hU n hn, ?_⟩
        have key := hOp n hn F' H' (w'.of (.e n.k)) n.B sF (fun b e no => hH b (some_ne e) (by
          cases q : wc b with
          | none => rfl
          | some l =>
            obtain ⟨m, hm, o, e2⟩ := part b (some_ne q)
            rw [e] at e2
            injection e2 with e2
            injection e2 with e2
            rw [hI n hn m hm e2] at no
            exact absurd o no)) (fun b e1 e2 => by
          have hb : w' b ≠ none := some_ne e1
          cases q : wc b with
          | none => rw [keep b hb q] at e2; cases e2
          | some l =>
            obtain ⟨m, hm, o, e3⟩ := part b (some_ne q)
            rw [e2] at e3
            injection e3 with e3
            injection e3 with e3
            rw [hI n hn m hm e3]; exact o) e2
        have ee : wn.of (.e n.i) = fun b => w'.of (.e n.k) b ∨ (w b = some (.e n.i) ∧ ¬ O n b) := by
          rw [wn_nm n hn]
          funext b
          refine propext (or_congr Iff.rfl ⟨fun y => ⟨y.1, y.2.1⟩, fun y => ⟨y.1, y.2, ?_⟩⟩)
          cases q : w' b with
          | none => rfl
          | some l =>
            exfalso
            cases q2 : wc b with
            | none => have := keep b (some_ne q) q2; rw [this] at y; cases y.1
            | some l2 =>
              obtain ⟨m, hm, o, e3⟩ := part b (some_ne q2)
              rw [y.1] at e3
              injection e3 with e3
              injection e3 with e3
              rw [← hI n hn m hm e3] at o
              exact y.2 o
        rw [ee]
        exact key
      · obtain ⟨u', e1, e2⟩ := g.env.2 i S' e0
        refine ⟨u', e1, ?_⟩
        rw [ofq (wn_other (.e i) (by intro y; cases y) fun n hm y => by injection y with y; exact hn n hm y.symm)]
        refine S'.mono e2 sF fun b hb => hH b (some_ne hb) ?_
        cases q : wc b with
        | none => rfl
        | some l =>
          obtain ⟨m, hm, o, e3⟩ := part b (some_ne q)
          have hb' : w b = some (.e i) := hb
          rw [hb'] at e3
          injection e3 with e3
          injection e3 with e3
          exact absurd e3.symm (hn m hm)
    · have key : ∀ {st' : List SP} {vs' : List V}, StOk F H w st' vs' → st'.length ≤ st.length → StOk F' H' wn st' vs' := by
        intro st'
        induction st' with
        | nil => intro vs' h' _; cases vs' with
          | nil => trivial
          | cons _ _ => exact h'.elim
        | cons S st' ih => intro vs' h' hl; cases vs' with
          | nil => exact h'.elim
          | cons v' vs' =>
            refine ⟨?_, ih h'.2 (by simp at hl; omega)⟩
            rw [ofq (wn_other (.s st'.length) (by intro y; injection y with y; simp at hl; omega) fun n hm y => by cases y)]
            refine S.mono h'.1 sF fun b hb => hH b (some_ne hb) ?_
            cases q : wc b with
            | none => rfl
            | some l =>
              obtain ⟨m, hm, o, e3⟩ := part b (some_ne q)
              have hb' : w b = some (.s st'.length) := hb
              rw [hb'] at e3
              cases e3
      exact key g.st (Nat.le_refl _)
    · have e' : (if w' b = some (.s 0) then some (Lb.s st.length) else if h : ∃ n ∈ L, w' b = some (.e n.k) then some (.e (Classical.choose h).i) else if wc b ≠ none then none else if w b = some (.s st.length) then none else w b) = some l := e
      have old : ∀ l, w' b = some l → F' b = none ∧ H' b ≠ none ∧ (E.H b = none ∨ E.P b) := fun l h => by
        obtain ⟨q1, q2, q3⟩ := z.own b l h
        refine ⟨q1, q2, ?_⟩
        rcases q3 with y | y
        · exact .inl (g.ext.t b y)
        · obtain ⟨n, hn, _, e2⟩ := part b y
          exact (g.own b _ e2).2.2
      by_cases h0 : w' b = some (.s 0)
      · exact old _ h0
      · rw [if_neg h0] at e'
        by_cases h1 : ∃ n ∈ L, w' b = some (.e n.k)
        · obtain ⟨n, hn, e1⟩ := h1
          exact old _ e1
        · rw [dif_neg h1] at e'
          by_cases h2 : wc b ≠ none
          · rw [if_pos h2] at e'; cases e'
          · rw [if_neg h2] at e'
            by_cases h3 : w b = some (.s st.length)
            · rw [if_pos h3] at e'; cases e'
            · rw [if_neg h3] at e'
              have h2' : wc b = none := by
                cases q : wc b with
                | none => rfl
                | some l => exact absurd (some_ne q) h2
              obtain ⟨q1, q2, q3⟩ := g.own b l e'
              refine ⟨?_, ?_, q3⟩
              · rw [z.ext.n b (fun y => y h2') q2]; exact q1
              · rw [hH b (some_ne e') h2']; exact q2
end
end ML

set_option Elab.async false
set_option linter.all false
set_option maxRecDepth 100000
set_option maxHeartbeats 2000000
namespace ML
open PySem PySem.Spec PyProof.Rows L2
section
variable {α β γ δ ρ τ : Type} {E : Ent} {env env' : En} {te ta tb tc ti : TE} {tt tu : TT} {u t t1 t2 : TS} {post : Post γ}
/-- where a parameter's value comes from -/
inductive Src where
  | arg (j : Nat) | dfl (v : V)
def Src.sel (us : List V) : Src → V
  | .arg j => us.getD j .non
  | .dfl v => v
def MtOk (Ls : List SP) (L : List Nm) : Nat → List Src → List SP → Prop
  | _, [], [] => True
  | k, .arg j :: ss, S :: Ss => ((∃ q : VP, S = q.sp ∧ Ls[j]? = some q.sp) ∨ ∃ n ∈ L, n.k = k ∧ S = n.S1 ∧ Ls[j]? = some (isVP n.v).sp) ∧ MtOk Ls L (k + 1) ss Ss
  | k, .dfl v :: ss, S :: Ss => (∃ q : VP, S = q.sp ∧ ∀ F, q.p F v) ∧ MtOk Ls L (k + 1) ss Ss
  | _, _, _ => False
def setL (env : En) (L : List Nm) : En := L.foldl (fun e n => e.set n.i (some (n.plug n.B))) env
theorem setL_len (L : List Nm) : ∀ env : En, (setL env L).length = env.length := by
  induction L with
  | nil => intro env; rfl
  | cons n L ih => intro env; show (setL (env.set n.i _) L).length = _; rw [ih]; simp
theorem setL_get (L : List Nm) : ∀ (env : En) (i : Nat) (S' : SP), (setL env L)[i]? = some (some S') → (∃ n ∈ L, n.i = i ∧ S' = n.plug n.B) ∨ ((∀ n ∈ L, n.i ≠ i) ∧ env[i]? = some (some S')) := by
  induction L with
  | nil => intro env i S' h; exact .inr ⟨fun n hn => by simp at hn, h⟩
  | cons n L ih =>
    intro env i S' h
    rcases ih (env.set n.i (some (n.plug n.B))) i S' h with ⟨m, hm, e1, e2⟩ | ⟨h1, h2⟩
    · exact .inl ⟨m, by simp [hm], e1, e2⟩
    · by_cases hi : n.i = i
      · subst hi
        by_cases hl : n.i < env.length
        · rw [List.getElem?_set_self hl] at h2
          cases h2
          exact .inl ⟨n, by simp, rfl, rfl⟩
        · rw [List.getElem?_eq_none (by simp; omega)] at h2; cases h2
      · rw [List.getElem?_set_ne hi] at h2
        exact .inr ⟨fun m hm => by
          rcases List.mem_cons.mp hm with z | z
          · rw [z]; exact hi
          · exact h1 m z, h2⟩
/-- the names are apart, and what they hold has these parts -/
structure LOk (env : En) (L : List Nm) : Prop where
  i : ∀ n ∈ L, ∀ m ∈ L, n.i = m.i → n = m
  k : ∀ n ∈ L, ∀ m ∈ L, n.k = m.k → n = m
  s : ∀ n ∈ L, env[n.i]? = some (some n.S) ∧ Lens n.S n.S1 n.v n.plug
theorem lok0 : LOk env [] := ⟨fun n h => by simp at h, fun n h => by simp at h, fun n h => by simp at h⟩
theorem lok1 {n : Nm} (h : env[n.i]? = some (some n.S)) (l : Lens n.S n.S1 n.v n.plug) : LOk env [n] := ⟨fun a ha b hb _ => by simp at ha hb; rw [ha, hb], fun a ha b hb _ => by simp at ha hb; rw [ha, hb], fun a ha => by simp at ha; rw [ha]; exact ⟨h, l⟩⟩
theorem lok2 {n m : Nm} (h : env[n.i]? = some (some n.S)) (l : Lens n.S n.S1 n.v n.plug) (h2 : env[m.i]? = some (some m.S)) (l2 : Lens m.S m.S1 m.v m.plug) (hi : n.i ≠ m.i) (hk : n.k ≠ m.k) : LOk env [n, m] := ⟨fun a ha b hb e => by
    simp at ha hb
    rcases ha with rfl | rfl <;> rcases hb with rfl | rfl <;> first | rfl | exact absurd e hi | exact absurd e.symm hi, fun a ha b hb e => by
    simp at ha hb
    rcases ha with rfl | rfl <;> rcases hb with rfl | rfl <;> first | rfl | exact absurd e hk | exact absurd e.symm hk, fun a ha => by
    simp at ha
    rcases ha with rfl | rfl
    · exact ⟨h, l⟩
    · exact ⟨h2, l2⟩⟩
/-- what a call's arguments must be -/
structure GC {A : Type} (As : A → List SP) (f : A → Option ρ) (R : A → ρ → SP) (Bs : A → ρ → List (Option SP)) (S : ρ → SP) (L : List Nm) (src : List Src) (Ls : List SP) (c : ρ) (a : A) : Prop where
  f : f a = some c
  r : R a c = S c
  m : MtOk Ls L 0 src (As a)
  b : ∀ n ∈ L, (Bs a c)[n.k]? = some (some n.B) ∧ ∃ j, src[n.k]? = some (.arg j) ∧ Ls[j]? = some (isVP n.v).sp
theorem stok_at {F H : Hp} {w : Ow} : ∀ {Ss st : List SP} {us vs : List V}, StOk F H w (Ss ++ st) (us ++ vs) → us.length = Ss.length → ∀ (j : Nat) (q : VP), Ss.reverse[j]? = some q.sp → ∃ v, us.reverse[j]? = some v ∧ q.p F v := by
  intro Ss
  induction Ss with
  | nil => intro st us vs _ _ j q e; simp at e
  | cons S Ss ih =>
    intro st us vs h hl j q e
    cases us with
    | nil => simp at hl
    | cons v us =>
      have hl' : us.length = Ss.length := by simpa using hl
      rw [List.reverse_cons] at e ⊢
      by_cases hj : j < Ss.length
      · rw [List.getElem?_append_left (by simpa using hj)] at e
        obtain ⟨u, e1, e2⟩ := ih h.2 hl' j q e
        exact ⟨u, by rw [List.getElem?_append_left (by simp; omega)]; exact e1, e2⟩
      · by_cases hj2 : j = Ss.length
        · subst hj2
          rw [List.getElem?_append_right (by simp)] at e
          simp at e
          refine ⟨v, by rw [List.getElem?_append_right (by simp; omega)]; simp [hl'], ?_⟩
          have := h.1
          rw [e] at this
          exact this
        · rw [List.getElem?_eq_none (by simp; omega)] at e; cases e
theorem mt_at {F : Hp} {Ls : List SP} {L : List Nm} {us : List V} (hs : ∀ (j : Nat) (q : VP), Ls[j]? = some q.sp → ∃ v, us[j]? = some v ∧ q.p F v) : ∀ {src : List Src} {As : List SP} {k0 : Nat}, MtOk Ls L k0 src As → As.length = src.length ∧ ∀ (k : Nat) (S : SP), As[k]? = some S →
    (∃ (q : VP) (v : V), S = q.sp ∧ (src.map (Src.sel us))[k]? = some v ∧ q.p F v) ∨ ∃ n ∈ L, n.k = k0 + k ∧ S = n.S1 ∧ (src.map (Src.sel us))[k]? = some n.v
  | [], [], _, _ => ⟨rfl, fun k S e => by simp at e⟩
  | .arg j :: ss, S0 :: As, k0, h => by
    obtain ⟨h1, h2⟩ := h
    obtain ⟨l, r⟩ := mt_at hs h2
    refine ⟨by simp [l], fun k S e => ?_⟩
    cases k with
    | zero =>
      have e' : S0 = S := by simpa using e
      subst e'
      rcases h1 with ⟨q, e1, e2⟩ | ⟨n, hn, e1, e2, e3⟩
      · obtain ⟨v, f1, f2⟩ := hs j q e2
        exact .inl ⟨q, v, e1, by simp [Src.sel, List.getD_eq_getElem?_getD, f1], f2⟩
      · obtain ⟨v, f1, f2⟩ := hs j (isVP n.v) e3
        refine .inr ⟨n, hn, by omega, e2, ?_⟩
        have : v = n.v := f2
        subst this
        simp [Src.sel, List.getD_eq_getElem?_getD, f1]
    | succ k =>
      rcases r k S (by simpa using e) with ⟨q, v, r1, r2, r3⟩ | ⟨n, hn, r1, r2, r3⟩
      · exact .inl ⟨q, v, r1, by simpa using r2, r3⟩
      · exact .inr ⟨n, hn, by omega, r2, by simpa using r3⟩
  | .dfl v0 :: ss, S0 :: As, k0, h => by
    obtain ⟨⟨q0, e1, e2⟩, h2⟩ := h
    obtain ⟨l, r⟩ := mt_at hs h2
    refine ⟨by simp [l], fun k S e => ?_⟩
    cases k with
    | zero =>
      have e' : S0 = S := by simpa using e
      subst e'
      exact .inl ⟨q0, v0, e1, by simp [Src.sel], e2 F⟩
    | succ k =>
      rcases r k S (by simpa using e) with ⟨q, v, r1, r2, r3⟩ | ⟨n, hn, r1, r2, r3⟩
      · exact .inl ⟨q, v, r1, by simpa using r2, r3⟩
      · exact .inr ⟨n, hn, by omega, r2, by simpa using r3⟩
  | [], _ :: _, _, h => h.elim
  | .arg _ :: _, [], _, h => h.elim
  | .dfl _ :: _, [], _, h => h.elim
/-- the call, by values: us what was evaluated -/
theorem gc_call {A : Type} {As : A → List SP} {f : A → Option ρ} {R : A → ρ → SP} {Bs : A → ρ → List (Option SP)} {S : ρ → SP} {X : XK} {L : List Nm} {src : List Src} {Ss st : List SP} {us vs : List V} {σ : L2.St} {H : Hp} {Q : VK} {c : ρ} {a : A}
    (gc : GC As f R Bs S L src Ss.reverse c a) (hL : LOk env L) (hl : us.length = Ss.length) (g : G E env (Ss ++ st) σ (us.reverse ++ vs) H) (hq : ∀ v H', G E (setL env L) (S c :: st) σ (v :: vs) H' → Q v H') : spG As f R Bs (src.map (Src.sel us)) H Q X := by
  obtain ⟨F, w, g⟩ := g
  have hs : ∀ (j : Nat) (q : VP), Ss.reverse[j]? = some q.sp → ∃ v, us[j]? = some v ∧ q.p F v := fun j q e => by
    obtain ⟨v, e1, e2⟩ := stok_at g.st (by simpa using hl) j q e
    exact ⟨v, by simpa using e1, e2⟩
  obtain ⟨l, m⟩ := mt_at (F := F) hs gc.m
  refine callG (g.drop (by simp; omega)) a c L _ hL.i hL.k hL.s (by simpa using l) (fun k S e => ?_) gc.f (fun n hn => ?_) ⟨Nat.le_of_eq (setL_len L env), setL_get L env⟩ (fun v H' g' => hq v H' (by rw [← gc.r]; exact g'))
  · rcases m k S e with z | ⟨n, hn, z1, z2, z3⟩
    · exact .inl z
    · exact .inr ⟨n, hn, by omega, z2, z3⟩
  · obtain ⟨b1, j, b2, b3⟩ := gc.b n hn
    refine ⟨b1, ?_⟩
    obtain ⟨v, f1, f2⟩ := hs j (isVP n.v) b3
    rw [List.getElem?_map, b2]
    have : v = n.v := f2
    subst this
    simp [Src.sel, List.getD_eq_getElem?_getD, f1]
/-- an own thing is named -/
theorem ev_ad {i : Nat} {S : SP} {v : V} (h : env[i]? = some (some S)) (p : Pin S v) : EV E env (tVar i) (some ()) (fun _ => (isVP v).sp) := by
  intro st vs σ H Q x ⟨F, w, g⟩ hm hq
  cases hm
  obtain ⟨u, e1, e2⟩ := g.env.2 i S h
  have e3 := p F H _ u e2
  subst e3
  exact ⟨u, e1, hq u H ⟨F, w, g.re (fun a l e => ⟨l, e⟩) g.env ⟨rfl, g.st⟩⟩⟩
theorem bk_pin {S : SP} {S' : Addr → SP} (i : Nat) {m : Option γ} (h : env[i]? = some (some S)) (z : Pn S S') (hk : ∀ p, BK E (env.set i (some (S' p))) u m post) : BK E env u m post := by
  intro st vs σ H D y ⟨F, w, g⟩ hm hq
  have hi : i < env.length := (List.getElem?_eq_some_iff.mp h).1
  obtain ⟨v, e1, e2⟩ := g.env.2 i S h
  obtain ⟨p, e3⟩ := z F H _ v e2
  refine hk p st vs σ H D y ⟨F, w, g.re (fun a l e => ⟨l, e⟩) ⟨by simpa using g.env.1, fun j T e => ?_⟩ g.st⟩ hm hq
  by_cases hj : i = j
  · subst hj
    rw [List.getElem?_set_self hi] at e
    cases e
    exact ⟨v, e1, e3⟩
  · rw [List.getElem?_set_ne hj] at e
    exact g.env.2 j T e
/-- f(e, ..) -/
theorem ex_callG {A : Type} {As : A → List SP} {f : A → Option ρ} {R : A → ρ → SP} {Bs : A → ρ → List (Option SP)} {S : ρ → SP} {X : XK} {tA : TA} {m : Option ρ} {dvs : List V} (L : ρ → List Nm) (src : List Src) (n : Nat)
    (hsel : ∀ us : List V, us.length = n → us ++ dvs = src.map (Src.sel us)) (hL : ∀ c, LOk env (L c)) (ha : AX E env tA [] m fun c Ss => Ss.length = n ∧ ∃ a, GC As f R Bs S (L c) src Ss.reverse c a) : EX E env (tCall (spG As f R Bs) dvs X tA) m S fun c => setL env (L c) := by
  intro st vs σ H Q c gg hm hq
  refine ha st vs [] σ H _ c gg rfl hm fun us H' Ss ⟨hn, a, gc⟩ hl g => ?_
  rw [List.append_nil] at g
  rw [List.nil_append] at hl
  show spG As f R Bs (us ++ dvs) H' Q X
  rw [hsel us (by omega)]
  exact gc_call gc (hL c) hl.symm g fun v H2 g2 => hq v H2 g2
/-! ### calls with keywords -/
def AXK (n : Nat) {γ : Type} (E : Ent) (env : En) (t tk : TA) (acc : List SP) (m : Option γ) (Pc : γ → List SP → Prop) : Prop :=
  ∀ (st : List SP) (vs us0 : List V) (σ : L2.St) (H : Hp) (Q : List V → List V → Hp → Prop) (c : γ), G E env (acc ++ st) σ (us0 ++ vs) H → us0.length = acc.length → m = some c →
    (∀ us zs H' Ss, us.length = n → Pc c Ss → Ss.length = us0.length + us.length + zs.length → G E env (Ss ++ st) σ (zs.reverse ++ (us.reverse ++ (us0 ++ vs))) H' → Q us zs H') → t σ H fun us H1 => tk σ H1 fun zs H2 => Q us zs H2
theorem axk_nil {tk : TA} {acc : List SP} {m : Option γ} {Pc : γ → List SP → Prop} (h : AX E env tk acc m Pc) : AXK 0 E env tNil tk acc m Pc := by
  intro st vs us0 σ H Q c g hl hm hq
  exact h st vs us0 σ H (fun zs H2 => Q [] zs H2) c g hl hm fun us H' Ss hp hz g2 => hq [] us H' Ss rfl hp (by simp at hz ⊢; omega) (by simpa using g2)
theorem axk_cons {n : Nat} {tr tk : TA} {acc : List SP} {m1 : Option α} {m2 : α → Option γ} {S : α → SP} {Pc : γ → List SP → Prop} (h1 : EV E env te m1 S) (h2 : ∀ a, AXK n E env tr tk (S a :: acc) (m2 a) Pc) : AXK (n + 1) E env (tCons te tr) tk acc (m1.bind m2) Pc := by
  intro st vs us0 σ H Q c g hl hm hq
  obtain ⟨a, ea, hm⟩ := Option.bind_eq_some_iff.mp hm
  refine h1 _ _ σ H _ a g ea fun v H1 g1 => h2 a st vs (v :: us0) σ H1 (fun us zs H2 => Q (v :: us) zs H2) c g1 (by simp [hl]) hm fun us zs H' Ss hn hp hz g2 => hq (v :: us) zs H' Ss (by simp [hn]) hp (by simp at hz ⊢; omega) (by simpa using g2)
theorem ex_callN {A : Type} {As : A → List SP} {f : A → Option ρ} {R : A → ρ → SP} {Bs : A → ρ → List (Option SP)} {S : ρ → SP} {X : XK} {tA tk : TA} {m : Option ρ} {gV : List V → List V → List V} {n l : Nat} (L : ρ → List Nm) (src : List Src)
    (hsel : ∀ us zs : List V, us.length = n → zs.length = l → gV us zs = src.map (Src.sel (us ++ zs))) (hL : ∀ c, LOk env (L c)) (ha : AXK n E env tA tk [] m fun c Ss => Ss.length = n + l ∧ ∃ a, GC As f R Bs S (L c) src Ss.reverse c a) :
    EX E env (tCallN n l (spG As f R Bs) gV X tA tk) m S fun c => setL env (L c) := by
  intro st vs σ H Q c gg hm hq
  refine ha st vs [] σ H _ c gg rfl hm fun us zs H' Ss hn ⟨hs, a, gc⟩ hl g => ?_
  simp at hl
  have hz : zs.length = l := by omega
  refine ⟨hn, hz, ?_⟩
  show spG As f R Bs (gV us zs) H' Q X
  rw [hsel us zs hn hz]
  refine gc_call (us := us ++ zs) gc (hL c) (by simp; omega) ?_ fun v H2 g2 => hq v H2 g2
  simpa using g
end
/-! ### the layer's rule where nothing is positional -/
section
variable {X : Cx} {CX : CXT} {k : Nat} {f : Addr} {fd : FuncData} {ps ks : List Str} {sp : Sp} {E : XK} {x : Str} {p pos : Pos} {kws : List Keyword} {tk : TA} {g : List Value → List Value → List Value} {gV : List V → List V → List V}
theorem pe_callN0 (F : FnOk X.prog X.w X.K X.mg X.base CX k f fd ps sp) (hr : Room k X.A) (hg : Gl X x) (hm : X.mg x = some (.ref f)) (hk : PySem.W.keepIn X.K (.ref f) = true) (hb : KBn X.K fd ps 0 ks g gV) (hx : Passes CX X E) (hkw : PK X kws tk)
    (hall : (backToKw pos (keywordEach kws X.env)).all (·.1.isSome) = true := by rfl) (hks : (backToKw pos (keywordEach kws X.env)).filterMap (·.1) = ks := by rfl) (hdb : (x == ("__debug__" : Str)) = false := by decide)
    (hpl : ((backTo pos (starEach [] X.env)).any (·.1) || (backToKw pos (keywordEach kws X.env)).any (·.1.isNone)) = false := by rfl) :
    PE X (.Call (.Name x p) [] kws pos) (tCallN 0 ks.length sp gV E tNil tk) := by
  refine ⟨fun pins s σ H Q I h => ?_⟩
  refine wpAny_Call_Name_kw (ld_glob I hg hm ?_ hdb)
  refine PySem.W.callWith_KW0 (h₀ := X.base) I.ok.mod.kin hk hall ?_ hpl
  refine thn (hkw.run pos pins s σ H _ I h) fun ws s2 ⟨zs, H2, I2, rz, l1, l2, q2⟩ => ⟨I2.kIn, ?_⟩
  rw [hks]
  exact run_fnN (us := []) (vs := []) F hr hb hx I2 .nil rz rfl l2 q2
end
end ML

set_option Elab.async false
set_option linter.all false
set_option maxRecDepth 100000
set_option maxHeartbeats 2000000
namespace ML
open PySem PySem.Spec PyProof.Rows L2
section
variable {α β γ δ ρ τ : Type} {E : Ent} {env env' : En} {te ta tb tc ti : TE} {tt tu : TT} {u t t1 t2 : TS} {post : Post γ}
/-! ### tuples of one kind -/
theorem ev_tupU {T : Ty α} {t : TA} {m : Option (List α)} (h : AX E env t [] m fun c Ss => Ss = (c.map (val T)).reverse ∧ c.length ≤ 1000) : EV E env (tTup t) m (val (tU T)) := by
  intro st vs σ H Q c g hm hq
  refine h st vs [] σ H _ c g rfl hm fun us H' Ss ⟨hs, hc⟩ hl ⟨F, w, g'⟩ => ?_
  subst hs
  rw [← List.map_reverse] at g'
  have hlen : us.length = c.length := by simpa using hl.symm
  obtain ⟨p, q⟩ := vals_of (xs := c.reverse) (us := us.reverse) (by simpa using g'.st) (by simp [hlen])
  have p2 : Paired (T.rp F) us c := by simpa using Paired.rev p
  refine ⟨Nat.le_of_lt (small1000 (by omega)), fun a ha => ?_⟩
  have g0 : GG E env st σ vs H' F w := g'.re (fun a l e => ⟨l, e⟩) g'.env q
  have u := Ext.newF (F := F) (o := .tup us) g0.ext.s ha
  exact hq _ _ ⟨_, w, (g0.grow u).pushV ⟨a, us, rfl, upd_same, Paired.mono p2 fun _ _ => T.mono u.f⟩⟩
/-! ### x in xs, flat things -/
structure FC {α : Type} [DecidableEq α] (T : Ty α) where
  code : α → V
  rp : ∀ F v x, T.rp F v x → v = code x
  fl : ∀ x, flatV (code x) = true
  eq : ∀ x y, L2.eqV (code y) (code x) = decide (y = x)
def fcInt : FC tInt := ⟨V.int, fun _ _ _ h => h, fun _ => rfl, fun x y => by rw [Bool.eq_iff_iff]; simp [L2.eqV]⟩
def fcStr : FC tStr := ⟨V.str, fun _ _ _ h => h, fun _ => rfl, fun x y => by rw [Bool.eq_iff_iff]; simp [L2.eqV]⟩
theorem paired_code [DecidableEq α] {T : Ty α} (c : FC T) {F : Hp} : ∀ {vs : List V} {xs : List α}, Paired (T.rp F) vs xs → vs = xs.map c.code
  | _, _, .nil => rfl
  | _, _, .cons r t => by rw [paired_code c t, c.rp _ _ _ r]; rfl
theorem inV_code [DecidableEq α] {T : Ty α} (c : FC T) (x : α) : ∀ xs : List α, inV (c.code x) (xs.map c.code) = decide (x ∈ xs)
  | [] => by simp [inV]
  | y :: xs => by
    have ih := inV_code c x xs
    unfold inV at ih ⊢
    rw [List.map_cons, List.any_cons, ih, c.eq]
    by_cases h : y = x
    · subst h; simp
    · have h' : ¬ x = y := fun z => h z.symm
      simp [h, h']
theorem all_flat [DecidableEq α] {T : Ty α} (c : FC T) (xs : List α) : (xs.map c.code).all flatV = true := by
  rw [List.all_eq_true]
  intro v hv
  obtain ⟨x, _, e⟩ := List.mem_map.mp hv
  rw [← e]; exact c.fl x
theorem o2_inU {K : PySem.W.Frag} [DecidableEq α] {T : Ty α} (c : FC T) {x : α} {xs : List α} : O2 (rIn K false) (val T x) (val (tU T) xs) (some (decide (x ∈ xs))) (val tBool) := o2_mk fun k hm F H Q va vb s ha ⟨p, us, e, h, pp⟩ hq => by
  cases hm
  have e1 := c.rp F va x ha
  have e2 := paired_code c pp
  subst e1 e2
  exact ⟨p, _, e, .inr (.of (s _ _ h)), c.fl x, all_flat c xs, hq _ (by rw [inV_code]; rfl)⟩
theorem o2_inL {K : PySem.W.Frag} [DecidableEq α] {T : Ty α} (c : FC T) {x : α} {xs : List α} : O2 (rIn K false) (val T x) (val (tL T) xs) (some (decide (x ∈ xs))) (val tBool) := o2_mk fun k hm F H Q va vb s ha ⟨p, us, e, h, pp⟩ hq => by
  cases hm
  have e1 := c.rp F va x ha
  have e2 := paired_code c pp
  subst e1 e2
  exact ⟨p, _, e, .inl (.of (s _ _ h)), c.fl x, all_flat c xs, hq _ (by rw [inV_code]; rfl)⟩
end
section
variable {X : Cx} {K : PySem.W.Frag}
theorem op_in_seqK (h : X.K = K) : OpR X (compareOp .In) (rIn K false) := h ▸ op_in_seq
end
/-! ### keywords where there are no defaults -/
section
variable {K : PySem.W.Frag} {x qual : Str} {params : Arguments} {body : List Stmt} {scope : Scope} {kws : List (Str × V)} {f : Addr} {fd : FuncData} {ps : List Str}
theorem FunD.kbindsN (F : FunD K x qual params body scope [] kws f fd) (n : Nat) (ks : List Str)
    (h : ∀ (kV doc pm : Value) (an : Option Addr) (cdv ct : Value) (us ws : List Value), us.length = n → ws.length = ks.length → bindArgs (PySem.W.fnOf x qual params body scope .none kV doc pm an cdv ct) ⟨us, ks.zip ws⟩ = pure (ps.zip (us ++ ws))) : KBn K fd ps n ks (fun us ws => us ++ ws) (fun us ws => us ++ ws) := by
  obtain ⟨oc, od, dV, kV, doc, pm, an, cdv, ct, osl, rfl, lk, hcd, hD, hK⟩ := F.ex
  rcases hD with ⟨_, rfl⟩ | ⟨e, _⟩
  · exact ⟨fun s us ws X l1 l2 => .of_eq (h kV doc pm an cdv ct us ws l1 l2), fun r1 r2 => r1.append r2⟩
  · exact absurd rfl e
end
def CalK (P : Program) (w : World) (K : PySem.W.Frag) (mg : Str → Option Value) (base : Heap) (k : Nat) (y : Str) (ps : List Str) (n : Nat) (ks : List Str) (sp : Sp) : Prop :=
  ∃ (f : Addr) (fd : FuncData), mg y = some (.ref f) ∧ PySem.W.keepIn K (.ref f) = true ∧ KBn K fd ps n ks (fun us ws => us ++ ws) (fun us ws => us ++ ws) ∧ FnOk P w K mg base CX0 k f fd ps sp
end ML

set_option Elab.async false
set_option linter.all false
set_option maxRecDepth 100000
set_option maxHeartbeats 2000000
/-! ML: expressions that change what is one's own on the way -/
namespace ML
open PySem PySem.Spec PyProof.Rows L2
section
variable {α β γ δ ρ τ : Type} {E : Ent} {env env' : En} {te ta tb tc ti : TE} {tt tu : TT} {u t t1 t2 : TS} {post : Post γ}
theorem ex_eq {m m' : Option α} {S : α → SP} {e' : α → En} (h : EX E env te m S e') (e : m = m') : EX E env te m' S e' := e ▸ h
/-- no change, seen as a change -/
theorem ex_ev {m : Option α} {T : α → SP} {S : δ → SP} {e' : δ → En} (out : α → δ) (h : EV E env te m T) (hS : ∀ a, S (out a) = T a := by intros; rfl) (he : ∀ a, e' (out a) = env := by intros; rfl) : EX E env te (m.map out) S e' := by
  intro st vs σ H Q x g hm hq
  obtain ⟨a, ea, rfl⟩ := Option.map_eq_some_iff.mp hm
  exact h st vs σ H Q a g ea fun v H' g' => hq v H' (by rw [hS, he]; exact g')
theorem ex_opE {r : R2} {ma : Option α} {mb : α → Option β} {mc : α → β → Option γ} {Sa : α → SP} {Sb : α → β → SP} {Sc : α → β → γ → SP} {e1 : α → En} {e2 : α → β → En} {S : δ → SP} {e' : δ → En} (out : α → β → γ → δ) (ha : EX E env ta ma Sa e1) (hb : ∀ a, EX E (e1 a) tb (mb a) (Sb a) (e2 a))
    (hr : ∀ a b, O2 r (Sa a) (Sb a b) (mc a b) (Sc a b)) (hS : ∀ a b c, S (out a b c) = Sc a b c := by intros; rfl) (he : ∀ a b c, e' (out a b c) = e2 a b := by intros; rfl) :
    EX E env (tOp r ta tb) (ma.bind fun a => (mb a).bind fun b => (mc a b).bind fun c => some (out a b c)) S e' := by
  intro st vs σ H Q x g hm hq
  obtain ⟨a, ea, hm⟩ := Option.bind_eq_some_iff.mp hm
  obtain ⟨b, eb, hm⟩ := Option.bind_eq_some_iff.mp hm
  obtain ⟨c, ec, hm⟩ := Option.bind_eq_some_iff.mp hm
  cases hm
  exact ha st vs σ H _ a g ea fun va H1 g1 => hb a _ _ σ H1 _ b g1 eb fun vb H2 g2 => hr a b E _ st σ vs H2 Q va vb c g2 ec fun v H' g' => hq v H' (by rw [hS, he]; exact g')
theorem ex_unE {r : V → Hp → VK → Prop} {ma : Option α} {mc : α → Option γ} {Sa : α → SP} {Sc : α → γ → SP} {e1 : α → En} {S : δ → SP} {e' : δ → En} (out : α → γ → δ) (ha : EX E env ta ma Sa e1) (hr : ∀ a, O1 r (Sa a) (mc a) (Sc a)) (hS : ∀ a c, S (out a c) = Sc a c := by intros; rfl) (he : ∀ a c, e' (out a c) = e1 a := by intros; rfl) :
    EX E env (tUn r ta) (ma.bind fun a => (mc a).bind fun c => some (out a c)) S e' := by
  intro st vs σ H Q x g hm hq
  obtain ⟨a, ea, hm⟩ := Option.bind_eq_some_iff.mp hm
  obtain ⟨c, ec, hm⟩ := Option.bind_eq_some_iff.mp hm
  cases hm
  exact ha st vs σ H _ a g ea fun va H1 g1 => hr a E _ st σ vs H1 Q va c g1 ec fun v H' g' => hq v H' (by rw [hS, he]; exact g')
theorem ex_cb1E {r : List V → Hp → VK → Prop} {ma : Option α} {mc : α → Option γ} {Sa : α → SP} {Sc : α → γ → SP} {e1 : α → En} {S : δ → SP} {e' : δ → En} (out : α → γ → δ) (ha : EX E env ta ma Sa e1) (hr : ∀ a, O1 (fun v H Q => r [v] H Q) (Sa a) (mc a) (Sc a)) (hS : ∀ a c, S (out a c) = Sc a c := by intros; rfl) (he : ∀ a c, e' (out a c) = e1 a := by intros; rfl) :
    EX E env (tCB r (tCons ta tNil)) (ma.bind fun a => (mc a).bind fun c => some (out a c)) S e' := by
  intro st vs σ H Q x g hm hq
  obtain ⟨a, ea, hm⟩ := Option.bind_eq_some_iff.mp hm
  obtain ⟨c, ec, hm⟩ := Option.bind_eq_some_iff.mp hm
  cases hm
  exact ha st vs σ H _ a g ea fun va H1 g1 => hr a E _ st σ vs H1 Q va c g1 ec fun v H' g' => hq v H' (by rw [hS, he]; exact g')
theorem ex_cb2E {r : List V → Hp → VK → Prop} {ma : Option α} {mb : α → Option β} {mc : α → β → Option γ} {Sa : α → SP} {Sb : α → β → SP} {Sc : α → β → γ → SP} {e1 : α → En} {e2 : α → β → En} {S : δ → SP} {e' : δ → En} (out : α → β → γ → δ) (ha : EX E env ta ma Sa e1) (hb : ∀ a, EX E (e1 a) tb (mb a) (Sb a) (e2 a))
    (hr : ∀ a b, O2 (fun v u H Q => r [v, u] H Q) (Sa a) (Sb a b) (mc a b) (Sc a b)) (hS : ∀ a b c, S (out a b c) = Sc a b c := by intros; rfl) (he : ∀ a b c, e' (out a b c) = e2 a b := by intros; rfl) :
    EX E env (tCB r (tCons ta (tCons tb tNil))) (ma.bind fun a => (mb a).bind fun b => (mc a b).bind fun c => some (out a b c)) S e' := by
  intro st vs σ H Q x g hm hq
  obtain ⟨a, ea, hm⟩ := Option.bind_eq_some_iff.mp hm
  obtain ⟨b, eb, hm⟩ := Option.bind_eq_some_iff.mp hm
  obtain ⟨c, ec, hm⟩ := Option.bind_eq_some_iff.mp hm
  cases hm
  exact ha st vs σ H _ a g ea fun va H1 g1 => hb a _ _ σ H1 _ b g1 eb fun vb H2 g2 => hr a b E _ st σ vs H2 Q va vb c g2 ec fun v H' g' => hq v H' (by rw [hS, he]; exact g')
/-- a new list of one's own becomes a value -/
theorem ex_frzE {S : δ → SP} {S' : δ → VP} {m : Option δ} {e' : δ → En} (h : EX E env te m S e') (z : ∀ x, Fz (S x) (S' x)) : EX E env te m (fun x => (S' x).sp) e' := by
  intro st vs σ H Q x g hm hq
  refine h st vs σ H Q x g hm fun v H' ⟨F, w, g'⟩ => ?_
  obtain ⟨F', w', g2⟩ := g'.freezeS (z x)
  exact hq v H' ⟨F', w', g2⟩
/-! ### arguments -/
def AXE {γ : Type} (E : Ent) (env : En) (ta : TA) (acc : List SP) (m : Option γ) (Pc : γ → List SP → En → Prop) : Prop :=
  ∀ (st : List SP) (vs us0 : List V) (σ : L2.St) (H : Hp) (Q : List V → Hp → Prop) (c : γ), G E env (acc ++ st) σ (us0 ++ vs) H → us0.length = acc.length → m = some c → (∀ us H' Ss e', Pc c Ss e' → Ss.length = (us0 ++ us).length → G E e' (Ss ++ st) σ (us.reverse ++ us0 ++ vs) H' → Q us H') → ta σ H Q
theorem axe_nil {acc : List SP} {m : Option γ} {Pc : γ → List SP → En → Prop} (h : ∀ c, m = some c → Pc c acc env) : AXE E env tNil acc m Pc := by
  intro st vs us0 σ H Q c g hl hm hq
  exact hq [] H acc env (h c hm) (by simp [hl]) g
theorem axe_cons {tr : TA} {acc : List SP} {m1 : Option α} {m2 : α → Option γ} {S : α → SP} {e1 : α → En} {Pc : γ → List SP → En → Prop} (h1 : EX E env te m1 S e1) (h2 : ∀ a, AXE E (e1 a) tr (S a :: acc) (m2 a) Pc) : AXE E env (tCons te tr) acc (m1.bind m2) Pc := by
  intro st vs us0 σ H Q c g hl hm hq
  obtain ⟨a, ea, hm⟩ := Option.bind_eq_some_iff.mp hm
  refine h1 _ _ σ H _ a g ea fun v H1 g1 => h2 a st vs (v :: us0) σ H1 _ c g1 (by simp [hl]) hm fun us H' Ss e' hp hz g2 => hq (v :: us) H' Ss e' hp (by simp at hz ⊢; omega) (by simpa using g2)
theorem ex_lstE {T : Ty α} {t : TA} {m : Option δ} {S : δ → List α} {e' : δ → En} (h : AXE E env t [] m fun c Ss e => Ss = ((S c).map (val T)).reverse ∧ (S c).length ≤ 1000 ∧ e = e' c) : EX E env (tLst t) m (fun c => own T (S c)) e' := by
  intro st vs σ H Q c g hm hq
  refine h st vs [] σ H _ c g rfl hm fun us H' Ss e ⟨hs, hc, he⟩ hl ⟨F, w, g'⟩ => ?_
  subst hs he
  rw [← List.map_reverse] at g'
  have hlen : us.length = (S c).length := by simpa using hl.symm
  obtain ⟨p, q⟩ := vals_of (xs := (S c).reverse) (us := us.reverse) (by simpa using g'.st) (by simp [hlen])
  have p2 : Paired (T.rp F) us (S c) := by simpa using Paired.rev p
  refine ⟨Nat.le_of_lt (small1000 (by omega)), fun a ha => hq _ _ ⟨F, _, (g'.re (fun a l e => ⟨l, e⟩) g'.env q : GG E (e' c) st σ vs H' F w).pushO ha ⟨a, us, rfl, trivial, fun b => Iff.rfl, upd_same, p2⟩⟩⟩
theorem ex_pairE {T : Ty α} {U : Ty β} {ma : Option γ} {mb : γ → Option τ} {Sa : γ → α} {Sb : γ → τ → β} {e1 : γ → En} {e2 : γ → τ → En} {S : δ → α × β} {e' : δ → En} (out : γ → τ → δ) (ha : EX E env ta ma (fun x => val T (Sa x)) e1) (hb : ∀ a, EX E (e1 a) tb (mb a) (fun x => val U (Sb a x)) (e2 a))
    (hS : ∀ a b, S (out a b) = (Sa a, Sb a b) := by intros; rfl) (he : ∀ a b, e' (out a b) = e2 a b := by intros; rfl) : EX E env (tTup (tCons ta (tCons tb tNil))) (ma.bind fun a => (mb a).bind fun b => some (out a b)) (fun x => val (tP T U) (S x)) e' := by
  intro st vs σ H Q c g hm hq
  obtain ⟨a, ea, hm⟩ := Option.bind_eq_some_iff.mp hm
  obtain ⟨b, eb, hm⟩ := Option.bind_eq_some_iff.mp hm
  cases hm
  refine ha st vs σ H _ a g ea fun va H1 g1 => hb a _ _ σ H1 _ b g1 eb fun vb H2 ⟨F, w, g2⟩ => ⟨by show 2 ≤ sizeLine; decide, fun p hp => ?_⟩
  have u := Ext.newF (F := F) (o := .tup [va, vb]) g2.ext.s hp
  exact hq _ _ ⟨_, w, by rw [he]; exact (g2.pop.pop.grow u).pushV ⟨p, va, vb, rfl, upd_same, by rw [hS]; exact T.mono u.f g2.st.2.1, by rw [hS]; exact U.mono u.f g2.st.1⟩⟩
/-- f(e, ..), arguments with changes -/
theorem ex_callGE {A : Type} {As : A → List SP} {f : A → Option ρ} {R : A → ρ → SP} {Bs : A → ρ → List (Option SP)} {S : ρ → SP} {X : XK} {tA : TA} {m : Option δ} {dvs : List V} {S' : δ → SP} {e' : δ → En} (L : δ → List Nm) (src : List Src) (n : Nat) (res : δ → ρ)
    (hsel : ∀ us : List V, us.length = n → us ++ dvs = src.map (Src.sel us)) (ha : AXE E env tA [] m fun c Ss e => Ss.length = n ∧ LOk e (L c) ∧ setL e (L c) = e' c ∧ S' c = S (res c) ∧ ∃ a, GC As f R Bs S (L c) src Ss.reverse (res c) a) : EX E env (tCall (spG As f R Bs) dvs X tA) m S' e' := by
  intro st vs σ H Q c gg hm hq
  refine ha st vs [] σ H _ c gg rfl hm fun us H' Ss e ⟨hn, hL, he, hS, a, gc⟩ hl g => ?_
  rw [List.append_nil] at g
  rw [List.nil_append] at hl
  show spG As f R Bs (us ++ dvs) H' Q X
  rw [hsel us (by omega)]
  exact gc_call gc hL hl.symm g fun v H2 g2 => hq v H2 (by rw [hS, ← he]; exact g2)
/-! ### tests -/
def TXE {α : Type} (E : Ent) (env : En) (tt : TT) (m : Option α) (b : α → Bool) (e' : α → En) : Prop :=
  ∀ (st : List SP) (vs : List V) (σ : L2.St) (H : Hp) (Q : Bool → Hp → Prop) (x : α), G E env st σ vs H → m = some x → (∀ H', G E (e' x) st σ vs H' → Q (b x) H') → tt σ H Q
theorem txe_tx {m : Option Bool} {b : δ → Bool} {e' : δ → En} (out : Bool → δ) (h : TX E env tt m) (hb : ∀ k, b (out k) = k := by intros; rfl) (he : ∀ k, e' (out k) = env := by intros; rfl) : TXE E env tt (m.map out) b e' := by
  intro st vs σ H Q x g hm hq
  obtain ⟨k, ek, rfl⟩ := Option.map_eq_some_iff.mp hm
  exact h st vs σ H Q k g ek fun H' g' => by
    have := hq H' (by rw [he]; exact g')
    rw [hb] at this; exact this
theorem txe_e {m : Option δ} {b : δ → Bool} {e' : δ → En} (h : EX E env te m (fun x => val tBool (b x)) e') : TXE E env (tTest te) m b e' := by
  intro st vs σ H Q x g hm hq
  exact h st vs σ H _ x g hm fun v H1 ⟨F, w, g1⟩ => ⟨b x, g1.top, hq H1 ⟨F, w, g1.pop⟩⟩
theorem txe_b {m : Option δ} {b : δ → Bool} {e' : δ → En} (h : EX E env te m (fun x => val tBool (b x)) e') : TXE E env (tB te) m b e' := by
  intro st vs σ H Q x g hm hq
  exact h st vs σ H _ x g hm fun v H1 ⟨F, w, g1⟩ => ⟨b x, g1.top, hq H1 ⟨F, w, g1.pop⟩⟩
theorem txe_not {m : Option δ} {b : δ → Bool} {e' : δ → En} (h : TXE E env tt m b e') : TXE E env (tNot tt) m (fun x => !b x) e' := by
  intro st vs σ H Q x g hm hq
  exact h st vs σ H _ x g hm fun H1 g1 => hq H1 g1
theorem txe_and {ma : Option α} {mb : α → Option β} {ba : α → Bool} {bb : α → β → Bool} {e1 : α → En} {e2 : α → β → En} {b : δ → Bool} {e' : δ → En} (o1 : α → δ) (o2 : α → β → δ) (ha : TXE E env tt ma ba e1) (hb : ∀ a, TXE E (e1 a) tu (mb a) (bb a) (e2 a))
    (h1 : ∀ a, b (o1 a) = false := by intros; rfl) (h2 : ∀ a, e' (o1 a) = e1 a := by intros; rfl) (h3 : ∀ a c, b (o2 a c) = bb a c := by intros; rfl) (h4 : ∀ a c, e' (o2 a c) = e2 a c := by intros; rfl) :
    TXE E env (tAnd tt tu) (ma.bind fun a => if ba a = true then (mb a).bind fun c => some (o2 a c) else some (o1 a)) b e' := by
  intro st vs σ H Q x g hm hq
  obtain ⟨a, ea, hm⟩ := Option.bind_eq_some_iff.mp hm
  refine ha st vs σ H _ a g ea fun H1 g1 => ?_
  cases hk : ba a with
  | true =>
    rw [hk, if_pos rfl] at hm
    obtain ⟨c, ec, hm⟩ := Option.bind_eq_some_iff.mp hm
    cases hm
    exact hb a st vs σ H1 _ c g1 ec fun H2 g2 => by
      have := hq H2 (by rw [h4]; exact g2)
      rw [h3] at this; exact this
  | false =>
    rw [hk, if_neg Bool.false_ne_true] at hm
    cases hm
    have := hq H1 (by rw [h2]; exact g1)
    rw [h1] at this; exact this
theorem txe_or {ma : Option α} {mb : α → Option β} {ba : α → Bool} {bb : α → β → Bool} {e1 : α → En} {e2 : α → β → En} {b : δ → Bool} {e' : δ → En} (o1 : α → δ) (o2 : α → β → δ) (ha : TXE E env tt ma ba e1) (hb : ∀ a, TXE E (e1 a) tu (mb a) (bb a) (e2 a))
    (h1 : ∀ a, b (o1 a) = true := by intros; rfl) (h2 : ∀ a, e' (o1 a) = e1 a := by intros; rfl) (h3 : ∀ a c, b (o2 a c) = bb a c := by intros; rfl) (h4 : ∀ a c, e' (o2 a c) = e2 a c := by intros; rfl) :
    TXE E env (tOr tt tu) (ma.bind fun a => if ba a = true then some (o1 a) else (mb a).bind fun c => some (o2 a c)) b e' := by
  intro st vs σ H Q x g hm hq
  obtain ⟨a, ea, hm⟩ := Option.bind_eq_some_iff.mp hm
  refine ha st vs σ H _ a g ea fun H1 g1 => ?_
  cases hk : ba a with
  | true =>
    rw [hk, if_pos rfl] at hm
    cases hm
    have := hq H1 (by rw [h2]; exact g1)
    rw [h1] at this; exact this
  | false =>
    rw [hk, if_neg Bool.false_ne_true] at hm
    obtain ⟨c, ec, hm⟩ := Option.bind_eq_some_iff.mp hm
    cases hm
    exact hb a st vs σ H1 _ c g1 ec fun H2 g2 => by
      have := hq H2 (by rw [h4]; exact g2)
      rw [h3] at this; exact this
/-- a test whose outcome is told -/
def tK (c : Bool) : TT := fun _ H Q => Q c H
theorem tx_k {c : Bool} : TX E env (tK c) (some c) := fun st vs σ H Q b g hm hq => by cases hm; exact hq H g
theorem bk_testE {m : Option α} {b : α → Bool} {e' : α → En} {k : α → Option γ} (ht : TXE E env tt m b e') (hk : ∀ x, BK E (e' x) (tSeq (tIfS (tK (b x)) t1 t2) u) (k x) post) : BK E env (tSeq (tIfS tt t1 t2) u) (m.bind k) post := by
  intro st vs σ H D g gg hm hq
  obtain ⟨x, ex, hm⟩ := Option.bind_eq_some_iff.mp hm
  exact ht st vs σ H _ x gg ex fun H1 g1 => hk x st vs σ H1 D g g1 hm hq
theorem bk_testE1 {m : Option α} {b : α → Bool} {e' : α → En} {k : α → Option γ} (ht : TXE E env tt m b e') (hk : ∀ x, BK E (e' x) (tIfS (tK (b x)) t1 t2) (k x) post) : BK E env (tIfS tt t1 t2) (m.bind k) post := by
  intro st vs σ H D g gg hm hq
  obtain ⟨x, ex, hm⟩ := Option.bind_eq_some_iff.mp hm
  exact ht st vs σ H _ x gg ex fun H1 g1 => hk x st vs σ H1 D g g1 hm hq
/-- t ? a : b -/
theorem ex_ifE {mt : Option α} {b : α → Bool} {e1 : α → En} {ma mb : α → Option γ} {S : γ → SP} {e' : γ → En} (ht : TXE E env tt mt b e1) (ha : ∀ x, EX E (e1 x) ta (ma x) S e') (hb : ∀ x, EX E (e1 x) tb (mb x) S e') : EX E env (tIf tt ta tb) (mt.bind fun x => if b x = true then ma x else mb x) S e' := by
  intro st vs σ H Q c g hm hq
  obtain ⟨x, ex, hm⟩ := Option.bind_eq_some_iff.mp hm
  refine ht st vs σ H _ x g ex fun H1 g1 => ?_
  cases hk : b x with
  | true => rw [hk, if_pos rfl] at hm; exact ha x st vs σ H1 Q c g1 hm hq
  | false => rw [hk, if_neg Bool.false_ne_true] at hm; exact hb x st vs σ H1 Q c g1 hm hq
/-! ### stores -/
theorem bk_setIE {φ : V → Prop} {T : Ty α} {xs : List α} {j : Nat} {m : Option δ} {mi : δ → Option τ} {Sx : δ → α} {Si : δ → τ → Int} {e1 : δ → En} {e2 : δ → τ → En} {k : δ → τ → List α → Option γ} (h : ∀ x y, (e2 x y)[j]? = some (some (muL φ T xs))) (h1 : ∀ x, (e1 x)[j]? = some (some (muL φ T xs)))
    (he : EX E env te m (fun x => val T (Sx x)) e1) (hi : ∀ x, EX E (e1 x) ti (mi x) (fun y => val tInt (Si x y)) (e2 x))
    (hk : ∀ x y ys, BK E ((e2 x y).set j (some (muL φ T ys))) u (k x y ys) post) : BK E env (tSeq (tAsg te (gSub (tVar j) ti rSetL)) u) (m.bind fun x => (mi x).bind fun y => (setI xs (Si x y) (Sx x)).bind (k x y)) post := by
  intro st vs σ H D y gg hm hq
  obtain ⟨x, ex, hm⟩ := Option.bind_eq_some_iff.mp hm
  obtain ⟨i, ei, hm⟩ := Option.bind_eq_some_iff.mp hm
  obtain ⟨ys, ey, hm⟩ := Option.bind_eq_some_iff.mp hm
  obtain ⟨j', ej, rfl⟩ := Option.map_eq_some_iff.mp ey
  refine he st vs σ H _ x gg ex fun v H2 gg2 => ?_
  obtain ⟨F2, w2, g2⟩ := id gg2
  obtain ⟨a, us, q1, hh, p, _⟩ := g2.mutE (h1 x)
  refine ⟨_, q1, hi x _ _ σ H2 _ i gg2 ei fun iv H3 ⟨F3, w3, g3⟩ => ?_⟩
  obtain ⟨a', us3, q2, hh3, p3, k3⟩ := g3.pop.pop.mutE (h x i)
  rw [q1] at q2
  cases q2
  refine ⟨a, us3, Si x i, j', rfl, g3.top, hh3, by rw [p3.length]; exact ej, ?_⟩
  exact hk x i _ st vs σ _ D y ⟨F3, w3, k3 _ _ (ML.Paired.set (f := T.rp F3) (show T.rp F3 v (Sx x) from g3.st.2.1) j' p3)⟩ hm hq
end
end ML

set_option Elab.async false
set_option linter.all false
set_option maxRecDepth 100000
set_option maxHeartbeats 2000000
/-! ML: loops and comprehensions whose parts change what is one's own -/
namespace ML
open PySem PySem.Spec PyProof.Rows L2
section
variable {α β γ δ ρ τ : Type} {E : Ent} {env env' : En} {te ta tb tc ti : TE} {tt tu : TT} {u t t1 t2 : TS} {post : Post γ}
def IXE {α δ : Type} (E : Ent) (env : En) (wi : TI) (m : Option δ) (xs : δ → List α) (S : α → SP) (e' : δ → En) : Prop :=
  ∀ (st : List SP) (vs : List V) (σ : L2.St) (H : Hp) (R : It → Hp → Prop) (c : δ), G E env st σ vs H → m = some c → (∀ J Z v H', Wk J (xs c) S Z v → G E (e' c) (Z :: st) σ (v :: vs) H' → R J H') → wi σ H R
theorem ixe_ix {wi : TI} {m : Option (List α)} {S : α → SP} (h : IX E env wi m S) : IXE E env wi m id S fun _ => env := fun st vs σ H R c g hm hq => h st vs σ H R c g hm hq
theorem ixe_R1 {m : Option δ} {n : δ → Int} {e' : δ → En} (h : EX E env te m (fun x => val tInt (n x)) e') : IXE E env (iRng1 (tCons te tNil)) (m.bind fun x => (range1 (n x)).map fun l => (x, l)) (fun p => p.2) (val tInt) fun p => e' p.1 := by
  intro st vs σ H R c gg hm hq
  obtain ⟨x, ex, hm⟩ := Option.bind_eq_some_iff.mp hm
  obtain ⟨l, el, rfl⟩ := Option.map_eq_some_iff.mp hm
  obtain ⟨⟨h1, h2⟩, el⟩ := grd_some el
  cases el
  exact h st vs σ H _ x gg ex fun v H1 ⟨F, w, g1⟩ => ⟨n x, by rw [show v = V.int (n x) from g1.top], h2, h1, hq _ anyS .non _ wk_R (G.pushAny ⟨F, w, g1.pop⟩)⟩
theorem ixe_L {K : PySem.W.Frag} {T : Ty α} {m : Option δ} {xs : δ → List α} {e' : δ → En} (h : EX E env te m (fun x => val (tL T) (xs x)) e') : IXE E env (iList K te) m xs (val T) e' := by
  intro st vs σ H R c gg hm hq
  refine h st vs σ H _ c gg hm fun v H1 ⟨F, w, g1⟩ => ?_
  obtain ⟨a, us, e, hh, p⟩ := g1.top
  cases e
  exact ⟨a, rfl, ⟨us, .of (g1.ext.s _ _ hh)⟩, hq _ _ _ _ wk_L ⟨F, w, g1⟩⟩
theorem bk_forNE {σs : Type} {wi : TI} {g : TG} {tb : TS} {mx : Option δ} {xs : δ → List α} {S : α → SP} {e' : δ → En} {eL : δ → σs → En} {eX : δ → α → σs → En} {s0 : δ → σs} {f : δ → α → σs → Option σs} {k : δ → σs → Option γ} (hi : IXE E env wi mx xs S e') (h0 : ∀ c, Fgt (e' c) (eL c (s0 c))) (hg : ∀ c x s, AS E (eL c s) g (S x) (eX c x s))
    (hb : ∀ c x s, BK E (eX c x s) tb (f c x s) (pN E (eL c))) (hk : ∀ c s, BK E (eL c s) u (k c s) post) : BK E env (tSeq (tFor wi g tb) u) (mx.bind fun c => (forN (xs c) (s0 c) (f c)).bind (k c)) post := by
  intro st vs σ H D y gg hm hq
  obtain ⟨c, ec, hm⟩ := Option.bind_eq_some_iff.mp hm
  obtain ⟨s1, es, hm⟩ := Option.bind_eq_some_iff.mp hm
  refine hi st vs σ H _ c gg ec fun J Z v H1 wk g1 => ?_
  refine ⟨fun i m σ' H' => m = (xs c).length - i ∧ ∃ s, G E (eL c s) (Z :: st) σ' (v :: vs) H' ∧ forN ((xs c).drop i) s (f c) = some s1, ⟨_, rfl, s0 c, g1.fgt (h0 c), by simpa using es⟩, ?_⟩
  rintro i m σ' H' ⟨rfl, s, g2, e⟩
  obtain ⟨w1, w2⟩ := wk E (eL c s) [] st σ' [] vs H' i rfl g2
  cases hd : (xs c).drop i with
  | nil =>
    rw [hd] at e
    cases e
    exact .inl ⟨w2 (drop_nil hd), hk c s1 st vs σ' H' D y g2.popV hm hq⟩
  | cons x r =>
    rw [hd] at e
    obtain ⟨d1, d2⟩ := drop_cons hd
    obtain ⟨s', e1, e2⟩ := Option.bind_eq_some_iff.mp (show ((f c x s).bind fun s' => forN r s' (f c)) = some s1 from e)
    obtain ⟨w3, w4⟩ := w1 x d1
    have hlt : i < (xs c).length := (List.getElem?_eq_some_iff.mp d1).1
    refine .inr ⟨w3, fun σ'' H'' => ∃ m', m' < (xs c).length - i ∧ m' = (xs c).length - (i + 1) ∧ ∃ s, G E (eL c s) (Z :: st) σ'' (v :: vs) H'' ∧ forN ((xs c).drop (i + 1)) s (f c) = some s1, fun σ'' H'' ⟨m', h1, h2, h3⟩ => ⟨m', h1, h2, h3⟩, fun xv H'' hy => ?_⟩
    refine hg c x s _ _ σ' H'' _ xv (w4 xv H'' hy) fun σ2 H2 g3 => ?_
    exact hb c x s _ _ σ2 H2 _ s' g3 e1 fun σ3 H3 g4 => ⟨_, by omega, rfl, s', g4, by rw [d2]; exact e2⟩
theorem bk_forLE {σs : Type} {wi : TI} {g : TG} {tb : TS} {mx : Option δ} {xs : δ → List α} {S : α → SP} {e' : δ → En} {eL : δ → σs → En} {eX : δ → α → σs → En} {s0 : δ → σs} {f : δ → α → σs → Option (Out σs σs ρ)} {k : δ → σs → Option γ} {R : ρ → SP} {eR : ρ → En} {emb : ρ → γ} (he : Emb E post R eR emb)
    (hi : IXE E env wi mx xs S e') (h0 : ∀ c, Fgt (e' c) (eL c (s0 c))) (hg : ∀ c x s, AS E (eL c s) g (S x) (eX c x s)) (hb : ∀ c x s, BK E (eX c x s) tb (f c x s) (pL E (eL c) (eL c) R eR)) (hk : ∀ c s, BK E (eL c s) u (k c s) post) :
    BK E env (tSeq (tFor wi g tb) u) (mx.bind fun c => thenS (forL (xs c) (s0 c) (f c)) (k c) fun r => some (emb r)) post := by
  intro st vs σ H D y gg hm hq
  obtain ⟨c, ec, hm⟩ := Option.bind_eq_some_iff.mp hm
  unfold thenS at hm
  obtain ⟨s1, es, hm⟩ := Option.bind_eq_some_iff.mp hm
  refine hi st vs σ H _ c gg ec fun J Z v H1 wk g1 => ?_
  have nxt : ∀ s, s1 = .inl s → ∀ σ' H', G E (eL c s) (Z :: st) σ' (v :: vs) H' → u D σ' H' := fun s e σ' H' g2 => by
    subst e
    exact hk c s st vs σ' H' D y g2.popV hm hq
  refine ⟨fun i m σ' H' => m = (xs c).length - i ∧ ∃ s, G E (eL c s) (Z :: st) σ' (v :: vs) H' ∧ forL ((xs c).drop i) s (f c) = some s1, ⟨_, rfl, s0 c, g1.fgt (h0 c), by simpa using es⟩, ?_⟩
  rintro i m σ' H' ⟨rfl, s, g2, e⟩
  obtain ⟨w1, w2⟩ := wk E (eL c s) [] st σ' [] vs H' i rfl g2
  cases hd : (xs c).drop i with
  | nil =>
    rw [hd] at e
    have e' : s1 = .inl s := (Option.some.inj e).symm
    exact .inl ⟨w2 (drop_nil hd), nxt s e' σ' H' g2⟩
  | cons x r =>
    rw [hd] at e
    obtain ⟨d1, d2⟩ := drop_cons hd
    obtain ⟨o, e1, e2⟩ := Option.bind_eq_some_iff.mp (show ((f c x s).bind (forK fun s' => forL r s' (f c))) = some s1 from e)
    obtain ⟨w3, w4⟩ := w1 x d1
    have hlt : i < (xs c).length := (List.getElem?_eq_some_iff.mp d1).1
    refine .inr ⟨w3, fun σ'' H'' => ∃ m', m' < (xs c).length - i ∧ m' = (xs c).length - (i + 1) ∧ ∃ s, G E (eL c s) (Z :: st) σ'' (v :: vs) H'' ∧ forL ((xs c).drop (i + 1)) s (f c) = some s1, fun σ'' H'' ⟨m', h1, h2, h3⟩ => ⟨m', h1, h2, h3⟩, fun xv H'' hy => ?_⟩
    refine hg c x s _ _ σ' H'' _ xv (w4 xv H'' hy) fun σ2 H2 g3 => ?_
    refine hb c x s _ _ σ2 H2 _ o g3 e1 ?_
    cases o with
    | nx s' => exact fun σ3 H3 g4 => ⟨_, by omega, rfl, s', g4, by rw [d2]; exact e2⟩
    | brk s' => exact fun σ3 H3 g4 => nxt s' (Option.some.inj e2).symm σ3 H3 g4
    | ret r' =>
      have e3 : s1 = .inr r' := (Option.some.inj e2).symm
      subst e3
      cases hm
      exact fun v' σ3 H3 g4 => he r' st vs D hq v' σ3 H3 g4.nip
/-! ### comprehensions that carry a state -/
def mapS {α β σs : Type} : List α → σs → (α → σs → Option (β × σs)) → Option (List β × σs)
  | [], s, _ => some ([], s)
  | x :: xs, s, f => (f x s).bind fun y => (mapS xs y.2 f).bind fun ys => some (y.1 :: ys.1, ys.2)
theorem ex_lcS {σs : Type} {wi : TI} {g : TG} {ws : List Nat} {mx : Option δ} {xs : δ → List α} {S : α → SP} {e' : δ → En} {eL : δ → σs → En} {eX : δ → α → σs → En} {T : Ty β} {s0 : δ → σs} {f : δ → α → σs → Option (β × σs)} (hi : IXE E env wi mx xs S e') (h0 : ∀ c, Fgt (e' c) (eL c (s0 c)))
    (hw : ∀ c s, NoW (eL c s) ws) (hg : ∀ c x s, AC E (eL c s) ws g (S x) (eX c x s)) (hX : ∀ c x s, Fgt (eX c x s) (eL c s)) (he : ∀ c x s, EX E (eX c x s) te (f c x s) (fun r => val T r.1) (fun r => eX c x r.2)) :
    EX E env (tLc wi g tYes te ws) (mx.bind fun c => grd ((xs c).length ≤ 16777216) ((mapS (xs c) (s0 c) (f c)).map fun r => (r, c))) (fun r => own T r.1.1) fun r => eL r.2 r.1.2 := by
  intro st vs σ H Q rr gg hm hq
  obtain ⟨c, ec, hm⟩ := Option.bind_eq_some_iff.mp hm
  obtain ⟨hlen, hm⟩ := grd_some hm
  obtain ⟨⟨zs, sE⟩, em, rfl⟩ := Option.map_eq_some_iff.mp hm
  refine hi st vs σ H _ c gg ec fun J Z v H1 wk g1 => ?_
  obtain ⟨F1, w1, g1⟩ := g1.fgt (h0 c)
  intro D hD
  have g0 : G E (eL c (s0 c)) (own T [] :: Z :: st) σ (.ref D :: v :: vs) (upd H1 D (.lst [])) := ⟨F1, _, g1.pushO hD ⟨D, [], rfl, trivial, fun b => Iff.rfl, upd_same, .nil⟩⟩
  refine ⟨fun i m H' => m = (xs c).length - i ∧ ∃ acc ys s, G E (eL c s) (own T acc :: Z :: st) σ (.ref D :: v :: vs) H' ∧ acc.length ≤ i ∧ mapS ((xs c).drop i) s (f c) = some (ys, sE) ∧ acc ++ ys = zs, ⟨_, rfl, [], zs, s0 c, g0, Nat.le_refl _, by simpa using em, rfl⟩, ?_⟩
  rintro i m H' ⟨rfl, acc, ys, s, g2, hacc, e, ez⟩
  obtain ⟨k1, k2⟩ := wk E (eL c s) [own T acc] st σ [.ref D] vs H' i rfl g2
  cases hd : (xs c).drop i with
  | nil =>
    rw [hd] at e
    cases e
    rw [List.append_nil] at ez
    subst ez
    exact .inl ⟨k2 (drop_nil hd), hq _ _ g2.nip⟩
  | cons x r =>
    rw [hd] at e
    obtain ⟨d1, d2⟩ := drop_cons hd
    have hlt : i < (xs c).length := (List.getElem?_eq_some_iff.mp d1).1
    obtain ⟨k3, k4⟩ := k1 x d1
    obtain ⟨⟨y, s'⟩, ey, e⟩ := Option.bind_eq_some_iff.mp (show ((f c x s).bind fun y => (mapS r y.2 (f c)).bind fun ys => some (y.1 :: ys.1, ys.2)) = some (ys, sE) from e)
    obtain ⟨⟨ys', sE'⟩, ey', e⟩ := Option.bind_eq_some_iff.mp e
    have e3 : y :: ys' = ys ∧ sE' = sE := by
      have := Option.some.inj e
      exact ⟨congrArg Prod.fst this, congrArg Prod.snd this⟩
    obtain ⟨e3, e4⟩ := e3
    subst e4
    refine .inr ⟨k3, fun H'' => ∃ m', m' < (xs c).length - i ∧ m' = (xs c).length - (i + 1) ∧ ∃ acc ys s, G E (eL c s) (own T acc :: Z :: st) σ (.ref D :: v :: vs) H'' ∧ acc.length ≤ i + 1 ∧ mapS ((xs c).drop (i + 1)) s (f c) = some (ys, sE') ∧ acc ++ ys = zs, fun H'' ⟨m', h1, h2, h3⟩ => ⟨m', h1, h2, h3⟩, fun xv H'' hy => ?_⟩
    have g3 := k4 xv H'' hy
    refine hg c x s _ _ _ H'' _ xv ((G.wiped (hw c s)).mp g3) fun σ2 H2 hσ g4 => ⟨by rw [hσ, wipe_wipe fun i hi => hi], ?_⟩
    have back : ∀ {st' : List SP} {vs' : List V} {H' : Hp} {s : σs}, G E (eX c x s) st' σ2 vs' H' → G E (eL c s) st' σ vs' H' := fun {st' vs' H' s} g => (G.wiped (hw c s)).mpr (by
      have z := (G.wiped (hw c s)).mp (g.fgt (hX c x s))
      rw [hσ, wipe_wipe fun i hi => hi] at z
      exact z)
    show te σ2 H2 _
    refine he c x s _ _ σ2 H2 _ (y, s') g4 ey fun yv H4 g6 => ?_
    obtain ⟨F6, w6, g6⟩ := back g6
    have hy := g6.top
    obtain ⟨a, us, ea, hf, ho, hh, p⟩ := g6.pop.st.1
    cases ea
    refine ⟨us, hh, by rw [p.length, sizeLine_eq]; omega, ?_⟩
    have wD : w6 D = some (.s (Z :: st).length) := (ho D).mpr rfl
    obtain ⟨q1, q2, q3⟩ := g6.own D _ wD
    have u := Ext.chg (o := .lst (us ++ [yv])) g6.ext.s q1
    refine ⟨_, by omega, rfl, acc ++ [y], ys', s', ⟨F6, w6, g6.step u (fun b hb => ⟨.s (Z :: st).length, by rw [hb]; exact wD⟩) (fun b l e => .inl ⟨l, e⟩) (g6.env.step u fun k S _ b => ⟨Iff.rfl, fun e => ⟨fun z => ?_, (g6.own b _ e).2.1⟩⟩) ⟨⟨D, us ++ [yv], rfl, hf, ho, upd_same, Paired.snoc p hy⟩, ?_⟩⟩, by simp; omega, by rw [d2]; exact ey', by rw [← ez, ← e3]; simp⟩
    · rw [z, wD] at e; cases e
    · exact g6.pop.pop.st.step u fun k hk b => ⟨Iff.rfl, fun e => ⟨fun z => by rw [z, wD] at e; injection e with e; injection e with e; have e2 : (Z :: st).length = k := e; have hk2 : k < (Z :: st).length := hk; omega, (g6.own b _ e).2.1⟩⟩
theorem all1 {α : Type} {P : α → Prop} {x : α} (h : P x) : ∀ y ∈ [x], P y := fun y hy => by
  have : y = x := by simpa using hy
  rw [this]; exact h
theorem all2 {α : Type} {P : α → Prop} {x z : α} (h : P x) (k : P z) : ∀ y ∈ [x, z], P y := fun y hy => by
  have : y = x ∨ y = z := by simpa using hy
  rcases this with e | e
  · rw [e]; exact h
  · rw [e]; exact k
/-- what was bound is the call's -/
theorem of_out {ρ δ : Type} {m : Option ρ} {out : ρ → δ} {res : δ → ρ} {c : δ} (h : (m.bind fun r => some (out r)) = some c) (hr : ∀ r, res (out r) = r) : m = some (res c) := by
  obtain ⟨r, e, hc⟩ := Option.bind_eq_some_iff.mp h
  cases hc
  rw [hr]; exact e
/-- x.append(e), e with changes -/
theorem ex_appendE {K : PySem.W.Frag} {φ : V → Prop} {T : Ty α} {xs : List α} {i : Nat} {m : Option δ} {Sx : δ → α} {e1 : δ → En} (h : env[i]? = some (some (muL φ T xs))) (h1 : ∀ x, (e1 x)[i]? = some (some (muL φ T xs))) (he : EX E env te m (fun x => val T (Sx x)) e1) :
    EX E env (tBM K "list" rAppend (tVar i) (tCons te tNil)) (m.bind fun x => grd (xs.length < 16777216) (some (x, xs ++ [Sx x]))) (fun _ => val tNon ()) fun p => (e1 p.1).set i (some (muL φ T p.2)) := by
  intro st vs σ H Q c gg hm hq
  obtain ⟨x, ex, hm⟩ := Option.bind_eq_some_iff.mp hm
  obtain ⟨hlen, hm⟩ := grd_some hm
  cases hm
  obtain ⟨F, w, g⟩ := id gg
  obtain ⟨a, us, q1, hh, p, _⟩ := g.mutE h
  refine ⟨_, q1, tyV_lst hh, he st vs σ H _ x gg ex fun v H2 ⟨F2, w2, g2⟩ => ?_⟩
  obtain ⟨a', us2, q2, hh2, p2, k⟩ := g2.pop.mutE (h1 x)
  rw [q1] at q2
  cases q2
  refine ⟨a, us2, v, rfl, rfl, hh2, by rw [p2.length, sizeLine_eq]; exact hlen, hq _ _ ⟨F2, w2, (k (us2 ++ [v]) (xs ++ [Sx x]) (Paired.snoc p2 g2.top)).pushV (T := tNon) rfl⟩⟩
theorem ex_out {m : Option δ} {S : δ → SP} {e1 : δ → En} {S2 : τ → SP} {e2 : τ → En} (out : δ → τ) (h : EX E env te m S e1) (hS : ∀ a, S2 (out a) = S a := by intros; rfl) (he : ∀ a, e2 (out a) = e1 a := by intros; rfl) : EX E env te (m.map out) S2 e2 := by
  intro st vs σ H Q x g hm hq
  obtain ⟨a, ea, rfl⟩ := Option.map_eq_some_iff.mp hm
  exact h st vs σ H Q a g ea fun v H' g' => hq v H' (by rw [hS, he]; exact g')
theorem ex_fgt {m : Option δ} {S : δ → SP} {e1 e2 : δ → En} (h : EX E env te m S e1) (hf : ∀ a, Fgt (e1 a) (e2 a)) : EX E env te m S e2 := fun st vs σ H Q x g hm hq => h st vs σ H Q x g hm fun v H' g' => hq v H' (g'.fgt (hf x))
end
end ML

set_option Elab.async false
set_option linter.all false
set_option maxRecDepth 100000
set_option maxHeartbeats 2000000
/-! ML: instances -/
namespace ML
open PySem PySem.Spec PyProof.Rows L2
/-- fields, each with what it owns -/
def FsOk (F H : Hp) : (Addr → Prop) → List (Str × SP) → List (Str × V) → Prop
  | _, [], [] => True
  | o, (n, S) :: fs, (m, v) :: ws => n = m ∧ ∃ o1 o2 : Addr → Prop, (∀ b, o1 b → o b) ∧ (∀ b, o2 b → o b) ∧ (∀ b, o1 b → ¬ o2 b) ∧ S.ok F H o1 v ∧ FsOk F H o2 fs ws
  | _, _, _ => False
theorem FsOk.mono {F F' H H' : Hp} (s : Same F F') : ∀ {fs : List (Str × SP)} {ws : List (Str × V)} {o : Addr → Prop}, (∀ b, o b → H' b = H b) → FsOk F H o fs ws → FsOk F' H' o fs ws
  | [], [], _, _, _ => trivial
  | (n, S) :: fs, (m, v) :: ws, o, k, ⟨e, o1, o2, h1, h2, h3, h4, h5⟩ => ⟨e, o1, o2, h1, h2, h3, S.mono h4 s fun b hb => k b (h1 b hb), FsOk.mono s (fun b hb => k b (h2 b hb)) h5⟩
  | [], _ :: _, _, _, h => h.elim
  | _ :: _, [], _, _, h => h.elim
theorem FsOk.sub {F H : Hp} : ∀ {fs : List (Str × SP)} {ws : List (Str × V)} {o o' : Addr → Prop}, (∀ b, o b → o' b) → FsOk F H o fs ws → FsOk F H o' fs ws
  | [], [], _, _, _, _ => trivial
  | (n, S) :: fs, (m, v) :: ws, o, o', k, ⟨e, o1, o2, h1, h2, h3, h4, h5⟩ => ⟨e, o1, o2, fun b hb => k b (h1 b hb), fun b hb => k b (h2 b hb), h3, h4, h5⟩
  | [], _ :: _, _, _, _, h => h.elim
  | _ :: _, [], _, _, _, h => h.elim
theorem FsOk.look {F H : Hp} {n : Str} {S : SP} : ∀ {fs : List (Str × SP)} {ws : List (Str × V)} {o : Addr → Prop}, FsOk F H o fs ws → fs.lookup n = some S → ∃ v o1, ws.lookup n = some v ∧ (∀ b, o1 b → o b) ∧ S.ok F H o1 v
  | [], [], _, _, e => by cases e
  | (k, T) :: fs, (m, v) :: ws, o, ⟨e, o1, o2, h1, h2, h3, h4, h5⟩, h => by
    subst e
    by_cases hk : n = k
    · subst hk
      simp only [List.lookup, beq_self_eq_true] at h
      cases h
      exact ⟨v, o1, by simp [List.lookup], h1, h4⟩
    · have hb : (n == k) = false := beq_eq_false_iff_ne.mpr hk
      simp only [List.lookup, hb] at h
      obtain ⟨u, p, e1, e2, e3⟩ := FsOk.look h5 h
      exact ⟨u, p, by simp [List.lookup, hb, e1], fun b hb => h2 b (e2 b hb), e3⟩
  | [], _ :: _, _, h, _ => h.elim
  | _ :: _, [], _, h, _ => h.elim
theorem FsOk.len {F H : Hp} : ∀ {fs : List (Str × SP)} {ws : List (Str × V)} {o : Addr → Prop}, FsOk F H o fs ws → fs.length = ws.length
  | [], [], _, _ => rfl
  | _ :: fs, _ :: ws, _, ⟨_, _, _, _, _, _, _, h⟩ => by simp [FsOk.len h]
  | [], _ :: _, _, h => h.elim
  | _ :: _, [], _, h => h.elim
/-- a field stored -/
def putS (n : Str) (S : SP) : List (Str × SP) → List (Str × SP)
  | [] => [(n, S)]
  | (k, T) :: fs => if k = n then (k, S) :: fs else (k, T) :: putS n S fs
theorem FsOk.put {F H : Hp} {n : Str} {S : SP} {v : V} {oN : Addr → Prop} (hS : S.ok F H oN v) : ∀ {fs : List (Str × SP)} {ws : List (Str × V)} {o : Addr → Prop}, (∀ b, oN b → ¬ o b) → FsOk F H o fs ws → FsOk F H (fun b => o b ∨ oN b) (putS n S fs) (putF n v ws)
  | [], [], o, k, _ => ⟨rfl, oN, fun _ => False, fun b hb => .inr hb, fun b hb => hb.elim, fun b _ z => z, hS, trivial⟩
  | (m, T) :: fs, (m', u) :: ws, o, k, ⟨e, o1, o2, h1, h2, h3, h4, h5⟩ => by
    subst e
    unfold putS putF
    by_cases hm : m = n
    · rw [if_pos hm, if_pos hm]
      exact ⟨rfl, oN, o2, fun b hb => .inr hb, fun b hb => .inl (h2 b hb), fun b hb z => k b hb (h2 b z), hS, h5⟩
    · rw [if_neg hm, if_neg hm]
      refine ⟨rfl, o1, fun b => o2 b ∨ oN b, fun b hb => .inl (h1 b hb), fun b hb => hb.elim (fun z => .inl (h2 b z)) .inr, fun b hb z => ?_, h4, FsOk.put hS (fun b hb z => k b hb (h2 b z)) h5⟩
      rcases z with z | z
      · exact h3 b hb z
      · exact k b z (h1 b hb)
  | [], _ :: _, _, _, h => h.elim
  | _ :: _, [], _, _, h => h.elim
/-- an instance of one's own -/
def ob (φ : V → Prop) (C : Addr) (fs : List (Str × SP)) : SP := ⟨fun F H o v => ∃ (a dx : Addr) (ws : List (Str × V)) (o' : Addr → Prop), v = .ref a ∧ φ v ∧ a ≠ dx ∧ H a = some (.ins C dx ws) ∧ H dx = some (.own a) ∧ FsOk F H o' fs ws ∧ ¬ o' a ∧ ¬ o' dx ∧ o a ∧ o dx ∧ ∀ b, o' b → o b,
  fun {F F' H H' o v} ⟨a, dx, ws, o', e, f, n, h1, h2, h3, h4, h5, h6, h7, h8⟩ s k => ⟨a, dx, ws, o', e, f, n, (k a h6).trans h1, (k dx h7).trans h2, h3.mono s fun b hb => k b (h8 b hb), h4, h5, h6, h7, h8⟩⟩
theorem pin_ob {C : Addr} {fs : List (Str × SP)} {p : Addr} : Pin (ob (pinV p) C fs) (.ref p) := fun F H o u ⟨_, _, _, _, _, f, _⟩ => f
theorem pn_ob {φ : V → Prop} {C : Addr} {fs : List (Str × SP)} : Pn (ob φ C fs) (fun p => ob (pinV p) C fs) := fun F H o u ⟨a, dx, ws, o', e, f, r⟩ => ⟨a, a, dx, ws, o', e, e, r⟩
theorem unpin_ob {φ : V → Prop} {C : Addr} {fs : List (Str × SP)} : ∀ F H o v, (ob φ C fs).ok F H o v → (ob yes C fs).ok F H o v := fun F H o u ⟨a, dx, ws, o', e, f, r⟩ => ⟨a, dx, ws, o', e, trivial, r⟩
section
variable {α β γ δ ρ τ : Type} {E : Ent} {env env' : En} {te ta tb tc ti : TE} {tt tu : TT} {u t t1 t2 : TS} {post : Post γ}
/-- x.f, x a name that holds an own instance -/
theorem ev_fld {K : PySem.W.Frag} {φ : V → Prop} {C : Addr} {fs : List (Str × SP)} {i : Nat} {n : Str} {T : Ty α} {x : α} (h : env[i]? = some (some (ob φ C fs))) (c : Cls K C) (na : NoAttr K C n) (hl : fs.lookup n = some (val T x)) : EV E env (tFld K (tVar i) n) (some x) (val T) := by
  intro st vs σ H Q y ⟨F, w, g⟩ hm hq
  cases hm
  obtain ⟨v, e1, a, dx, ws, o', rfl, f, nd, h1, h2, h3, _⟩ := g.env.2 i _ h
  obtain ⟨v, o1, l1, _, l3⟩ := h3.look hl
  exact ⟨_, e1, a, C, dx, ws, v, rfl, h1, c, na, l1, hq v H ⟨F, w, g.pushV l3⟩⟩
/-- x.f = e -/
theorem bk_fld {K : PySem.W.Frag} {φ : V → Prop} {C : Addr} {fs : List (Str × SP)} {i : Nat} {n : Str} {m : Option α} {S : α → SP} {e1 : α → En} {k : α → Option γ} (h : ∀ x, (e1 x)[i]? = some (some (ob φ C fs))) (c : Cls K C) (na : NoAttr K C n) (hlen : fs.length < 1000) (he : EX E env te m S e1)
    (hk : ∀ x, BK E ((e1 x).set i (some (ob φ C (putS n (S x) fs)))) u (k x) post) : BK E env (tSeq (sFld K (tVar i) te n) u) (m.bind k) post := by
  classical
  intro st vs σ H D y gg hm hq
  obtain ⟨x, ex, hm⟩ := Option.bind_eq_some_iff.mp hm
  refine he st vs σ H _ x gg ex fun v H1 ⟨F, w, g⟩ => ?_
  obtain ⟨u', e1', a, dx, ws, o', rfl, f, nd, h1, h2, h3, h4, h5, h6, h7, h8⟩ := g.env.2 i _ (h x)
  have hi : i < (e1 x).length := (List.getElem?_eq_some_iff.mp (h x)).1
  refine ⟨_, e1', a, C, dx, ws, rfl, h1, c, na, by rw [← h3.len]; exact hlen, ?_⟩
  have wa : w a = some (.e i) := h6
  have wd : w dx = some (.e i) := h7
  obtain ⟨q1, q2, q3⟩ := g.own a _ wa
  have u2 := Ext.chg (o := .ins C dx (putF n v ws)) g.ext.s q1
  let w' : Ow := fun b => if w b = some (.s st.length) then some (.e i) else w b
  have w'1 : ∀ b, w' b = some (.e i) ↔ (w b = some (.e i) ∨ w b = some (.s st.length)) := fun b => by
    show (if w b = some (.s st.length) then some (Lb.e i) else w b) = some (.e i) ↔ _
    by_cases hb : w b = some (.s st.length)
    · simp [hb]
    · simp [hb]
  have w'2 : ∀ l, l ≠ .e i → l ≠ .s st.length → ∀ b, w' b = some l ↔ w b = some l := fun l n1 n2 b => by
    show (if w b = some (.s st.length) then some (Lb.e i) else w b) = some l ↔ _
    by_cases hb : w b = some (.s st.length)
    · rw [if_pos hb, hb]
      exact ⟨fun z => absurd (Option.some.inj z).symm n1, fun z => absurd (Option.some.inj z).symm n2⟩
    · rw [if_neg hb]
  have an : ∀ b, w b = some (.s st.length) → b ≠ a := fun b hb z => by
    rw [z, wa] at hb; cases hb
  have oN : ∀ b, w.of (.s st.length) b → ¬ o' b := fun b hb z => by
    have z2 : w b = some (.e i) := h8 b z
    have z3 : w b = some (.s st.length) := hb
    rw [z3] at z2
    cases z2
  have hS : (S x).ok F (upd H1 a (.ins C dx (putF n v ws))) (w.of (.s st.length)) v := (S x).mono g.st.1 (Same.refl F) fun b hb => upd_ne (an b hb)
  refine hk x st vs σ _ D y ⟨F, w', g.step u2 (fun b hb => ⟨.e i, by rw [hb]; exact wa⟩) (fun b l e => .inl ?_) ⟨by simpa using g.env.1, fun j S' e => ?_⟩ (g.st.2.step u2 fun k' hk' b => ⟨w'2 _ (by intro z; cases z) (by intro z; injection z with z; omega) b, fun e => ⟨fun z => (by rw [z, wa] at e; cases e), (g.own b _ e).2.1⟩⟩)⟩ hm hq
  · by_cases hb : w b = some (.s st.length)
    · exact ⟨_, hb⟩
    · have e' : (if w b = some (.s st.length) then some (Lb.e i) else w b) = some l := e
      rw [if_neg hb] at e'
      exact ⟨_, e'⟩
  · by_cases hj : i = j
    · subst hj
      rw [List.getElem?_set_self hi] at e
      cases e
      refine ⟨_, e1', a, dx, putF n v ws, fun b => o' b ∨ w.of (.s st.length) b, rfl, f, nd, upd_same, by rw [upd_ne (fun z => nd z.symm)]; exact h2, FsOk.put hS oN (h3.mono (Same.refl F) fun b hb => upd_ne fun z => h4 (by rw [← z]; exact hb)), ?_, ?_, (w'1 a).mpr (.inl wa), (w'1 dx).mpr (.inl wd), fun b hb => (w'1 b).mpr ?_⟩
      · rintro (z | z)
        · exact h4 z
        · exact an a z rfl
      · rintro (z | z)
        · exact h5 z
        · rw [show w dx = some (.s st.length) from z] at wd; cases wd
      · rcases hb with z | z
        · exact .inl (h8 b z)
        · exact .inr z
    · rw [List.getElem?_set_ne hj] at e
      obtain ⟨v', e2, e3⟩ := g.env.2 j S' e
      refine ⟨v', e2, SP.step u2 e3 (fun b => w'2 _ (by intro z; injection z with z; exact hj z.symm) (by intro z; cases z) b) fun b eb => ⟨fun z => ?_, (g.own b _ eb).2.1⟩⟩
      rw [z, wa] at eb
      cases eb
      exact hj rfl
end
end ML

set_option Elab.async false
set_option linter.all false
set_option maxRecDepth 100000
set_option maxHeartbeats 2000000
/-! ML: procedures, making instances -/
namespace ML
open PySem PySem.Spec PyProof.Rows L2
section
variable {α β γ δ ρ τ : Type} {E : Ent} {env env' : En} {te ta tb tc ti : TE} {tt tu : TT} {u t t1 t2 : TS} {post : Post γ}
/-- a body that may fall off its end -/
def pP (E : Ent) (eR : ρ → En) : Post ρ := fun r st vs D => (∀ σ' H', G E (eR r) st σ' vs H' → D.nx σ' H') ∧ ∀ v σ' H', G E (eR r) (val tNon () :: st) σ' (v :: vs) H' → D.rt v H'
theorem bp_nx {r : ρ} {eR : ρ → En} (h : Fgt env (eR r)) : BK E env tNext (some r) (pP E eR) := by
  intro st vs σ H D g gg hm hq
  cases hm
  exact hq.1 σ H (gg.fgt h)
theorem emb_P {eR : ρ → En} : Emb E (pP E eR) (fun _ => val tNon ()) eR id := fun _ _ _ _ h => h.2
theorem run_P {A : Type} {As : A → List SP} {f : A → Option ρ} {Bs : A → ρ → List (Option SP)} {N : List Str} {vs : List V} {H : Hp} {Q : VK} {X : XK} {D : Ends} (h : spG As f (fun _ _ => val tNon ()) Bs vs H Q X) (hn : ∀ a, (As a).length ≤ N.length) (hD : D.rt = Q) (hN : D.nx = fun _ H' => Q .non H')
    (hp : ∀ (a : A) (r : ρ) (k : Nat) (S : SP), (Bs a r)[k]? = some (some S) → ∃ (v : V) (S0 : SP), Pin S v ∧ (As a)[k]? = some S0 ∧ Pin S0 v)
    (hb : ∀ (a : A) (E : Ent), BK E (enterS N.length (As a)) t (f a) (pP E (Bs a))) : t D (L2.start N vs) H := by
  obtain ⟨a, r, F, w, p, hf, q⟩ := h
  have g : GG ⟨F, H, fun a => w a ≠ none⟩ (enterS N.length (As a)) [] (L2.start N vs) [] H F w := by
    refine ⟨ExtE.refl p.s, ⟨by simp [enterS, L2.start, p.len], fun i S e => ?_⟩, trivial, fun b l e => ⟨(p.own b l e).1, (p.own b l e).2, .inr (by show w b ≠ none; rw [e]; intro z; cases z)⟩⟩
    unfold enterS at e
    by_cases hi : i < (As a).length
    · rw [List.getElem?_append_left (by simpa using hi)] at e
      rw [List.getElem?_map] at e
      obtain ⟨S', e1, e2⟩ := Option.map_eq_some_iff.mp e
      cases e2
      obtain ⟨v, e3, e4⟩ := p.ok i S e1
      refine ⟨v, ?_, e4⟩
      unfold L2.start
      rw [List.getElem?_append_left (by simp; rw [← p.len]; exact hi), List.getElem?_map, e3]
      rfl
    · rw [List.getElem?_append_right (by simp; omega)] at e
      have := List.mem_of_getElem? e
      simp at this
  have fin : ∀ v σ' H', G ⟨F, H, fun a => w a ≠ none⟩ (Bs a r) [val tNon ()] σ' [v] H' → Q v H' := fun v σ' H' ⟨F', w', g'⟩ => by
    refine q v F' H' w' ⟨g'.ext, g'.st.1, fun k S e => ?_, fun b l e => g'.own b l e⟩
    obtain ⟨u, e1, e2⟩ := g'.env.2 k S e
    obtain ⟨v0, S0, p1, p2, p3⟩ := hp a r k S e
    obtain ⟨v1, e3, e4⟩ := p.ok k S0 p2
    have := p1 _ _ _ _ e2
    have := p3 _ _ _ _ e4
    subst_vars
    exact ⟨_, e3, e2⟩
  refine hb a _ [] [] (L2.start N vs) H D r ⟨F, _, g⟩ hf ⟨fun σ' H' ⟨F', w', g'⟩ => ?_, fun v σ' H' g' => ?_⟩
  · rw [hN]
    exact fin .non σ' H' ⟨F', w', g'.pushV (T := tNon) rfl⟩
  · rw [hD]
    exact fin v σ' H' g'
/-! ### C(..) -/
theorem ex_make {A : Type} {As : A → List SP} {f : A → Option ρ} {Bs : A → ρ → List (Option SP)} {X : XK} {tA : TA} {m : Option ρ} {dvs : List V} {C : Addr} {S : ρ → SP} (src : List Src) (n : Nat) (hsel : ∀ us : List V, us.length = n → us ++ dvs = src.map (Src.sel us))
    (ha : AX E env tA [] m fun c Ss => Ss.length = n ∧ ∀ p : Addr, ∃ (a : A) (As' : List SP) (S1 : SP), f a = some c ∧ As a = ob (pinV p) C [] :: As' ∧ MtOk Ss.reverse [] 1 src As' ∧ (Bs a c)[0]? = some (some S1) ∧ ∀ F H o v, S1.ok F H o v → (S c).ok F H o v) :
    EX E env (tMake C (spG As f (fun _ _ => val tNon ()) Bs) dvs X tA) m S fun _ => env := by
  classical
  intro st vs σ H Q c gg hm hq
  refine ha st vs [] σ H _ c gg rfl hm fun us H1 Ss ⟨hn, hA⟩ hl ⟨F, w, g⟩ => ?_
  rw [List.append_nil] at g
  rw [List.nil_append] at hl
  intro x dx nx nd hne
  obtain ⟨a, As', S1, hf, hAs, hmt, hB, hS⟩ := hA x
  have hs : ∀ (j : Nat) (q : VP), Ss.reverse[j]? = some q.sp → ∃ v, us[j]? = some v ∧ q.p F v := fun j q e => by
    obtain ⟨v, e1, e2⟩ := stok_at g.st (by simp; omega) j q e
    exact ⟨v, by simpa using e1, e2⟩
  obtain ⟨l, mt⟩ := mt_at (F := F) hs hmt
  have g0 : GG E env st σ vs H1 F w := g.drop (by simp; omega)
  have fx : F x = none := by
    cases q : F x with
    | none => rfl
    | some o => have := g0.ext.s x o q; rw [nx] at this; cases this
  have fd : F dx = none := by
    cases q : F dx with
    | none => rfl
    | some o => have := g0.ext.s dx o q; rw [nd] at this; cases this
  let H2 : Hp := upd (upd H1 dx (.own x)) x (.ins C dx [])
  have hx2 : H2 x = some (.ins C dx []) := upd_same
  have hd2 : H2 dx = some (.own x) := by
    show upd (upd H1 dx (.own x)) x (.ins C dx []) dx = _
    rw [upd_ne hne, upd_same]
  have ho2 : ∀ b, b ≠ x → b ≠ dx → H2 b = H1 b := fun b h1 h2 => by
    show upd (upd H1 dx (.own x)) x (.ins C dx []) b = _
    rw [upd_ne h1, upd_ne h2]
  have s2 : Same F H2 := fun b o e => by
    rw [ho2 b (fun z => by rw [z, fx] at e; cases e) (fun z => by rw [z, fd] at e; cases e)]
    exact g0.ext.s b o e
  let wc : Ow := fun b => if b = x ∨ b = dx then some (.e 0) else none
  have wc_e : ∀ b, wc b = some (.e 0) ↔ b = x ∨ b = dx := fun b => by
    show (if b = x ∨ b = dx then some (Lb.e 0) else none) = some (.e 0) ↔ _
    by_cases h : b = x ∨ b = dx <;> simp [h]
  have wc_n : ∀ b, wc b ≠ none ↔ b = x ∨ b = dx := fun b => by
    show (if b = x ∨ b = dx then some (Lb.e 0) else none) ≠ none ↔ _
    by_cases h : b = x ∨ b = dx <;> simp [h]
  show spG As f (fun _ _ => val tNon ()) Bs (V.ref x :: (us ++ dvs)) H2 (fun v H3 => v = .non ∧ Q (.ref x) H3) X
  rw [hsel us (by omega)]
  refine ⟨a, c, F, wc, ⟨s2, by rw [hAs]; simp [l], fun k S e => ?_, fun b lb e => ?_⟩, hf, fun v F' H' w' z => ⟨z.ret, ?_⟩⟩
  · rw [hAs] at e
    cases k with
    | zero =>
      have e' : ob (pinV x) C [] = S := by simpa using e
      subst e'
      exact ⟨.ref x, rfl, x, dx, [], fun _ => False, rfl, rfl, fun z => hne z.symm, hx2, hd2, trivial, fun z => z, fun z => z, (wc_e x).mpr (.inl rfl), (wc_e dx).mpr (.inr rfl), fun b z => z.elim⟩
    | succ k =>
      rcases mt k S (by simpa using e) with ⟨q, v, rfl, e1, e2⟩ | ⟨n, hn, _⟩
      · exact ⟨v, by simpa using e1, e2⟩
      · cases hn
  · have hb := (wc_n b).mp (some_ne e)
    rcases hb with rfl | rfl
    · exact ⟨fx, some_ne hx2⟩
    · exact ⟨fd, some_ne hd2⟩
  · obtain ⟨u, e1, e2⟩ := z.ok 0 S1 hB
    have e3 : V.ref x = u := by simpa using e1
    subst e3
    have old : ∀ b, H1 b ≠ none → wc b = none := fun b hb => by
      cases q : wc b with
      | none => rfl
      | some lb =>
        rcases (wc_n b).mp (some_ne q) with rfl | rfl
        · exact absurd nx hb
        · exact absurd nd hb
    have u1 : Ext F H1 (fun _ => False) F' H' := ⟨z.ext.f, z.ext.s, fun b o _ e => z.ext.h b o (fun y => y (old b (some_ne e))) (by
      rw [ho2 b (fun y => by rw [y, nx] at e; cases e) (fun y => by rw [y, nd] at e; cases e)]; exact e), fun b hb => z.ext.n b (fun y => y (old b hb)) (by
      rw [ho2 b (fun y => by rw [y, nx] at hb; exact hb rfl) (fun y => by rw [y, nd] at hb; exact hb rfl)]; exact hb), fun b hb => by
      have := z.ext.t b hb
      by_cases hx : b = x
      · rw [hx, hx2] at this; cases this
      · by_cases hd : b = dx
        · rw [hd, hd2] at this; cases this
        · rw [ho2 b hx hd] at this; exact this⟩
    refine hq (.ref x) H' ⟨F', _, (g0.grow u1).addTop (N := w'.of (.e 0)) (fun b hb => ?_) (hS _ _ _ _ e2)⟩
    obtain ⟨y1, y2, y3⟩ := z.own b _ hb
    have hn : H1 b = none := by
      rcases y3 with y | y
      · by_cases hx : b = x
        · rw [hx]; exact nx
        · by_cases hd : b = dx
          · rw [hd]; exact nd
          · rw [ho2 b hx hd] at y; exact y
      · rcases (wc_n b).mp y with rfl | rfl
        · exact nx
        · exact nd
    refine ⟨?_, y1, y2, g0.ext.t b hn⟩
    cases q : w b with
    | none => rfl
    | some lb => exact absurd hn (g0.own b lb q).2.1
end
end ML

set_option Elab.async false
set_option linter.all false
set_option maxRecDepth 100000
set_option maxHeartbeats 2000000
/-! ML: methods -/
namespace ML
open PySem PySem.Spec PyProof.Rows L2
theorem FsOk.lookN {F H : Hp} {n : Str} : ∀ {fs : List (Str × SP)} {ws : List (Str × V)} {o : Addr → Prop}, FsOk F H o fs ws → fs.lookup n = none → ws.lookup n = none
  | [], [], _, _, _ => rfl
  | (k, T) :: fs, (m, v) :: ws, o, ⟨e, o1, o2, h1, h2, h3, h4, h5⟩, h => by
    subst e
    by_cases hk : n = k
    · subst hk
      simp [List.lookup] at h
    · have hb : (n == k) = false := beq_eq_false_iff_ne.mpr hk
      simp only [List.lookup, hb] at h ⊢
      exact FsOk.lookN h5 h
  | [], _ :: _, _, h, _ => h.elim
  | _ :: _, [], _, h, _ => h.elim
section
variable {α β γ δ ρ τ : Type} {E : Ent} {env env' : En} {te ta tb tc ti : TE} {tt tu : TT} {u t t1 t2 : TS} {post : Post γ}
/-- x.m(e, ..), x a name that holds an own instance -/
theorem ex_methG {A : Type} {As : A → List SP} {f : A → Option ρ} {R : A → ρ → SP} {Bs : A → ρ → List (Option SP)} {S : ρ → SP} {X : XK} {tA : TA} {m : Option ρ} {dvs : List V} {C p : Addr} {fs : List (Str × SP)} {i : Nat} {mn : Str} (h : env[i]? = some (some (ob (pinV p) C fs))) (hl : fs.lookup mn = none)
    (L : ρ → List Nm) (src : List Src) (n : Nat) (hsel : ∀ us : List V, us.length = n + 1 → us ++ dvs = src.map (Src.sel us)) (hL : ∀ c, LOk env (L c)) (ha : AX E env tA [(isVP (.ref p)).sp] m fun c Ss => Ss.length = n + 1 ∧ ∃ a, GC As f R Bs S (L c) src Ss.reverse c a) :
    EX E env (tMeth C mn (spG As f R Bs) dvs X (tVar i) tA) m S fun c => setL env (L c) := by
  intro st vs σ H Q c gg hm hq
  obtain ⟨F, w, g⟩ := gg
  obtain ⟨u, e1, a, dx, ws, o', rfl, fp, nd, h1, h2, h3, _⟩ := g.env.2 i _ h
  have ea : V.ref a = V.ref p := fp
  injection ea with ea
  subst ea
  refine ⟨_, e1, a, dx, ws, rfl, h1, h3.lookN hl, ?_⟩
  refine ha st vs [V.ref a] σ H _ c ⟨F, w, g.re (fun a l e => ⟨l, e⟩) g.env ⟨rfl, g.st⟩⟩ rfl hm fun us H' Ss ⟨hn, a', gc⟩ hz g2 => ?_
  have hz' : us.length = n := by simp at hz; omega
  show spG As f R Bs ((V.ref a :: us) ++ dvs) H' Q X
  rw [hsel (V.ref a :: us) (by simp [hz'])]
  refine gc_call (us := V.ref a :: us) gc (hL c) (by simp; omega) ?_ fun v H2 g3 => hq v H2 g3
  simpa using g2
end
end ML

set_option Elab.async false
set_option linter.all false
set_option maxRecDepth 100000
set_option maxHeartbeats 2000000
/-! NL: readings by plain functions that may stop, or end in an error -/
namespace NL
open PySem PySem.Spec PyProof.Rows L2 ML

inductive R (ε α : Type) where
  | ok (a : α) | er (e : ε) | no
def R.bind {ε α β : Type} (m : R ε α) (k : α → R ε β) : R ε β := match m with
  | .ok a => k a
  | .er e => .er e
  | .no => .no
def R.of {ε α : Type} : Option α → R ε α
  | some a => .ok a
  | none => .no
def R.mapE {ε ε' α : Type} (f : ε → ε') : R ε α → R ε' α
  | .ok a => .ok a
  | .er e => .er (f e)
  | .no => .no
@[simp] theorem R.bind_ok {ε α β : Type} (a : α) (k : α → R ε β) : (R.ok a).bind k = k a := rfl
@[simp] theorem R.bind_er {ε α β : Type} (e : ε) (k : α → R ε β) : (R.er e).bind k = .er e := rfl
@[simp] theorem R.bind_no {ε α β : Type} (k : α → R ε β) : (R.no).bind k = .no := rfl
@[simp] theorem R.of_some {ε α : Type} (a : α) : (R.of (some a) : R ε α) = .ok a := rfl
@[simp] theorem R.of_none {ε α : Type} : (R.of none : R ε α) = .no := rfl
@[simp] theorem R.mapE_ok {ε ε' α : Type} (f : ε → ε') (a : α) : R.mapE f (.ok a) = .ok a := rfl
@[simp] theorem R.mapE_er {ε ε' α : Type} (f : ε → ε') (e : ε) : R.mapE f (.er e : R ε α) = .er (f e) := rfl
@[simp] theorem R.mapE_no {ε ε' α : Type} (f : ε → ε') : R.mapE f (.no : R ε α) = .no := rfl
theorem R.bind_assoc {ε α β γ : Type} (m : R ε α) (k : α → R ε β) (l : β → R ε γ) : (m.bind k).bind l = m.bind fun a => (k a).bind l := by cases m <;> rfl
theorem R.bind_ok' {ε α : Type} (m : R ε α) : (m.bind fun a => .ok a) = m := by cases m <;> rfl
def wp {ε α : Type} (m : R ε α) (Q : α → Prop) (X : ε → Prop) : Prop := match m with
  | .ok a => Q a
  | .er e => X e
  | .no => False
theorem wp_bind {ε α β : Type} {m : R ε α} {k : α → R ε β} {Q : β → Prop} {X : ε → Prop} : wp (m.bind k) Q X ↔ wp m (fun a => wp (k a) Q X) X := by cases m <;> exact Iff.rfl
theorem wp_mono {ε α : Type} {m : R ε α} {Q Q' : α → Prop} {X X' : ε → Prop} (h : wp m Q X) (hq : ∀ a, Q a → Q' a) (hx : ∀ e, X e → X' e) : wp m Q' X' := by
  cases m with
  | ok a => exact hq a h
  | er e => exact hx e h
  | no => exact h
theorem wp_of {ε α : Type} {o : Option α} {Q : α → Prop} {X : ε → Prop} (h : wp (R.of o : R ε α) Q X) : ∃ a, o = some a ∧ Q a := by
  cases o with
  | none => exact h.elim
  | some a => exact ⟨a, rfl, h⟩
theorem wp_mapE {ε ε' α : Type} {f : ε → ε'} {m : R ε α} {Q : α → Prop} {X : ε' → Prop} : wp (R.mapE f m) Q X ↔ wp m Q fun e => X (f e) := by cases m <;> exact Iff.rfl
theorem wp_ok {ε α : Type} {m : R ε α} {a : α} {Q : α → Prop} {X : ε → Prop} (h : m = .ok a) : wp m Q X ↔ Q a := by rw [h]; exact Iff.rfl

/-- what is wished of errors: W the layer's wish, ok: how an error lies in a heap, en: the names then -/
structure Xc (ε : Type) where
  W : L2.WX
  ok : ε → Value → Option Addr → Hp → Prop
  en : ε → En
def xcl {ε : Type} (X : Xc ε) (E : Ent) (st : List SP) (vs : List V) (σ : L2.St) (e : ε) : Prop := ∀ (c : Value) (d : Option Addr) (H' F : Hp) (w : Ow), GG E (X.en e) st σ vs H' F w → X.ok e c d F → X.W c d σ H'
theorem xcl_push {ε : Type} {X : Xc ε} {E : Ent} {st : List SP} {vs : List V} {σ : L2.St} {S : SP} {v : V} (e : ε) (h : xcl X E st vs σ e) : xcl X E (S :: st) (v :: vs) σ e := fun c d H' F w g k => h c d H' F w g.pop k
/-- an expression: m its value; S its slot; e' the names behind it -/
def EX {ε α : Type} (X : Xc ε) (E : Ent) (env : En) (te : TE) (m : R ε α) (S : α → SP) (e' : α → En) : Prop :=
  ∀ (st : List SP) (vs : List V) (σ : L2.St) (H : Hp) (Q : VK), G E env st σ vs H → wp m (fun x => ∀ v H', G E (e' x) (S x :: st) σ (v :: vs) H' → Q v H') (xcl X E st vs σ) → te σ H Q
abbrev EV {ε α : Type} (X : Xc ε) (E : Ent) (env : En) (te : TE) (m : R ε α) (S : α → SP) : Prop := EX X E env te m S fun _ => env
/-- a test -/
def TX {ε α : Type} (X : Xc ε) (E : Ent) (env : En) (tt : TT) (m : R ε α) (b : α → Bool) (e' : α → En) : Prop :=
  ∀ (st : List SP) (vs : List V) (σ : L2.St) (H : Hp) (Q : Bool → Hp → Prop), G E env st σ vs H → wp m (fun x => ∀ H', G E (e' x) st σ vs H' → Q (b x) H') (xcl X E st vs σ) → tt σ H Q
abbrev TP {ε : Type} (X : Xc ε) (E : Ent) (env : En) (tt : TT) (m : R ε Bool) : Prop := TX X E env tt m id fun _ => env
/-- an argument list: acc what has come; Pc what is left to be done behind it (m'), the slots, the names -/
def AX {ε δ : Type} (X : Xc ε) (E : Ent) (env : En) (ta : TA) (acc : List SP) (m : R ε δ) (Pc : R ε δ → List SP → En → Prop) : Prop :=
  ∀ (st : List SP) (vs us0 : List V) (σ : L2.St) (H : Hp) (Q : List V → Hp → Prop) (Φ : δ → Prop), G E env (acc ++ st) σ (us0 ++ vs) H → us0.length = acc.length → wp m Φ (xcl X E st vs σ) →
    (∀ us H' Ss e' m', Pc m' Ss e' → Ss.length = (us0 ++ us).length → G E e' (Ss ++ st) σ (us.reverse ++ us0 ++ vs) H' → wp m' Φ (xcl X E st vs σ) → Q us H') → ta σ H Q
/-- positional and keywords -/
def AXK (n : Nat) {ε δ : Type} (X : Xc ε) (E : Ent) (env : En) (t tk : TA) (acc : List SP) (m : R ε δ) (Pc : R ε δ → List SP → En → Prop) : Prop :=
  ∀ (st : List SP) (vs us0 : List V) (σ : L2.St) (H : Hp) (Q : List V → List V → Hp → Prop) (Φ : δ → Prop), G E env (acc ++ st) σ (us0 ++ vs) H → us0.length = acc.length → wp m Φ (xcl X E st vs σ) →
    (∀ us zs H' Ss e' m', us.length = n → Pc m' Ss e' → Ss.length = us0.length + us.length + zs.length → G E e' (Ss ++ st) σ (zs.reverse ++ (us.reverse ++ (us0 ++ vs))) H' → wp m' Φ (xcl X E st vs σ) → Q us zs H') → t σ H fun us H1 => tk σ H1 fun zs H2 => Q us zs H2

section
variable {ε α β γ δ τ : Type} {X : Xc ε} {E : Ent} {env env' : En} {te ta tb tc : TE} {tt tu : TT}
theorem xcl_drop {st : List SP} {vs : List V} {σ : L2.St} : ∀ {acc : List SP} {us0 : List V}, acc.length = us0.length → ∀ e, xcl X E st vs σ e → xcl X E (acc ++ st) (us0 ++ vs) σ e
  | [], [], _, e, h => h
  | _ :: acc, _ :: us, hl, e, h => xcl_push e (xcl_drop (acc := acc) (us0 := us) (by simpa using hl) e h)
  | [], _ :: _, hl, _, _ => by simp at hl
  | _ :: _, [], hl, _, _ => by simp at hl
/-! ### expressions -/
theorem ex_eq {m m' : R ε α} {S : α → SP} {e' : α → En} (h : EX X E env te m S e') (e : m = m') : EX X E env te m' S e' := e ▸ h
theorem ex_var {i : Nat} {T : Ty α} {x : α} (h : env[i]? = some (some (val T x))) : EV X E env (tVar i) (.ok x) (val T) := by
  intro st vs σ H Q g hq
  obtain ⟨F, w, g⟩ := g
  obtain ⟨v, e1, e2⟩ := g.env.2 i _ h
  exact ⟨v, e1, hq v H ⟨F, w, g.pushV e2⟩⟩
theorem ex_varV {i : Nat} {q : VP} (h : env[i]? = some (some q.sp)) : EV X E env (tVar i) (.ok ()) (fun _ => q.sp) := by
  intro st vs σ H Q g hq
  obtain ⟨F, w, g⟩ := g
  obtain ⟨v, e1, e2⟩ := g.env.2 i _ h
  exact ⟨v, e1, hq v H ⟨F, w, g.re (fun a l e => ⟨l, e⟩) g.env ⟨e2, g.st⟩⟩⟩
theorem ex_c {T : Ty α} {x : α} {v : V} (h : ∀ F, T.rp F v x) : EV X E env (tC v) (.ok x) (val T) := by
  intro st vs σ H Q g hq
  obtain ⟨F, w, g⟩ := g
  exact hq v H ⟨F, w, g.pushV (h F)⟩
theorem ex_int {i : Int} : EV X E env (tC (.int i)) (.ok i) (val tInt) := ex_c fun _ => rfl
theorem ex_bl {i : Bool} : EV X E env (tC (.bl i)) (.ok i) (val tBool) := ex_c fun _ => rfl
theorem ex_str {i : Str} : EV X E env (tC (.str i)) (.ok i) (val tStr) := ex_c fun _ => rfl
theorem ex_non : EV X E env (tC .non) (.ok ()) (val tNon) := ex_c fun _ => rfl
theorem ex_none {T : Ty α} : EV X E env (tC .non) (.ok (none : Option α)) (val (tOpt T)) := ex_c fun _ => rfl
theorem ex_ty {n : String} : EV X E env (tC (.ty n)) (.ok n) (val tCls) := ex_c fun _ => rfl
/-- never: the mirror stops -/
theorem ex_no {S : α → SP} {e' : α → En} : EX X E env te .no S e' := fun st vs σ H Q g hm => hm.elim
/-- two parts -/
theorem ex_opp {r : R2} {a : α} {b : β} {mc : Option γ} {Sa : α → SP} {Sb : β → SP} {S : γ → SP} (ha : EV X E env ta (.ok a) Sa) (hb : EV X E env tb (.ok b) Sb) (hr : O2 r (Sa a) (Sb b) mc S) : EV X E env (tOp r ta tb) (R.of mc) S := by
  intro st vs σ H Q g hm
  obtain ⟨c, ec, hq⟩ := wp_of hm
  exact ha st vs σ H _ g fun va H1 g1 => hb _ _ σ H1 _ g1 fun vb H2 g2 => hr E env st σ vs H2 Q va vb c g2 ec hq
theorem ex_opm {r : R2} {ma : R ε α} {mb : R ε β} {mc : α → β → Option γ} {Sa : α → SP} {Sb : β → SP} {S : γ → SP} (ha : EV X E env ta ma Sa) (hb : EV X E env tb mb Sb) (hr : ∀ a b, O2 r (Sa a) (Sb b) (mc a b) S) :
    EV X E env (tOp r ta tb) (ma.bind fun a => mb.bind fun b => R.of (mc a b)) S := by
  intro st vs σ H Q g hm
  rw [wp_bind] at hm
  refine ha st vs σ H _ g (wp_mono hm (fun a hm va H1 g1 => ?_) fun e h => h)
  rw [wp_bind] at hm
  refine hb _ _ σ H1 _ g1 (wp_mono hm (fun b hm vb H2 g2 => ?_) xcl_push)
  obtain ⟨c, ec, hq⟩ := wp_of hm
  exact hr a b E env st σ vs H2 Q va vb c g2 ec hq
theorem ex_opr {r : R2} {ma : R ε α} {b : β} {mc : α → Option γ} {Sa : α → SP} {Sb : β → SP} {S : γ → SP} (ha : EV X E env ta ma Sa) (hb : EV X E env tb (.ok b) Sb) (hr : ∀ a, O2 r (Sa a) (Sb b) (mc a) S) : EV X E env (tOp r ta tb) (ma.bind fun a => R.of (mc a)) S := by
  intro st vs σ H Q g hm
  rw [wp_bind] at hm
  refine ha st vs σ H _ g (wp_mono hm (fun a hm va H1 g1 => ?_) fun e h => h)
  obtain ⟨c, ec, hq⟩ := wp_of hm
  exact hb _ _ σ H1 _ g1 fun vb H2 g2 => hr a E env st σ vs H2 Q va vb c g2 ec hq
theorem ex_opl {r : R2} {a : α} {mb : R ε β} {mc : β → Option γ} {Sa : α → SP} {Sb : β → SP} {S : γ → SP} (ha : EV X E env ta (.ok a) Sa) (hb : EV X E env tb mb Sb) (hr : ∀ b, O2 r (Sa a) (Sb b) (mc b) S) : EV X E env (tOp r ta tb) (mb.bind fun b => R.of (mc b)) S := by
  intro st vs σ H Q g hm
  refine ha st vs σ H _ g fun va H1 g1 => ?_
  rw [wp_bind] at hm
  refine hb _ _ σ H1 _ g1 (wp_mono hm (fun b hm vb H2 g2 => ?_) xcl_push)
  obtain ⟨c, ec, hq⟩ := wp_of hm
  exact hr b E env st σ vs H2 Q va vb c g2 ec hq
/-- with effects -/
theorem ex_opE {r : R2} {ma : R ε α} {mb : α → R ε β} {mc : α → β → Option γ} {Sa : α → SP} {Sb : α → β → SP} {Sc : α → β → γ → SP} {e1 : α → En} {e2 : α → β → En} {S : δ → SP} {e' : δ → En} (out : α → β → γ → δ) (ha : EX X E env ta ma Sa e1) (hb : ∀ a, EX X E (e1 a) tb (mb a) (Sb a) (e2 a))
    (hr : ∀ a b, O2 r (Sa a) (Sb a b) (mc a b) (Sc a b)) (hS : ∀ a b c, S (out a b c) = Sc a b c := by intros; rfl) (he : ∀ a b c, e' (out a b c) = e2 a b := by intros; rfl) :
    EX X E env (tOp r ta tb) (ma.bind fun a => (mb a).bind fun b => (R.of (mc a b)).bind fun c => .ok (out a b c)) S e' := by
  intro st vs σ H Q g hm
  rw [wp_bind] at hm
  refine ha st vs σ H _ g (wp_mono hm (fun a hm va H1 g1 => ?_) fun e h => h)
  rw [wp_bind] at hm
  refine hb a _ _ σ H1 _ g1 (wp_mono hm (fun b hm vb H2 g2 => ?_) xcl_push)
  rw [wp_bind] at hm
  obtain ⟨c, ec, hq⟩ := wp_of hm
  exact hr a b E _ st σ vs H2 Q va vb c g2 ec fun v H' g' => hq v H' (by rw [hS, he]; exact g')
/-- one part -/
theorem ex_unm {r : V → Hp → VK → Prop} {ma : R ε α} {mc : α → Option γ} {Sa : α → SP} {S : γ → SP} (ha : EV X E env ta ma Sa) (hr : ∀ a, O1 r (Sa a) (mc a) S) : EV X E env (tUn r ta) (ma.bind fun a => R.of (mc a)) S := by
  intro st vs σ H Q g hm
  rw [wp_bind] at hm
  refine ha st vs σ H _ g (wp_mono hm (fun a hm va H1 g1 => ?_) fun e h => h)
  obtain ⟨c, ec, hq⟩ := wp_of hm
  exact hr a E env st σ vs H1 Q va c g1 ec hq
theorem ex_unE {r : V → Hp → VK → Prop} {ma : R ε α} {mc : α → Option γ} {Sa : α → SP} {Sc : α → γ → SP} {e1 : α → En} {S : δ → SP} {e' : δ → En} (out : α → γ → δ) (ha : EX X E env ta ma Sa e1) (hr : ∀ a, O1 r (Sa a) (mc a) (Sc a)) (hS : ∀ a c, S (out a c) = Sc a c := by intros; rfl) (he : ∀ a c, e' (out a c) = e1 a := by intros; rfl) :
    EX X E env (tUn r ta) (ma.bind fun a => (R.of (mc a)).bind fun c => .ok (out a c)) S e' := by
  intro st vs σ H Q g hm
  rw [wp_bind] at hm
  refine ha st vs σ H _ g (wp_mono hm (fun a hm va H1 g1 => ?_) fun e h => h)
  rw [wp_bind] at hm
  obtain ⟨c, ec, hq⟩ := wp_of hm
  exact hr a E _ st σ vs H1 Q va c g1 ec fun v H' g' => hq v H' (by rw [hS, he]; exact g')
/-- built-ins of one, two values; readings t given by how they unfold -/
theorem ex_1m {t : TE} {r : V → Hp → VK → Prop} {ma : R ε α} {mc : α → Option γ} {Sa : α → SP} {S : γ → SP} (ht : ∀ σ H Q, ta σ H (fun v H1 => r v H1 Q) → t σ H Q) (ha : EV X E env ta ma Sa) (hr : ∀ a, O1 r (Sa a) (mc a) S) : EV X E env t (ma.bind fun a => R.of (mc a)) S :=
  fun st vs σ H Q g hm => ht σ H Q (ex_unm ha hr st vs σ H Q g hm)
theorem ex_1E {t : TE} {r : V → Hp → VK → Prop} {ma : R ε α} {mc : α → Option γ} {Sa : α → SP} {Sc : α → γ → SP} {e1 : α → En} {S : δ → SP} {e' : δ → En} (out : α → γ → δ) (ht : ∀ σ H Q, ta σ H (fun v H1 => r v H1 Q) → t σ H Q) (ha : EX X E env ta ma Sa e1) (hr : ∀ a, O1 r (Sa a) (mc a) (Sc a))
    (hS : ∀ a c, S (out a c) = Sc a c := by intros; rfl) (he : ∀ a c, e' (out a c) = e1 a := by intros; rfl) : EX X E env t (ma.bind fun a => (R.of (mc a)).bind fun c => .ok (out a c)) S e' := fun st vs σ H Q g hm => ht σ H Q (ex_unE out ha hr hS he st vs σ H Q g hm)
theorem ht_cb1 {r : List V → Hp → VK → Prop} : ∀ σ H Q, ta σ H (fun v H1 => r [v] H1 Q) → tCB r (tCons ta tNil) σ H Q := fun _ _ _ h => h
theorem ht_cb2 {r : List V → Hp → VK → Prop} : ∀ σ H Q, tOp (fun v u H Q => r [v, u] H Q) ta tb σ H Q → tCB r (tCons ta (tCons tb tNil)) σ H Q := fun _ _ _ h => h
theorem ex_as2 {t t' : TE} {m : R ε α} {S : α → SP} {e' : α → En} (ht : ∀ σ H Q, t σ H Q → t' σ H Q) (h : EX X E env t m S e') : EX X E env t' m S e' := fun st vs σ H Q g hm => ht σ H Q (h st vs σ H Q g hm)
/-- no change, seen as a change -/
theorem ex_ev {m : R ε α} {T : α → SP} {S : δ → SP} {e' : δ → En} (out : α → δ) (h : EV X E env te m T) (hS : ∀ a, S (out a) = T a := by intros; rfl) (he : ∀ a, e' (out a) = env := by intros; rfl) : EX X E env te (m.bind fun a => .ok (out a)) S e' := by
  intro st vs σ H Q g hm
  rw [wp_bind] at hm
  exact h st vs σ H Q g (wp_mono hm (fun a hq v H' g' => hq v H' (by rw [hS, he]; exact g')) fun e h => h)
/-- packed anew -/
theorem ex_out {m : R ε α} {S : α → SP} {e' : α → En} {S2 : δ → SP} {e2 : δ → En} (out : α → δ) (h : EX X E env te m S e') (hS : ∀ a, S2 (out a) = S a := by intros; rfl) (he : ∀ a, e2 (out a) = e' a := by intros; rfl) : EX X E env te (m.bind fun a => .ok (out a)) S2 e2 := by
  intro st vs σ H Q g hm
  rw [wp_bind] at hm
  exact h st vs σ H Q g (wp_mono hm (fun a hq v H' g' => hq v H' (by rw [hS, he]; exact g')) fun e h => h)
/-- weaker slot, weaker names -/
theorem ex_to {m : R ε α} {S S' : α → SP} {e1 : α → En} (h : EX X E env te m S e1) (k : ∀ x F H o v, (S x).ok F H o v → (S' x).ok F H o v) : EX X E env te m S' e1 := by
  intro st vs σ H Q g hm
  exact h st vs σ H Q g (wp_mono hm (fun x hq v H' ⟨F, w, g'⟩ => hq v H' ⟨F, w, g'.re (fun a l e => ⟨l, e⟩) g'.env ⟨k x _ _ _ _ g'.st.1, g'.st.2⟩⟩) fun e h => h)
theorem ex_as {m : R ε α} {f : α → β} {S : α → SP} {S' : β → SP} (h : EV X E env te m S) (k : ∀ x F H o v, (S x).ok F H o v → (S' (f x)).ok F H o v) : EV X E env te (m.bind fun a => .ok (f a)) S' := by
  intro st vs σ H Q g hm
  rw [wp_bind] at hm
  exact h st vs σ H Q g (wp_mono hm (fun x hq v H' ⟨F, w, g'⟩ => hq v H' ⟨F, w, g'.re (fun a l e => ⟨l, e⟩) g'.env ⟨k x _ _ _ _ g'.st.1, g'.st.2⟩⟩) fun e h => h)
theorem ex_fgt {m : R ε α} {S : α → SP} {e1 e2 : α → En} (h : EX X E env te m S e1) (k : ∀ x, Fgt (e1 x) (e2 x)) : EX X E env te m S e2 := by
  intro st vs σ H Q g hm
  exact h st vs σ H Q g (wp_mono hm (fun x hq v H' g' => hq v H' (g'.fgt (k x))) fun e h => h)
theorem ex_from {env0 : En} {m : R ε α} {S : α → SP} {e1 : α → En} (k : Fgt env0 env) (h : EX X E env te m S e1) : EX X E env0 te m S e1 := fun st vs σ H Q g hm => h st vs σ H Q (g.fgt k) hm
theorem ex_frz {S : α → SP} {q : α → VP} {m : R ε α} {e' : α → En} (h : EX X E env te m S e') (z : ∀ x, Fz (S x) (q x)) : EX X E env te m (fun x => (q x).sp) e' := by
  intro st vs σ H Q g hm
  exact h st vs σ H Q g (wp_mono hm (fun x hq v H' ⟨F, w, g'⟩ => by
    obtain ⟨F', w', g2⟩ := g'.freezeS (z x)
    exact hq v H' ⟨F', w', g2⟩) fun e h => h)
theorem ex_some {T : Ty α} {m : R ε α} (h : EV X E env te m (val T)) : EV X E env te (m.bind fun a => .ok (some a)) (val (tOpt T)) := ex_as h fun x F H o v h => h
theorem ex_get {T : Ty α} {m : R ε (Option α)} (h : EV X E env te m (val (tOpt T))) : EV X E env te (m.bind R.of) (val T) := by
  intro st vs σ H Q g hm
  rw [wp_bind] at hm
  refine h st vs σ H Q g (wp_mono hm (fun y hm v H' ⟨F, w, g'⟩ => ?_) fun e h => h)
  obtain ⟨x, ex, hq⟩ := wp_of hm
  subst ex
  exact hq v H' ⟨F, w, g'.pop.pushV g'.top⟩
/-- t ? a : b -/
theorem ex_if {mt : R ε δ} {b : δ → Bool} {et : δ → En} {ma mb : δ → R ε γ} {S : γ → SP} {e' : γ → En} (ht : TX X E env tt mt b et) (ha : ∀ x, EX X E (et x) ta (ma x) S e') (hb : ∀ x, EX X E (et x) tb (mb x) S e') : EX X E env (tIf tt ta tb) (mt.bind fun x => if b x = true then ma x else mb x) S e' := by
  intro st vs σ H Q g hm
  rw [wp_bind] at hm
  refine ht st vs σ H _ g (wp_mono hm (fun x hm H1 g1 => ?_) fun e h => h)
  show if b x = true then ta σ H1 Q else tb σ H1 Q
  cases hb' : b x with
  | true =>
    rw [hb', if_pos rfl] at hm
    rw [if_pos rfl]
    exact ha x st vs σ H1 Q g1 hm
  | false =>
    rw [hb', if_neg Bool.false_ne_true] at hm
    rw [if_neg Bool.false_ne_true]
    exact hb x st vs σ H1 Q g1 hm
/-- and, or, not as values -/
theorem ex_and {ma mb : R ε Bool} (ha : EV X E env ta ma (val tBool)) (hb : EV X E env tb mb (val tBool)) : EV X E env (tAndV ta tb) (ma.bind fun b => if b = true then mb else .ok false) (val tBool) := by
  intro st vs σ H Q g hm
  rw [wp_bind] at hm
  refine ha st vs σ H _ g (wp_mono hm (fun b hm v H1 ⟨F, w, g1⟩ => ⟨b, g1.top, ?_⟩) fun e h => h)
  cases b with
  | true => exact hb st vs σ H1 Q ⟨F, w, g1.pop⟩ hm
  | false => exact hm _ _ ⟨F, w, g1.pop.pushV rfl⟩
theorem ex_or {ma mb : R ε Bool} (ha : EV X E env ta ma (val tBool)) (hb : EV X E env tb mb (val tBool)) : EV X E env (tOrV ta tb) (ma.bind fun b => if b = true then .ok true else mb) (val tBool) := by
  intro st vs σ H Q g hm
  rw [wp_bind] at hm
  refine ha st vs σ H _ g (wp_mono hm (fun b hm v H1 ⟨F, w, g1⟩ => ⟨b, g1.top, ?_⟩) fun e h => h)
  cases b with
  | true => exact hm _ _ ⟨F, w, g1.pop.pushV rfl⟩
  | false => exact hb st vs σ H1 Q ⟨F, w, g1.pop⟩ hm
theorem ex_not {ma : R ε Bool} (ha : EV X E env ta ma (val tBool)) : EV X E env (tNotV ta) (ma.bind fun b => .ok (!b)) (val tBool) := by
  intro st vs σ H Q g hm
  rw [wp_bind] at hm
  exact ha st vs σ H _ g (wp_mono hm (fun b hm v H1 ⟨F, w, g1⟩ => ⟨b, g1.top, hm _ _ ⟨F, w, g1.pop.pushV rfl⟩⟩) fun e h => h)
theorem ex_notE {ma : R ε δ} {k : δ → Bool} {e' : δ → En} {S : τ → SP} {e2 : τ → En} (out : δ → τ) (ha : EX X E env ta ma (fun x => val tBool (k x)) e') (hS : ∀ a, S (out a) = val tBool (!k a) := by intros; rfl) (he : ∀ a, e2 (out a) = e' a := by intros; rfl) : EX X E env (tNotV ta) (ma.bind fun x => .ok (out x)) S e2 := by
  intro st vs σ H Q g hm
  rw [wp_bind] at hm
  exact ha st vs σ H _ g (wp_mono hm (fun x hm v H1 ⟨F, w, g1⟩ => ⟨k x, g1.top, hm _ _ ⟨F, w, by rw [hS, he]; exact g1.pop.pushV rfl⟩⟩) fun e h => h)
/-- and, or whose second part has effects: states joined by the second's names -/
theorem ex_andE {ma : R ε δ} {k : δ → Bool} {e1 : δ → En} {mb : δ → R ε τ} {S : τ → SP} {e' : τ → En} (no : δ → τ) (ha : EX X E env ta ma (fun x => val tBool (k x)) e1) (hb : ∀ x, EX X E (e1 x) tb (mb x) S e') (hS : ∀ x, S (no x) = val tBool false := by intros; rfl) (he : ∀ x, e' (no x) = e1 x := by intros; rfl) :
    EX X E env (tAndV ta tb) (ma.bind fun x => if k x = true then mb x else .ok (no x)) S e' := by
  intro st vs σ H Q g hm
  rw [wp_bind] at hm
  refine ha st vs σ H _ g (wp_mono hm (fun x hm v H1 ⟨F, w, g1⟩ => ⟨k x, g1.top, ?_⟩) fun e h => h)
  cases hk : k x with
  | true =>
    rw [hk, if_pos rfl] at hm
    exact hb x st vs σ H1 Q ⟨F, w, g1.pop⟩ hm
  | false =>
    rw [hk, if_neg Bool.false_ne_true] at hm
    exact hm _ _ ⟨F, w, by rw [hS, he]; exact g1.pop.pushV rfl⟩
/-! ### tests -/
theorem tx_e {m : R ε δ} {k : δ → Bool} {e' : δ → En} (h : EX X E env te m (fun x => val tBool (k x)) e') : TX X E env (tTest te) m k e' := by
  intro st vs σ H Q g hm
  exact h st vs σ H _ g (wp_mono hm (fun x hq v H1 ⟨F, w, g1⟩ => ⟨k x, g1.top, hq H1 ⟨F, w, g1.pop⟩⟩) fun e h => h)
theorem tx_b {m : R ε δ} {k : δ → Bool} {e' : δ → En} (h : EX X E env te m (fun x => val tBool (k x)) e') : TX X E env (tB te) m k e' := by
  intro st vs σ H Q g hm
  exact h st vs σ H _ g (wp_mono hm (fun x hq v H1 ⟨F, w, g1⟩ => ⟨k x, g1.top, hq H1 ⟨F, w, g1.pop⟩⟩) fun e h => h)
theorem tp_e {m : R ε Bool} (h : EV X E env te m (val tBool)) : TP X E env (tTest te) m := tx_e (k := id) h
theorem tp_b {m : R ε Bool} (h : EV X E env te m (val tBool)) : TP X E env (tB te) m := tx_b (k := id) h
theorem tp_and {ma mb : R ε Bool} (ha : TP X E env tt ma) (hb : TP X E env tu mb) : TP X E env (tAnd tt tu) (ma.bind fun b => if b = true then mb else .ok false) := by
  intro st vs σ H Q g hm
  rw [wp_bind] at hm
  refine ha st vs σ H _ g (wp_mono hm (fun b hm H1 g1 => ?_) fun e h => h)
  cases b with
  | true => exact hb st vs σ H1 Q g1 hm
  | false => exact hm _ g1
theorem tp_or {ma mb : R ε Bool} (ha : TP X E env tt ma) (hb : TP X E env tu mb) : TP X E env (tOr tt tu) (ma.bind fun b => if b = true then .ok true else mb) := by
  intro st vs σ H Q g hm
  rw [wp_bind] at hm
  refine ha st vs σ H _ g (wp_mono hm (fun b hm H1 g1 => ?_) fun e h => h)
  cases b with
  | true => exact hm _ g1
  | false => exact hb st vs σ H1 Q g1 hm
theorem tp_not {ma : R ε Bool} (ha : TP X E env tt ma) : TP X E env (tNot tt) (ma.bind fun b => .ok (!b)) := by
  intro st vs σ H Q g hm
  rw [wp_bind] at hm
  exact ha st vs σ H _ g (wp_mono hm (fun b hm H1 g1 => hm H1 g1) fun e h => h)
theorem tx_not {m : R ε δ} {b : δ → Bool} {e' : δ → En} (h : TX X E env tt m b e') : TX X E env (tNot tt) m (fun x => !b x) e' := fun st vs σ H Q g hm => h st vs σ H _ g hm
/-- with effects: the second part is asked in what the first left; no: the answer that ends it early, packed -/
theorem tx_and {ma : R ε δ} {k : δ → Bool} {e1 : δ → En} {mb : δ → R ε τ} {kb : τ → Bool} {e' : τ → En} (no : δ → τ) (ha : TX X E env tt ma k e1) (hb : ∀ x, TX X E (e1 x) tu (mb x) kb e') (hS : ∀ x, kb (no x) = false := by intros; rfl) (he : ∀ x, e' (no x) = e1 x := by intros; rfl) :
    TX X E env (tAnd tt tu) (ma.bind fun x => if k x = true then mb x else .ok (no x)) kb e' := by
  intro st vs σ H Q g hm
  rw [wp_bind] at hm
  refine ha st vs σ H _ g (wp_mono hm (fun x hm H1 g1 => ?_) fun e h => h)
  cases hk : k x with
  | true =>
    rw [hk, if_pos rfl] at hm
    exact hb x st vs σ H1 Q g1 hm
  | false =>
    rw [hk, if_neg Bool.false_ne_true] at hm
    have := hm H1 (by rw [he]; exact g1)
    rw [hS] at this
    exact this
theorem tx_or {ma : R ε δ} {k : δ → Bool} {e1 : δ → En} {mb : δ → R ε τ} {kb : τ → Bool} {e' : τ → En} (yes : δ → τ) (ha : TX X E env tt ma k e1) (hb : ∀ x, TX X E (e1 x) tu (mb x) kb e') (hS : ∀ x, kb (yes x) = true := by intros; rfl) (he : ∀ x, e' (yes x) = e1 x := by intros; rfl) :
    TX X E env (tOr tt tu) (ma.bind fun x => if k x = true then .ok (yes x) else mb x) kb e' := by
  intro st vs σ H Q g hm
  rw [wp_bind] at hm
  refine ha st vs σ H _ g (wp_mono hm (fun x hm H1 g1 => ?_) fun e h => h)
  cases hk : k x with
  | true =>
    rw [hk, if_pos rfl] at hm
    have := hm H1 (by rw [he]; exact g1)
    rw [hS] at this
    exact this
  | false =>
    rw [hk, if_neg Bool.false_ne_true] at hm
    exact hb x st vs σ H1 Q g1 hm
theorem tx_out {m : R ε α} {b : α → Bool} {e' : α → En} {b2 : δ → Bool} {e2 : δ → En} (out : α → δ) (h : TX X E env tt m b e') (hS : ∀ a, b2 (out a) = b a := by intros; rfl) (he : ∀ a, e2 (out a) = e' a := by intros; rfl) : TX X E env tt (m.bind fun a => .ok (out a)) b2 e2 := by
  intro st vs σ H Q g hm
  rw [wp_bind] at hm
  exact h st vs σ H Q g (wp_mono hm (fun a hq H' g' => by
    have := hq H' (by rw [he]; exact g')
    rw [hS] at this
    exact this) fun e h => h)
/-- a op b op' c -/
theorem ex_chain {r r' : R2} {ma : R ε α} {mb : R ε β} {mc : R ε γ} {m1 : α → β → Bool} {m2 : β → γ → Bool} {T : Ty α} {U : Ty β} {W : Ty γ} (ha : EV X E env ta ma (val T)) (hb : EV X E env tb mb (val U)) (hc : EV X E env tc mc (val W))
    (h1 : ∀ a b, O2 r (val T a) (val U b) (some (m1 a b)) (val tBool)) (h2 : ∀ b c, O2 r' (val U b) (val W c) (some (m2 b c)) (val tBool)) :
    EV X E env (tChain r r' ta tb tc) (ma.bind fun a => mb.bind fun b => if m1 a b = true then mc.bind fun c => .ok (m2 b c) else .ok false) (val tBool) := by
  intro st vs σ H Q g hm
  rw [wp_bind] at hm
  refine ha st vs σ H _ g (wp_mono hm (fun a hm va H1 g1 => ?_) fun e h => h)
  rw [wp_bind] at hm
  refine hb _ _ σ H1 _ g1 (wp_mono hm (fun b hm vb H2 g2 => ?_) xcl_push)
  obtain ⟨F2, w2, g2⟩ := g2
  have gb : U.rp F2 vb b := g2.top
  have g2' : GG E env (val U b :: val T a :: val U b :: st) σ (vb :: va :: vb :: vs) H2 F2 w2 := g2.re (fun a l e => ⟨l, e⟩) g2.env ⟨g2.st.1, g2.st.2.1, gb, g2.st.2.2⟩
  refine h1 a b E env _ σ _ H2 _ va vb _ ⟨F2, w2, g2'⟩ rfl fun v H3 ⟨F3, w3, g3⟩ => ⟨m1 a b, g3.top, ?_⟩
  cases hk : m1 a b with
  | true =>
    rw [hk, if_pos rfl] at hm
    rw [if_pos rfl]
    rw [wp_bind] at hm
    exact hc _ _ σ H3 _ ⟨F3, w3, g3.pop⟩ (wp_mono hm (fun c hm vc H4 g4 => h2 b c E env st σ vs H4 Q vb vc _ g4 rfl hm) xcl_push)
  | false =>
    rw [hk, if_neg Bool.false_ne_true] at hm
    rw [if_neg Bool.false_ne_true]
    exact hm _ _ ⟨F3, w3, g3.pop.pop.pushV rfl⟩
/-! ### arguments -/
theorem ax_nil {acc : List SP} {m : R ε δ} {Pc : R ε δ → List SP → En → Prop} (h : Pc m acc env) : AX X E env tNil acc m Pc := by
  intro st vs us0 σ H Q Φ g hl hm hq
  exact hq [] H acc env m h (by simp [hl]) g hm
theorem ax_cons {tr : TA} {acc : List SP} {m1 : R ε α} {m2 : α → R ε δ} {S : α → SP} {e1 : α → En} {Pc : R ε δ → List SP → En → Prop} (h1 : EX X E env te m1 S e1) (h2 : ∀ a, AX X E (e1 a) tr (S a :: acc) (m2 a) Pc) : AX X E env (tCons te tr) acc (m1.bind m2) Pc := by
  intro st vs us0 σ H Q Φ g hl hm hq
  rw [wp_bind] at hm
  refine h1 _ _ σ H _ g (wp_mono hm (fun a hm v H1 g1 => ?_) (xcl_drop hl.symm))
  exact h2 a st vs (v :: us0) σ H1 _ Φ g1 (by simp [hl]) hm fun us H' Ss e' m' hp hz g2 hm' => hq (v :: us) H' Ss e' m' hp (by simp at hz ⊢; omega) (by simpa using g2) hm'
/-- a new thing of one's own comes, its place is named -/
theorem ax_consP {tr : TA} {acc : List SP} {m1 : R ε α} {m2 : α → R ε δ} {S : α → SP} {S' : α → Addr → SP} {e1 : α → En} {Pc : R ε δ → List SP → En → Prop} (h1 : EX X E env te m1 S e1) (z : ∀ a, Pn (S a) (S' a)) (h2 : ∀ a p, AX X E (e1 a) tr (S' a p :: acc) (m2 a) Pc) : AX X E env (tCons te tr) acc (m1.bind m2) Pc := by
  intro st vs us0 σ H Q Φ g hl hm hq
  rw [wp_bind] at hm
  refine h1 _ _ σ H _ g (wp_mono hm (fun a hm v H1 ⟨F, w, g1⟩ => ?_) (xcl_drop hl.symm))
  obtain ⟨p, hp⟩ := z a _ _ _ _ g1.st.1
  have g1' : G E (e1 a) (S' a p :: (acc ++ st)) σ (v :: (us0 ++ vs)) H1 := ⟨F, w, g1.re (fun b l e => ⟨l, e⟩) g1.env ⟨hp, g1.st.2⟩⟩
  exact h2 a p st vs (v :: us0) σ H1 _ Φ g1' (by simp [hl]) hm fun us H' Ss e' m' hp hz g2 hm' => hq (v :: us) H' Ss e' m' hp (by simp at hz ⊢; omega) (by simpa using g2) hm'
theorem axk_nil {tk : TA} {acc : List SP} {m : R ε δ} {Pc : R ε δ → List SP → En → Prop} (h : AX X E env tk acc m Pc) : AXK 0 X E env tNil tk acc m Pc := by
  intro st vs us0 σ H Q Φ g hl hm hq
  exact h st vs us0 σ H (fun zs H2 => Q [] zs H2) Φ g hl hm fun us H' Ss e' m' hp hz g2 hm' => hq [] us H' Ss e' m' rfl hp (by simp at hz ⊢; omega) (by simpa using g2) hm'
theorem axk_cons {n : Nat} {tr tk : TA} {acc : List SP} {m1 : R ε α} {m2 : α → R ε δ} {S : α → SP} {e1 : α → En} {Pc : R ε δ → List SP → En → Prop} (h1 : EX X E env te m1 S e1) (h2 : ∀ a, AXK n X E (e1 a) tr tk (S a :: acc) (m2 a) Pc) : AXK (n + 1) X E env (tCons te tr) tk acc (m1.bind m2) Pc := by
  intro st vs us0 σ H Q Φ g hl hm hq
  rw [wp_bind] at hm
  refine h1 _ _ σ H _ g (wp_mono hm (fun a hm v H1 g1 => ?_) (xcl_drop hl.symm))
  exact h2 a st vs (v :: us0) σ H1 (fun us zs H2 => Q (v :: us) zs H2) Φ g1 (by simp [hl]) hm fun us zs H' Ss e' m' hn hp hz g2 hm' => hq (v :: us) zs H' Ss e' m' (by simp [hn]) hp (by simp at hz ⊢; omega) (by simpa using g2) hm'
theorem axk_consP {n : Nat} {tr tk : TA} {acc : List SP} {m1 : R ε α} {m2 : α → R ε δ} {S : α → SP} {S' : α → Addr → SP} {e1 : α → En} {Pc : R ε δ → List SP → En → Prop} (h1 : EX X E env te m1 S e1) (z : ∀ a, Pn (S a) (S' a)) (h2 : ∀ a p, AXK n X E (e1 a) tr tk (S' a p :: acc) (m2 a) Pc) : AXK (n + 1) X E env (tCons te tr) tk acc (m1.bind m2) Pc := by
  intro st vs us0 σ H Q Φ g hl hm hq
  rw [wp_bind] at hm
  refine h1 _ _ σ H _ g (wp_mono hm (fun a hm v H1 ⟨F, w, g1⟩ => ?_) (xcl_drop hl.symm))
  obtain ⟨p, hp⟩ := z a _ _ _ _ g1.st.1
  have g1' : G E (e1 a) (S' a p :: (acc ++ st)) σ (v :: (us0 ++ vs)) H1 := ⟨F, w, g1.re (fun b l e => ⟨l, e⟩) g1.env ⟨hp, g1.st.2⟩⟩
  exact h2 a p st vs (v :: us0) σ H1 (fun us zs H2 => Q (v :: us) zs H2) Φ g1' (by simp [hl]) hm fun us zs H' Ss e' m' hn hp hz g2 hm' => hq (v :: us) zs H' Ss e' m' (by simp [hn]) hp (by simp at hz ⊢; omega) (by simpa using g2) hm'
/-! ### displays -/
/-- [..] of values -/
theorem ex_lst {T : Ty α} {t : TA} {m : R ε δ} {S : δ → List α} {e' : δ → En} (h : AX X E env t [] m fun m' Ss e => ∃ c, m' = .ok c ∧ Ss = ((S c).map (val T)).reverse ∧ (S c).length ≤ 1000 ∧ e = e' c) : EX X E env (tLst t) m (fun c => own T (S c)) e' := by
  intro st vs σ H Q g hm
  refine h st vs [] σ H _ _ g rfl hm fun us H' Ss e m' hh hl gg hq => ?_
  obtain ⟨c, rfl, hs, hc, he⟩ := hh
  obtain ⟨F, w, g'⟩ := gg
  subst hs he
  rw [← List.map_reverse] at g'
  have hlen : us.length = (S c).length := by simpa using hl.symm
  obtain ⟨p, q⟩ := vals_of (xs := (S c).reverse) (us := us.reverse) (by simpa using g'.st) (by simp [hlen])
  have p2 : Paired (T.rp F) us (S c) := by simpa using Paired.rev p
  exact ⟨Nat.le_of_lt (small1000 (by omega)), fun a ha => hq _ _ ⟨F, _, (g'.re (fun a l e => ⟨l, e⟩) g'.env q : GG E (e' c) st σ vs H' F w).pushO ha ⟨a, us, rfl, trivial, fun b => Iff.rfl, upd_same, p2⟩⟩⟩
/-- tuples of any kinds: their parts by a view -/
def VPs (F : Hp) : List VP → List V → Prop
  | [], [] => True
  | q :: qs, v :: vs => q.p F v ∧ VPs F qs vs
  | _, _ => False
theorem VPs.mono {F F' : Hp} (s : Same F F') : ∀ {qs : List VP} {vs : List V}, VPs F qs vs → VPs F' qs vs
  | [], [], _ => trivial
  | q :: qs, v :: vs, h => ⟨q.mono s h.1, VPs.mono s h.2⟩
  | [], _ :: _, h => h.elim
  | _ :: _, [], h => h.elim
theorem VPs.len {F : Hp} : ∀ {qs : List VP} {vs : List V}, VPs F qs vs → vs.length = qs.length
  | [], [], _ => rfl
  | _ :: qs, _ :: vs, h => by simp [VPs.len (qs := qs) (vs := vs) h.2]
  | [], _ :: _, h => h.elim
  | _ :: _, [], h => h.elim
theorem VPs.nth {F : Hp} : ∀ {qs : List VP} {vs : List V}, VPs F qs vs → ∀ {i : Nat} {q : VP}, qs[i]? = some q → ∃ v, vs[i]? = some v ∧ q.p F v
  | [], _, _, i, q, e => by simp at e
  | x :: qs, v :: vs, h, 0, q, e => ⟨v, rfl, by have z := Option.some.inj (by simpa using e : some x = some q); rw [← z]; exact h.1⟩
  | _ :: qs, _ :: vs, h, i + 1, q, e => by
    obtain ⟨u, e1, e2⟩ := VPs.nth (qs := qs) (vs := vs) h.2 (i := i) (q := q) (by simpa using e)
    exact ⟨u, by simpa using e1, e2⟩
  | _ :: _, [], h, _, _, _ => h.elim
def tT (view : α → List VP) : Ty α := ⟨fun F v x => ∃ a vs, v = .ref a ∧ F a = some (.tup vs) ∧ VPs F (view x) vs, fun s ⟨a, vs, e, h, p⟩ => ⟨a, vs, e, s _ _ h, p.mono s⟩⟩
theorem vps_of {F H : Hp} {w : Ow} : ∀ {st : List SP} {vs : List V} {qs : List VP} {us : List V}, StOk F H w ((qs.map VP.sp) ++ st) (us ++ vs) → us.length = qs.length → VPs F qs us ∧ StOk F H w st vs
  | _, _, [], [], h, _ => ⟨trivial, h⟩
  | _, _, q :: qs, u :: us, h, e => by
    obtain ⟨p, r⟩ := vps_of (qs := qs) (us := us) h.2 (by simpa using e)
    exact ⟨⟨h.1, p⟩, r⟩
  | _, _, [], _ :: _, _, e => by simp at e
  | _, _, _ :: _, [], _, e => by simp at e
theorem VPs.app {F : Hp} : ∀ {q1 q2 : List VP} {v1 v2 : List V}, VPs F q1 v1 → VPs F q2 v2 → VPs F (q1 ++ q2) (v1 ++ v2)
  | [], _, [], _, _, h => h
  | _ :: q1, _, _ :: v1, _, h, k => ⟨h.1, VPs.app (q1 := q1) (v1 := v1) h.2 k⟩
  | [], _, _ :: _, _, h, _ => h.elim
  | _ :: _, _, [], _, h, _ => h.elim
theorem VPs.rev {F : Hp} : ∀ {qs : List VP} {vs : List V}, VPs F qs vs → VPs F qs.reverse vs.reverse
  | [], [], _ => trivial
  | q :: qs, v :: vs, h => by
    rw [List.reverse_cons, List.reverse_cons]
    exact VPs.app (VPs.rev (qs := qs) (vs := vs) h.2) ⟨h.1, trivial⟩
  | [], _ :: _, h => h.elim
  | _ :: _, [], h => h.elim
theorem ex_tupT {view : α → List VP} {t : TA} {m : R ε δ} {S : δ → α} {e' : δ → En} (h : AX X E env t [] m fun m' Ss e => ∃ c, m' = .ok c ∧ Ss = ((view (S c)).map VP.sp).reverse ∧ (view (S c)).length ≤ 1000 ∧ e = e' c) : EX X E env (tTup t) m (fun c => val (tT view) (S c)) e' := by
  intro st vs σ H Q g hm
  refine h st vs [] σ H _ _ g rfl hm fun us H' Ss e m' hh hl gg hq => ?_
  obtain ⟨c, rfl, hs, hc, he⟩ := hh
  obtain ⟨F, w, g'⟩ := gg
  subst hs he
  rw [← List.map_reverse] at g'
  have hlen : us.length = (view (S c)).length := by simpa using hl.symm
  obtain ⟨p, q⟩ := vps_of (qs := (view (S c)).reverse) (us := us.reverse) (by simpa using g'.st) (by simp [hlen])
  have p2 : VPs F (view (S c)) us := by simpa using p.rev
  refine ⟨Nat.le_of_lt (small1000 (by omega)), fun a ha => ?_⟩
  have g0 : GG E (e' c) st σ vs H' F w := g'.re (fun a l e => ⟨l, e⟩) g'.env q
  have u := Ext.newF (F := F) (o := .tup us) g0.ext.s ha
  exact hq _ _ ⟨_, w, (g0.grow u).pushV ⟨a, us, rfl, upd_same, p2.mono u.f⟩⟩
/-- tuples of one kind -/
theorem ex_tupU {T : Ty α} {t : TA} {m : R ε δ} {S : δ → List α} {e' : δ → En} (h : AX X E env t [] m fun m' Ss e => ∃ c, m' = .ok c ∧ Ss = ((S c).map (val T)).reverse ∧ (S c).length ≤ 1000 ∧ e = e' c) : EX X E env (tTup t) m (fun c => val (tU T) (S c)) e' := by
  intro st vs σ H Q g hm
  refine h st vs [] σ H _ _ g rfl hm fun us H' Ss e m' hh hl gg hq => ?_
  obtain ⟨c, rfl, hs, hc, he⟩ := hh
  obtain ⟨F, w, g'⟩ := gg
  subst hs he
  rw [← List.map_reverse] at g'
  have hlen : us.length = (S c).length := by simpa using hl.symm
  obtain ⟨p, q⟩ := vals_of (xs := (S c).reverse) (us := us.reverse) (by simpa using g'.st) (by simp [hlen])
  have p2 : Paired (T.rp F) us (S c) := by simpa using Paired.rev p
  refine ⟨Nat.le_of_lt (small1000 (by omega)), fun a ha => ?_⟩
  have g0 : GG E (e' c) st σ vs H' F w := g'.re (fun a l e => ⟨l, e⟩) g'.env q
  have u := Ext.newF (F := F) (o := .tup us) g0.ext.s ha
  exact hq _ _ ⟨_, w, (g0.grow u).pushV ⟨a, us, rfl, upd_same, Paired.mono p2 fun _ _ => T.mono u.f⟩⟩
/-- an item of a tuple, the place written -/
theorem o2_ixT {K : PySem.W.Frag} {view : α → List VP} {x : α} {T : Ty β} {y : β} (n : Nat) (h : (view x)[n]? = some (vp T y)) (hn : n < 1000 := by decide) : O2 (rIxT K) (val (tT view) x) (val tInt (n : Int)) (some y) (val T) := o2_mk fun c hm F H Q va vb s ⟨a, vs, e, hf, p⟩ hb hq => by
  cases hm
  obtain ⟨v, e1, e2⟩ := p.nth h
  have hlt : n < vs.length := (List.getElem?_eq_some_iff.mp e1).1
  exact ⟨a, vs, n, v, e, hb, .of (s _ _ hf), atI_nat e1, hq v e2⟩
theorem o1_lenT {K : PySem.W.Frag} {view : α → List VP} {x : α} : O1 (fun v H Q => ∃ p ys, [v] = [V.ref p] ∧ (SqL K H p ys ∨ SqT K H p ys) ∧ Q (.int ys.length) H) (val (tT view) x) (some ((view x).length : Int)) (val tInt) := o1_mk fun c hm F H Q va s ⟨a, vs, e, h, p⟩ hq => by
  cases hm
  exact ⟨a, vs, by rw [e], .inr (.of (s _ _ h)), hq _ (by show V.int _ = V.int _; rw [p.len])⟩
end
end NL

set_option Elab.async false
set_option linter.all false
set_option maxRecDepth 100000
set_option maxHeartbeats 2000000
namespace NL
open PySem PySem.Spec PyProof.Rows L2 ML
/-! ### blocks -/
/-- how a block ends: falls through, breaks, goes on with the loop, returns -/
inductive Out (α σ ρ : Type) where
  | nx (a : α) | brk (s : σ) | ct (s : σ) | ret (r : ρ)
def BK {ε γ : Type} (X : Xc ε) (E : Ent) (env : En) (t : TS) (m : R ε γ) (post : Post γ) : Prop :=
  ∀ (st : List SP) (vs : List V) (σ : L2.St) (H : Hp) (D : Ends), G E env st σ vs H → wp m (fun g => post g st vs D) (fun e => ∀ σ', xcl X E st vs σ' e) → t D σ H
def pN {α : Type} (E : Ent) (eN : α → En) : Post α := fun a st vs D => ∀ σ' H', G E (eN a) st σ' vs H' → D.nx σ' H'
def pR {ρ : Type} (E : Ent) (R : ρ → SP) (eR : ρ → En) : Post ρ := fun r st vs D => ∀ v σ' H', G E (eR r) (R r :: st) σ' (v :: vs) H' → D.rt v H'
/-- a body that may fall off its end -/
def pP {ρ : Type} (E : Ent) (eR : ρ → En) : Post ρ := fun r st vs D => (∀ σ' H', G E (eR r) st σ' vs H' → D.nx σ' H') ∧ ∀ v σ' H', G E (eR r) (val tNon () :: st) σ' (v :: vs) H' → D.rt v H'
def pL {α σs ρ : Type} (E : Ent) (eN : α → En) (eL : σs → En) (R : ρ → SP) (eR : ρ → En) : Post (Out α σs ρ) := fun o st vs D => match o with
  | .nx a => ∀ σ' H', G E (eN a) st σ' vs H' → D.nx σ' H'
  | .brk b => ∀ σ' H', G E (eL b) st σ' vs H' → D.bk σ' H'
  | .ct b => ∀ σ' H', G E (eL b) st σ' vs H' → D.ct σ' H'
  | .ret r => ∀ v σ' H', G E (eR r) (R r :: st) σ' (v :: vs) H' → D.rt v H'
section
variable {ε α β γ δ ρ σs τ : Type} {X : Xc ε} {E : Ent} {env env' : En} {te ta tb tc ti : TE} {tt : TT} {u t t1 t2 : TS} {post : Post γ}
theorem bk_eq {m m' : R ε γ} (h : BK X E env t m post) (e : m = m') : BK X E env t m' post := e ▸ h
theorem bk_from {env0 : En} {m : R ε γ} (k : Fgt env0 env) (h : BK X E env t m post) : BK X E env0 t m post := fun st vs σ H D g hm => h st vs σ H D (g.fgt k) hm
theorem bk_no : BK X E env t .no post := fun st vs σ H D g hm => hm.elim
theorem bk_asg {m : R ε α} {S : α → SP} {e1 : α → En} {k : α → R ε γ} {i : Nat} (h : EX X E env te m S e1) (hk : ∀ x, BK X E ((e1 x).set i (some (S x))) u (k x) post) (hi : ∀ x, Nat.ble (i + 1) (e1 x).length = true := by intro _; rfl) : BK X E env (tSeq (tAsg te (gName i)) u) (m.bind k) post := by
  intro st vs σ H D gg hm
  rw [wp_bind] at hm
  refine h st vs σ H _ gg (wp_mono hm (fun x hm v H1 g1 => ?_) fun e h => h σ)
  obtain ⟨F, w, g1⟩ := g1
  obtain ⟨w', g2⟩ := g1.store (Nat.le_of_ble_eq_true (hi x))
  exact hk x st vs _ H1 D ⟨F, w', g2⟩ hm
theorem bk_expr {m : R ε α} {S : α → SP} {e1 : α → En} {k : α → R ε γ} (h : EX X E env te m S e1) (hk : ∀ x, BK X E (e1 x) u (k x) post) : BK X E env (tSeq (tDrop te) u) (m.bind k) post := by
  intro st vs σ H D gg hm
  rw [wp_bind] at hm
  exact h st vs σ H _ gg (wp_mono hm (fun x hm v H1 g1 => hk x st vs _ H1 D g1.popV hm) fun e h => h σ)
theorem bk_pass {m : R ε γ} (h : BK X E env u m post) : BK X E env (tSeq tNext u) m post := fun st vs σ H D gg hm => h st vs σ H D gg hm
/-! fall through, return -/
theorem bn_nx {a : α} {eN : α → En} (h : Fgt env (eN a)) : BK X E env tNext (.ok a) (pN E eN) := fun st vs σ H D gg hq => hq σ H (gg.fgt h)
theorem bp_nx {r : ρ} {eR : ρ → En} (h : Fgt env (eR r)) : BK X E env tNext (.ok r) (pP E eR) := fun st vs σ H D gg hq => hq.1 σ H (gg.fgt h)
theorem bl_nx {a : α} {eN : α → En} {eL : σs → En} {R : ρ → SP} {eR : ρ → En} (h : Fgt env (eN a)) : BK X E env tNext (.ok (.nx a)) (pL E eN eL R eR) := fun st vs σ H D gg hq => hq σ H (gg.fgt h)
theorem bl_brk {b : σs} {eN : α → En} {eL : σs → En} {R : ρ → SP} {eR : ρ → En} (h : Fgt env (eL b)) : BK X E env tBreak (.ok (.brk b)) (pL E eN eL R eR) := fun st vs σ H D gg hq => hq σ H (gg.fgt h)
theorem bl_ct {b : σs} {eN : α → En} {eL : σs → En} {R : ρ → SP} {eR : ρ → En} (h : Fgt env (eL b)) : BK X E env tCont (.ok (.ct b)) (pL E eN eL R eR) := fun st vs σ H D gg hq => hq σ H (gg.fgt h)
theorem br_ret {m : R ε ρ} {R : ρ → SP} {eR : ρ → En} {e1 : ρ → En} (h : EX X E env te m R e1) (hf : ∀ r, Fgt (e1 r) (eR r)) : BK X E env (tRet te) m (pR E R eR) := by
  intro st vs σ H D gg hm
  exact h st vs σ H _ gg (wp_mono hm (fun r hq v H1 g1 => hq v σ H1 (g1.fgt (hf r))) fun e h => h σ)
/-- how a returned value stands in the wish -/
def Emb (E : Ent) (post : Post γ) (R : ρ → SP) (eR : ρ → En) (emb : ρ → γ) : Prop := ∀ r st vs D, post (emb r) st vs D → pR E R eR r st vs D
theorem emb_R {R : ρ → SP} {eR : ρ → En} : Emb E (pR E R eR) R eR id := fun _ _ _ _ h => h
theorem emb_P {eR : ρ → En} : Emb E (pP E eR) (fun _ => val tNon ()) eR id := fun _ _ _ _ h => h.2
theorem emb_L {R : ρ → SP} {eR : ρ → En} {eN : α → En} {eL : σs → En} : Emb E (pL E eN eL R eR) R eR Out.ret := fun _ _ _ _ h => h
theorem bk_ret {m : R ε ρ} {R : ρ → SP} {eR : ρ → En} {e1 : ρ → En} {emb : ρ → γ} (he : Emb E post R eR emb) (h : EX X E env te m R e1) (hf : ∀ r, Fgt (e1 r) (eR r)) : BK X E env (tRet te) (m.bind fun r => .ok (emb r)) post := by
  intro st vs σ H D gg hm
  rw [wp_bind] at hm
  exact h st vs σ H _ gg (wp_mono hm (fun r hq v H1 g1 => he r st vs D hq v σ H1 (g1.fgt (hf r))) fun e h => h σ)
/-- return, no value -/
theorem bk_retN {r : ρ} {eR : ρ → En} {emb : ρ → γ} (he : Emb E post (fun _ => val tNon ()) eR emb) (hf : Fgt env (eR r)) : BK X E env tRetN (.ok (emb r)) post := by
  intro st vs σ H D ⟨F, w, g⟩ hq
  exact he r st vs D hq .non σ H (G.fgt ⟨F, w, g.pushV (T := tNon) rfl⟩ hf)
/-! if -/
theorem bk_if {mt : R ε δ} {b : δ → Bool} {et : δ → En} {ma mb : δ → R ε γ} (ht : TX X E env tt mt b et) (ha : ∀ x, BK X E (et x) t1 (ma x) post) (hb : ∀ x, BK X E (et x) t2 (mb x) post) : BK X E env (tIfS tt t1 t2) (mt.bind fun x => if b x = true then ma x else mb x) post := by
  intro st vs σ H D g hm
  rw [wp_bind] at hm
  refine ht st vs σ H _ g (wp_mono hm (fun x hm H1 g1 => ?_) fun e h => h σ)
  show if b x = true then t1 D σ H1 else t2 D σ H1
  cases hb' : b x with
  | true =>
    rw [hb', if_pos rfl] at hm
    rw [if_pos rfl]
    exact ha x st vs σ H1 D g1 hm
  | false =>
    rw [hb', if_neg Bool.false_ne_true] at hm
    rw [if_neg Bool.false_ne_true]
    exact hb x st vs σ H1 D g1 hm
/-- if whose first way returns, the second is empty -/
theorem bk_ifr {mt : R ε δ} {b : δ → Bool} {et : δ → En} {ma : δ → R ε ρ} {mb : δ → R ε γ} {R : ρ → SP} {eR : ρ → En} {emb : ρ → γ} (he : Emb E post R eR emb) (ht : TX X E env tt mt b et) (ha : ∀ x, BK X E (et x) t1 (ma x) (pR E R eR)) (hb : ∀ x, BK X E (et x) u (mb x) post) :
    BK X E env (tSeq (tIfS tt t1 tNext) u) (mt.bind fun x => if b x = true then (ma x).bind (fun r => .ok (emb r)) else mb x) post := by
  intro st vs σ H D g hm
  rw [wp_bind] at hm
  refine ht st vs σ H _ g (wp_mono hm (fun x hm H1 g1 => ?_) fun e h => h σ)
  show if b x = true then t1 _ σ H1 else u D σ H1
  cases hb' : b x with
  | true =>
    rw [hb', if_pos rfl, wp_bind] at hm
    rw [if_pos rfl]
    exact ha x st vs σ H1 _ g1 (wp_mono hm (fun r hq => he r st vs D hq) fun e h => h)
  | false =>
    rw [hb', if_neg Bool.false_ne_true] at hm
    rw [if_neg Bool.false_ne_true]
    exact hb x st vs σ H1 D g1 hm
/-- a way that never falls through, whatever stands behind -/
theorem bk_ifx {mt : R ε δ} {b : δ → Bool} {et : δ → En} {ma mb : δ → R ε γ} (ht : TX X E env tt mt b et) (ha : ∀ x, BK X E (et x) (tSeq t1 u) (ma x) post) (hb : ∀ x, BK X E (et x) (tSeq t2 u) (mb x) post) : BK X E env (tSeq (tIfS tt t1 t2) u) (mt.bind fun x => if b x = true then ma x else mb x) post := by
  intro st vs σ H D g hm
  rw [wp_bind] at hm
  refine ht st vs σ H _ g (wp_mono hm (fun x hm H1 g1 => ?_) fun e h => h σ)
  show if b x = true then t1 _ σ H1 else t2 _ σ H1
  cases hb' : b x with
  | true =>
    rw [hb', if_pos rfl] at hm
    rw [if_pos rfl]
    exact ha x st vs σ H1 D g1 hm
  | false =>
    rw [hb', if_neg Bool.false_ne_true] at hm
    rw [if_neg Bool.false_ne_true]
    exact hb x st vs σ H1 D g1 hm
/-- both ways fall through to J -/
theorem bk_ifj {mt : R ε δ} {b : δ → Bool} {et : δ → En} {ma mb : δ → R ε α} {k : α → R ε γ} {eJ : α → En} (ht : TX X E env tt mt b et) (ha : ∀ x, BK X E (et x) t1 (ma x) (pN E eJ)) (hb : ∀ x, BK X E (et x) t2 (mb x) (pN E eJ)) (hk : ∀ x, BK X E (eJ x) u (k x) post) :
    BK X E env (tSeq (tIfS tt t1 t2) u) (mt.bind fun x => (if b x = true then ma x else mb x).bind k) post := by
  intro st vs σ H D g hm
  rw [wp_bind] at hm
  refine ht st vs σ H _ g (wp_mono hm (fun x hm H1 g1 => ?_) fun e h => h σ)
  show if b x = true then t1 _ σ H1 else t2 _ σ H1
  rw [wp_bind] at hm
  cases hb' : b x with
  | true =>
    rw [hb', if_pos rfl] at hm
    rw [if_pos rfl]
    exact ha x st vs σ H1 _ g1 (wp_mono hm (fun y hm σ' H' g2 => hk y st vs σ' H' D g2 hm) fun e h => h)
  | false =>
    rw [hb', if_neg Bool.false_ne_true] at hm
    rw [if_neg Bool.false_ne_true]
    exact hb x st vs σ H1 _ g1 (wp_mono hm (fun y hm σ' H' g2 => hk y st vs σ' H' D g2 hm) fun e h => h)
/-- ways that end in several manners -/
def thenO {ε α σs ρ γ : Type} (o : R ε (Out α σs ρ)) (k : α → R ε γ) (hb hc : σs → γ) (hr : ρ → γ) : R ε γ := o.bind fun o => match o with
  | .nx a => k a
  | .brk b => .ok (hb b)
  | .ct b => .ok (hc b)
  | .ret r => .ok (hr r)
structure EmbO (E : Ent) (post : Post γ) (eL : σs → En) (R : ρ → SP) (eR : ρ → En) (hb hc : σs → γ) (hr : ρ → γ) : Prop where
  b : ∀ s st vs D, post (hb s) st vs D → ∀ σ' H', G E (eL s) st σ' vs H' → D.bk σ' H'
  c : ∀ s st vs D, post (hc s) st vs D → ∀ σ' H', G E (eL s) st σ' vs H' → D.ct σ' H'
  r : Emb E post R eR hr
theorem embO_R {R : ρ → SP} {eR : ρ → En} : EmbO (σs := Empty) E (pR E R eR) (fun _ => []) R eR Empty.elim Empty.elim id := ⟨fun b => b.elim, fun b => b.elim, emb_R⟩
theorem embO_P {eR : ρ → En} : EmbO (σs := Empty) E (pP E eR) (fun _ => []) (fun _ => val tNon ()) eR Empty.elim Empty.elim id := ⟨fun b => b.elim, fun b => b.elim, emb_P⟩
theorem embO_L {R : ρ → SP} {eR : ρ → En} {eN : α → En} {eL : σs → En} : EmbO E (pL E eN eL R eR) eL R eR Out.brk Out.ct Out.ret := ⟨fun _ _ _ _ h => h, fun _ _ _ _ h => h, emb_L⟩
/-- a block within another, its ends told apart -/
theorem bk_then {m : R ε (Out α σs ρ)} {k : α → R ε γ} {eJ : α → En} {eL : σs → En} {R : ρ → SP} {eR : ρ → En} {hb hc : σs → γ} {hr : ρ → γ} (eo : EmbO E post eL R eR hb hc hr) (h : BK X E env t m (pL E eJ eL R eR)) (hk : ∀ x, BK X E (eJ x) u (k x) post) : BK X E env (tSeq t u) (thenO m k hb hc hr) post := by
  intro st vs σ H D g hm
  unfold thenO at hm
  rw [wp_bind] at hm
  refine h st vs σ H _ g (wp_mono hm (fun o hm => ?_) fun e h => h)
  cases o with
  | nx a => exact fun σ' H' g2 => hk a st vs σ' H' D g2 hm
  | brk b => exact eo.b b st vs D hm
  | ct b => exact eo.c b st vs D hm
  | ret r => exact eo.r r st vs D hm
theorem bk_ifm {mt : R ε δ} {b : δ → Bool} {et : δ → En} {ma mb : δ → R ε (Out α σs ρ)} {k : α → R ε γ} {eJ : α → En} {eL : σs → En} {R : ρ → SP} {eR : ρ → En} {hb hc : σs → γ} {hr : ρ → γ} (eo : EmbO E post eL R eR hb hc hr) (ht : TX X E env tt mt b et)
    (h1 : ∀ x, BK X E (et x) t1 (ma x) (pL E eJ eL R eR)) (h2 : ∀ x, BK X E (et x) t2 (mb x) (pL E eJ eL R eR)) (hk : ∀ x, BK X E (eJ x) u (k x) post) :
    BK X E env (tSeq (tIfS tt t1 t2) u) (thenO (mt.bind fun x => if b x = true then ma x else mb x) k hb hc hr) post := bk_then eo (bk_if ht h1 h2) hk
/-! ### targets -/
theorem bk_asgT {m : R ε α} {S : α → SP} {e1 e2 : α → En} {k : α → R ε γ} {g : TG} (h : EX X E env te m S e1) (ha : ∀ x, AS E (e1 x) g (S x) (e2 x)) (hk : ∀ x, BK X E (e2 x) u (k x) post) : BK X E env (tSeq (tAsg te g) u) (m.bind k) post := by
  intro st vs σ H D gg hm
  rw [wp_bind] at hm
  exact h st vs σ H _ gg (wp_mono hm (fun x hm v H1 g1 => ha x st vs σ H1 _ v g1 fun σ' H' g2 => hk x st vs σ' H' D g2 hm) fun e h => h σ)
/-- a, b, .. = a tuple -/
def setNs : List Nat → List VP → En → En
  | i :: is, q :: qs, env => setNs is qs (env.set i (some q.sp))
  | _, _, env => env
def gNames : List Nat → TGs
  | [] => gNil
  | i :: is => gCons (gName i) (gNames is)
theorem as_names {st : List SP} {vs : List V} {H F : Hp} {Q : L2.St → Hp → Prop} : ∀ {is : List Nat} {qs : List VP} {xs : List V} {env : En} {σ : L2.St} {w : Ow}, is.length = qs.length → VPs F qs xs → GG E env st σ vs H F w → (∀ i ∈ is, i < env.length) →
    (∀ σ' w', GG E (setNs is qs env) st σ' vs H F w' → Q σ' H) → gNames is xs σ H Q
  | [], [], [], env, σ, w, _, _, g, _, hq => ⟨rfl, hq σ w g⟩
  | i :: is, q :: qs, x :: xs, env, σ, w, hl, h, g, hi, hq => by
    obtain ⟨w', g'⟩ := (g.re (env' := env) (st' := q.sp :: st) (vs' := x :: vs) (σ' := σ) (w' := w) (fun a l e => ⟨l, e⟩) g.env ⟨h.1, g.st⟩).store (i := i) (hi i (by simp))
    exact ⟨x, xs, rfl, as_names (is := is) (qs := qs) (by simpa using hl) h.2 g' (fun j hj => by rw [List.length_set]; exact hi j (by simp [hj])) hq⟩
  | [], _ :: _, _, _, _, _, hl, _, _, _, _ => by simp at hl
  | _ :: _, [], _, _, _, _, hl, _, _, _, _ => by simp at hl
  | [], [], _ :: _, _, _, _, _, h, _, _, _ => h.elim
  | _ :: _, _ :: _, [], _, _, _, _, h, _, _, _ => h.elim
theorem as_tup {K : PySem.W.Frag} {view : α → List VP} {x : α} (is : List Nat) (hl : is.length = (view x).length := by rfl) (hi : is.all (fun i => Nat.ble (i + 1) env.length) = true := by rfl) :
    AS E env (gTup K is.length (gNames is)) (val (tT view) x) (setNs is (view x) env) := by
  intro st vs σ H Q v ⟨F, w, g⟩ hq
  obtain ⟨a, xs, e, h, p⟩ := g.top
  refine ⟨a, xs, e, .of (g.ext.s _ _ h), by rw [p.len, hl], as_names hl p g.pop (fun i hj => ?_) fun σ' w' g' => hq σ' H ⟨F, w', g'⟩⟩
  exact Nat.le_of_ble_eq_true (List.all_eq_true.mp hi i hj)
/-! ### what is walked -/
/-- m: what is had; xs: the items; e': the names then -/
def IX {ε τ α : Type} (X : Xc ε) (E : Ent) (env : En) (wi : TI) (m : R ε τ) (xs : τ → List α) (S : α → SP) (e' : τ → En) : Prop :=
  ∀ (st : List SP) (vs : List V) (σ : L2.St) (H : Hp) (Q : It → Hp → Prop), G E env st σ vs H → wp m (fun c => ∀ J Z v H', Wk J (xs c) S Z v → G E (e' c) (Z :: st) σ (v :: vs) H' → Q J H') (xcl X E st vs σ) → wi σ H Q
theorem ix_L {K : PySem.W.Frag} {T : Ty α} {m : R ε δ} {xs : δ → List α} {e' : δ → En} (h : EX X E env te m (fun c => val (tL T) (xs c)) e') : IX X E env (iList K te) m xs (val T) e' := by
  intro st vs σ H Q gg hm
  refine h st vs σ H _ gg (wp_mono hm (fun c hq v H1 g1 => ?_) fun e h => h)
  obtain ⟨F, w, g1⟩ := g1
  obtain ⟨a, us, e, hh, p⟩ := g1.top
  cases e
  exact ⟨a, rfl, ⟨us, .of (g1.ext.s _ _ hh)⟩, hq _ _ _ _ wk_L ⟨F, w, g1⟩⟩
theorem ix_U {K : PySem.W.Frag} {T : Ty α} {m : R ε δ} {xs : δ → List α} {e' : δ → En} (h : EX X E env te m (fun c => val (tU T) (xs c)) e') : IX X E env (iTup K te) m xs (val T) e' := by
  intro st vs σ H Q gg hm
  refine h st vs σ H _ gg (wp_mono hm (fun c hq v H1 g1 => ?_) fun e h => h)
  obtain ⟨F, w, g1⟩ := g1
  obtain ⟨a, us, e, hh, p⟩ := g1.top
  cases e
  exact ⟨a, rfl, ⟨us, .of (g1.ext.s _ _ hh)⟩, hq _ _ _ _ wk_U ⟨F, w, g1⟩⟩
theorem ix_E {K : PySem.W.Frag} {T : Ty α} {m : R ε δ} {xs : δ → List α} {e' : δ → En} (h : EX X E env te m (fun c => val (tL T) (xs c)) e') : IX X E env (iEnum K (tCons te tNil)) m (fun c => enumL (xs c)) (val (tP tInt T)) e' := by
  intro st vs σ H Q gg hm
  refine h st vs σ H _ gg (wp_mono hm (fun c hq v H1 g1 => ?_) fun e h => h)
  obtain ⟨F, w, g1⟩ := g1
  obtain ⟨a, us, e, hh, p⟩ := g1.top
  cases e
  exact ⟨a, us, rfl, .of (g1.ext.s _ _ hh), hq _ _ _ _ wk_E ⟨F, w, g1⟩⟩
theorem ix_R1 {m : R ε δ} {n : δ → Int} {e' : δ → En} (h : EX X E env te m (fun c => val tInt (n c)) e') : IX X E env (iRng1 (tCons te tNil)) (m.bind fun c => R.of ((range1 (n c)).map fun l => (c, l))) (fun p => p.2) (val tInt) (fun p => e' p.1) := by
  intro st vs σ H Q gg hm
  rw [wp_bind] at hm
  refine h st vs σ H _ gg (wp_mono hm (fun c hm v H1 g1 => ?_) fun e h => h)
  obtain ⟨p, ep, hq⟩ := wp_of hm
  obtain ⟨l, el, rfl⟩ := Option.map_eq_some_iff.mp ep
  obtain ⟨⟨h1, h2⟩, el⟩ := grd_some el
  cases el
  obtain ⟨F, w, g1⟩ := g1
  exact ⟨n c, by rw [show v = V.int (n c) from g1.top], h2, h1, hq _ anyS .non _ wk_R (G.pushAny ⟨F, w, g1.pop⟩)⟩
theorem ix_R1p {m : R ε Int} (h : EV X E env te m (val tInt)) : IX X E env (iRng1 (tCons te tNil)) (m.bind fun n => R.of (range1 n)) id (val tInt) (fun _ => env) := by
  intro st vs σ H Q gg hm
  rw [wp_bind] at hm
  refine h st vs σ H _ gg (wp_mono hm (fun n hm v H1 g1 => ?_) fun e h => h)
  obtain ⟨p, ep, hq⟩ := wp_of hm
  obtain ⟨⟨h1, h2⟩, ep⟩ := grd_some ep
  cases ep
  obtain ⟨F, w, g1⟩ := g1
  exact ⟨n, by rw [show v = V.int n from g1.top], h2, h1, hq _ anyS .non _ wk_R (G.pushAny ⟨F, w, g1.pop⟩)⟩
theorem ix_R2p {ma mb : R ε Int} (ha : EV X E env ta ma (val tInt)) (hb : EV X E env tb mb (val tInt)) : IX X E env (iRng2 (tCons ta (tCons tb tNil))) (ma.bind fun a => mb.bind fun b => R.of (range2 a b)) id (val tInt) (fun _ => env) := by
  intro st vs σ H Q gg hm
  rw [wp_bind] at hm
  refine ha st vs σ H _ gg (wp_mono hm (fun a hm v H1 g1 => ?_) fun e h => h)
  rw [wp_bind] at hm
  refine hb _ _ σ H1 _ g1 (wp_mono hm (fun b hm u H2 g2 => ?_) xcl_push)
  obtain ⟨p, ep, hq⟩ := wp_of hm
  obtain ⟨hc, ep⟩ := grd_some ep
  cases ep
  obtain ⟨F, w, g2⟩ := g2
  refine ⟨a, b, ?_, hc, hq _ anyS .non _ wk_R (G.pushAny ⟨F, w, g2.pop.pop⟩)⟩
  rw [show u = V.int b from g2.top, show v = V.int a from g2.st.2.1]
theorem ix_to {wi : TI} {m : R ε δ} {xs : δ → List α} {S S' : α → SP} {e' : δ → En} (h : IX X E env wi m xs S e') (e : S = S') : IX X E env wi m xs S' e' := e ▸ h
/-! ### for -/
def forN {ε α σ : Type} : List α → σ → (α → σ → R ε σ) → R ε σ
  | [], s, _ => .ok s
  | x :: xs, s, f => (f x s).bind fun s' => forN xs s' f
def forK {ε σ ρ : Type} (k : σ → R ε (Sum σ ρ)) : Out σ σ ρ → R ε (Sum σ ρ)
  | .nx s => k s
  | .ct s => k s
  | .brk s => .ok (.inl s)
  | .ret r => .ok (.inr r)
def forL {ε α σ ρ : Type} : List α → σ → (α → σ → R ε (Out σ σ ρ)) → R ε (Sum σ ρ)
  | [], s, _ => .ok (.inl s)
  | x :: xs, s, f => (f x s).bind (forK fun s' => forL xs s' f)
@[simp] theorem forN_nil {ε α σ : Type} (s : σ) (f : α → σ → R ε σ) : forN [] s f = .ok s := rfl
@[simp] theorem forN_cons {ε α σ : Type} (x : α) (xs : List α) (s : σ) (f : α → σ → R ε σ) : forN (x :: xs) s f = (f x s).bind fun s' => forN xs s' f := rfl
@[simp] theorem forL_nil {ε α σ ρ : Type} (s : σ) (f : α → σ → R ε (Out σ σ ρ)) : forL [] s f = .ok (.inl s) := rfl
@[simp] theorem forL_cons {ε α σ ρ : Type} (x : α) (xs : List α) (s : σ) (f : α → σ → R ε (Out σ σ ρ)) : forL (x :: xs) s f = (f x s).bind (forK fun s' => forL xs s' f) := rfl
@[simp] theorem forK_nx {ε σ ρ : Type} (k : σ → R ε (Sum σ ρ)) (s : σ) : forK k (.nx s) = k s := rfl
@[simp] theorem forK_ct {ε σ ρ : Type} (k : σ → R ε (Sum σ ρ)) (s : σ) : forK k (.ct s) = k s := rfl
@[simp] theorem forK_brk {ε σ ρ : Type} (k : σ → R ε (Sum σ ρ)) (s : σ) : forK k (.brk s) = .ok (.inl s) := rfl
@[simp] theorem forK_ret {ε σ ρ : Type} (k : σ → R ε (Sum σ ρ)) (r : ρ) : forK k (.ret r) = .ok (.inr r) := rfl
theorem bk_forN {wi : TI} {g : TG} {tb : TS} {mx : R ε τ} {xs : τ → List α} {S : α → SP} {ei : τ → En} {eL : τ → σs → En} {eX : τ → α → σs → En} {s0 : τ → σs} {f : τ → α → σs → R ε σs} {k : τ → σs → R ε γ} (hi : IX X E env wi mx xs S ei) (h0 : ∀ c, Fgt (ei c) (eL c (s0 c))) (hg : ∀ c x s, AS E (eL c s) g (S x) (eX c x s))
    (hb : ∀ c x s, BK X E (eX c x s) tb (f c x s) (pN E (eL c))) (hk : ∀ c s, BK X E (eL c s) u (k c s) post) : BK X E env (tSeq (tFor wi g tb) u) (mx.bind fun c => (forN (xs c) (s0 c) (f c)).bind (k c)) post := by
  intro st vs σ H D gg hm
  rw [wp_bind] at hm
  refine hi st vs σ H _ gg (wp_mono hm (fun c hm J Z v H1 wk g1 => ?_) fun e h => h σ)
  rw [wp_bind] at hm
  refine ⟨fun i m σ' H' => m = (xs c).length - i ∧ ∃ s, G E (eL c s) (Z :: st) σ' (v :: vs) H' ∧ wp (forN ((xs c).drop i) s (f c)) (fun s => wp (k c s) (fun g => post g st vs D) (fun e => ∀ σ', xcl X E st vs σ' e)) (fun e => ∀ σ', xcl X E st vs σ' e), ⟨_, rfl, s0 c, g1.fgt (h0 c), by simpa using hm⟩, ?_⟩
  rintro i m σ' H' ⟨rfl, s, g2, e⟩
  obtain ⟨w1, w2⟩ := wk E (eL c s) [] st σ' [] vs H' i rfl g2
  cases hd : (xs c).drop i with
  | nil =>
    rw [hd] at e
    exact .inl ⟨w2 (drop_nil hd), hk c s st vs σ' H' D g2.popV e⟩
  | cons x r =>
    rw [hd] at e
    obtain ⟨d1, d2⟩ := drop_cons hd
    have e' := (wp_bind (m := f c x s) (k := fun s' => forN r s' (f c))).mp e
    obtain ⟨w3, w4⟩ := w1 x d1
    have hlt : i < (xs c).length := (List.getElem?_eq_some_iff.mp d1).1
    refine .inr ⟨w3, fun σ'' H'' => ∃ m', m' < (xs c).length - i ∧ m' = (xs c).length - (i + 1) ∧ ∃ s, G E (eL c s) (Z :: st) σ'' (v :: vs) H'' ∧ wp (forN ((xs c).drop (i + 1)) s (f c)) (fun s => wp (k c s) (fun g => post g st vs D) (fun e => ∀ σ', xcl X E st vs σ' e)) (fun e => ∀ σ', xcl X E st vs σ' e), fun σ'' H'' ⟨m', h1, h2, h3⟩ => ⟨m', h1, h2, h3⟩, fun xv H'' hy => ?_⟩
    refine hg c x s _ _ σ' H'' _ xv (w4 xv H'' hy) fun σ2 H2 g3 => ?_
    exact hb c x s _ _ σ2 H2 _ g3 (wp_mono e' (fun s' e2 σ3 H3 g4 => ⟨_, by omega, rfl, s', g4, by rw [d2]; exact e2⟩) fun e h σ' => xcl_push e (h σ'))
def thenS {ε σ ρ γ : Type} (o : R ε (Sum σ ρ)) (k : σ → R ε γ) (h : ρ → γ) : R ε γ := o.bind fun o => match o with
  | .inl s => k s
  | .inr r => .ok (h r)
@[simp] theorem thenS_ok_inl {ε σ ρ γ : Type} (s : σ) (k : σ → R ε γ) (h : ρ → γ) : thenS (.ok (.inl s) : R ε (Sum σ ρ)) k h = k s := rfl
@[simp] theorem thenS_ok_inr {ε σ ρ γ : Type} (r : ρ) (k : σ → R ε γ) (h : ρ → γ) : thenS (.ok (.inr r) : R ε (Sum σ ρ)) k h = .ok (h r) := rfl
@[simp] theorem thenO_nx {ε α σs ρ γ : Type} (a : α) (k : α → R ε γ) (hb hc : σs → γ) (hr : ρ → γ) : thenO (.ok (.nx a)) k hb hc hr = k a := rfl
@[simp] theorem thenO_ret {ε α σs ρ γ : Type} (r : ρ) (k : α → R ε γ) (hb hc : σs → γ) (hr : ρ → γ) : thenO (.ok (.ret r)) k hb hc hr = .ok (hr r) := rfl
@[simp] theorem thenO_brk {ε α σs ρ γ : Type} (r : σs) (k : α → R ε γ) (hb hc : σs → γ) (hr : ρ → γ) : thenO (.ok (.brk r)) k hb hc hr = .ok (hb r) := rfl
@[simp] theorem thenO_ct {ε α σs ρ γ : Type} (r : σs) (k : α → R ε γ) (hb hc : σs → γ) (hr : ρ → γ) : thenO (.ok (.ct r)) k hb hc hr = .ok (hc r) := rfl
/-- the body may return, break, continue -/
theorem bk_forL {wi : TI} {g : TG} {tb : TS} {mx : R ε τ} {xs : τ → List α} {S : α → SP} {ei : τ → En} {eL : τ → σs → En} {eX : τ → α → σs → En} {s0 : τ → σs} {f : τ → α → σs → R ε (Out σs σs ρ)} {k : τ → σs → R ε γ} {R : ρ → SP} {eR : ρ → En} {emb : ρ → γ} (he : Emb E post R eR emb)
    (hi : IX X E env wi mx xs S ei) (h0 : ∀ c, Fgt (ei c) (eL c (s0 c))) (hg : ∀ c x s, AS E (eL c s) g (S x) (eX c x s)) (hb : ∀ c x s, BK X E (eX c x s) tb (f c x s) (pL E (eL c) (eL c) R eR)) (hk : ∀ c s, BK X E (eL c s) u (k c s) post) :
    BK X E env (tSeq (tFor wi g tb) u) (mx.bind fun c => thenS (forL (xs c) (s0 c) (f c)) (k c) emb) post := by
  intro st vs σ H D gg hm
  rw [wp_bind] at hm
  refine hi st vs σ H _ gg (wp_mono hm (fun c hm J Z v H1 wk g1 => ?_) fun e h => h σ)
  unfold thenS at hm
  rw [wp_bind] at hm
  let Φ : Sum σs ρ → Prop := fun o => wp (match o with | .inl s => k c s | .inr r => (.ok (emb r) : NL.R ε γ)) (fun g => post g st vs D) (fun e => ∀ σ', xcl X E st vs σ' e)
  let Ξ : ε → Prop := fun e => ∀ σ', xcl X E st vs σ' e
  have hm : wp (forL (xs c) (s0 c) (f c)) Φ Ξ := wp_mono hm (fun o h => by cases o <;> exact h) fun e h => h
  have nxt : ∀ s, Φ (.inl s) → ∀ σ' H', G E (eL c s) (Z :: st) σ' (v :: vs) H' → u D σ' H' := fun s e σ' H' g2 => hk c s st vs σ' H' D g2.popV e
  refine ⟨fun i m σ' H' => m = (xs c).length - i ∧ ∃ s, G E (eL c s) (Z :: st) σ' (v :: vs) H' ∧ wp (forL ((xs c).drop i) s (f c)) Φ Ξ, ⟨_, rfl, s0 c, g1.fgt (h0 c), by simpa using hm⟩, ?_⟩
  rintro i m σ' H' ⟨rfl, s, g2, e⟩
  obtain ⟨w1, w2⟩ := wk E (eL c s) [] st σ' [] vs H' i rfl g2
  cases hd : (xs c).drop i with
  | nil =>
    rw [hd] at e
    exact .inl ⟨w2 (drop_nil hd), nxt s e σ' H' g2⟩
  | cons x r =>
    rw [hd] at e
    obtain ⟨d1, d2⟩ := drop_cons hd
    have e' := (wp_bind (m := f c x s) (k := forK fun s' => forL r s' (f c))).mp e
    obtain ⟨w3, w4⟩ := w1 x d1
    have hlt : i < (xs c).length := (List.getElem?_eq_some_iff.mp d1).1
    refine .inr ⟨w3, fun σ'' H'' => ∃ m', m' < (xs c).length - i ∧ m' = (xs c).length - (i + 1) ∧ ∃ s, G E (eL c s) (Z :: st) σ'' (v :: vs) H'' ∧ wp (forL ((xs c).drop (i + 1)) s (f c)) Φ Ξ, fun σ'' H'' ⟨m', h1, h2, h3⟩ => ⟨m', h1, h2, h3⟩, fun xv H'' hy => ?_⟩
    refine hg c x s _ _ σ' H'' _ xv (w4 xv H'' hy) fun σ2 H2 g3 => ?_
    refine hb c x s _ _ σ2 H2 _ g3 (wp_mono e' (fun o e2 => ?_) fun e h σ' => xcl_push e (h σ'))
    cases o with
    | nx s' => exact fun σ3 H3 g4 => ⟨_, by omega, rfl, s', g4, by rw [d2]; exact e2⟩
    | ct s' => exact fun σ3 H3 g4 => ⟨_, by omega, rfl, s', g4, by rw [d2]; exact e2⟩
    | brk s' => exact fun σ3 H3 g4 => nxt s' e2 σ3 H3 g4
    | ret r' => exact fun v' σ3 H3 g4 => he r' st vs D e2 v' σ3 H3 g4.nip
/-! ### while -/
def whileN {ε σ δ : Type} : Nat → σ → (σ → R ε δ) → (δ → Bool) → (δ → R ε σ) → R ε δ
  | 0, _, _, _, _ => .no
  | n + 1, s, c, b, f => (c s).bind fun x => if b x = true then (f x).bind fun s' => whileN n s' c b f else .ok x
/-- c: the test, x what it leaves; f: the body -/
theorem bk_whileN {tc : TT} {tb : TS} {eL : σs → En} {et : δ → En} {b : δ → Bool} {s0 : σs} {c : σs → R ε δ} {f : δ → R ε σs} {k : δ → R ε γ} (n : Nat) (h0 : Fgt env (eL s0)) (hc : ∀ s, TX X E (eL s) tc (c s) b et) (hb : ∀ x, BK X E (et x) tb (f x) (pN E eL)) (hk : ∀ x, BK X E (et x) u (k x) post) :
    BK X E env (tSeq (tWhile tc tb) u) ((whileN n s0 c b f).bind k) post := by
  intro st vs σ H D gg hm
  rw [wp_bind] at hm
  let Φ : δ → Prop := fun x => wp (k x) (fun g => post g st vs D) (fun e => ∀ σ', xcl X E st vs σ' e)
  let Ξ : ε → Prop := fun e => ∀ σ', xcl X E st vs σ' e
  refine ⟨fun m σ' H' => ∃ s, G E (eL s) st σ' vs H' ∧ wp (whileN m s c b f) Φ Ξ, ⟨n, s0, gg.fgt h0, hm⟩, ?_⟩
  rintro m σ' H' ⟨s, g2, e⟩
  rcases m with _ | m
  · exact e.elim
  · have e' := (wp_bind (m := c s) (k := fun x => if b x = true then (f x).bind fun s' => whileN m s' c b f else .ok x)).mp e
    refine hc s st vs σ' H' _ g2 (wp_mono e' (fun x e2 H2 g3 => ?_) fun e h => h σ')
    show if b x = true then _ else _
    cases hk' : b x with
    | true =>
      rw [hk', if_pos rfl, wp_bind] at e2
      rw [if_pos rfl]
      exact ⟨fun σ'' H'' => ∃ s, G E (eL s) st σ'' vs H'' ∧ wp (whileN m s c b f) Φ Ξ, fun σ'' H'' h => ⟨m, Nat.lt_succ_self m, h⟩, hb x st vs σ' H2 _ g3 (wp_mono e2 (fun s' e3 σ3 H3 g4 => ⟨s', g4, e3⟩) fun e h => h)⟩
    | false =>
      rw [hk', if_neg Bool.false_ne_true] at e2
      rw [if_neg Bool.false_ne_true]
      exact hk x st vs σ' H2 D g3 e2
def whK {ε σ δ ρ : Type} (k : σ → R ε (Sum (Sum δ σ) ρ)) : Out σ σ ρ → R ε (Sum (Sum δ σ) ρ)
  | .nx s => k s
  | .ct s => k s
  | .brk s => .ok (.inl (.inr s))
  | .ret r => .ok (.inr r)
def whileL {ε σ δ ρ : Type} : Nat → σ → (σ → R ε δ) → (δ → Bool) → (δ → R ε (Out σ σ ρ)) → R ε (Sum (Sum δ σ) ρ)
  | 0, _, _, _, _ => .no
  | n + 1, s, c, b, f => (c s).bind fun x => if b x = true then (f x).bind (whK fun s' => whileL n s' c b f) else .ok (.inl (.inl x))
/-- the body may return, break: behind a break and behind the test's no, J -/
theorem bk_whileL {tc : TT} {tb : TS} {eL : σs → En} {et : δ → En} {b : δ → Bool} {s0 : σs} {c : σs → R ε δ} {f : δ → R ε (Out σs σs ρ)} {k : σs → R ε γ} {R : ρ → SP} {eR : ρ → En} {emb : ρ → γ} (he : Emb E post R eR emb) (n : Nat) (out : δ → σs) (ho : ∀ x, Fgt (et x) (eL (out x))) (h0 : Fgt env (eL s0)) (hc : ∀ s, TX X E (eL s) tc (c s) b et)
    (hb : ∀ x, BK X E (et x) tb (f x) (pL E eL eL R eR)) (hk : ∀ x, BK X E (eL x) u (k x) post) :
    BK X E env (tSeq (tWhile tc tb) u) (thenS (whileL n s0 c b f) (fun s => k (match s with | .inl x => out x | .inr s => s)) emb) post := by
  intro st vs σ H D gg hm
  unfold thenS at hm
  rw [wp_bind] at hm
  let Φ : Sum (Sum δ σs) ρ → Prop := fun o => wp (match o with | .inl s => k (match s with | .inl x => out x | .inr s => s) | .inr r => (.ok (emb r) : NL.R ε γ)) (fun g => post g st vs D) (fun e => ∀ σ', xcl X E st vs σ' e)
  let Ξ : ε → Prop := fun e => ∀ σ', xcl X E st vs σ' e
  have hm : wp (whileL n s0 c b f) Φ Ξ := wp_mono hm (fun o h => by cases o <;> exact h) fun e h => h
  refine ⟨fun m σ' H' => ∃ s, G E (eL s) st σ' vs H' ∧ wp (whileL m s c b f) Φ Ξ, ⟨n, s0, gg.fgt h0, hm⟩, ?_⟩
  rintro m σ' H' ⟨s, g2, e⟩
  rcases m with _ | m
  · exact e.elim
  · have e' := (wp_bind (m := c s) (k := fun x => if b x = true then (f x).bind (whK fun s' => whileL m s' c b f) else .ok (.inl (.inl x)))).mp e
    refine hc s st vs σ' H' _ g2 (wp_mono e' (fun x e2 H2 g3 => ?_) fun e h => h σ')
    show if b x = true then _ else _
    cases hk' : b x with
    | true =>
      rw [hk', if_pos rfl, wp_bind] at e2
      rw [if_pos rfl]
      refine ⟨fun σ'' H'' => ∃ s, G E (eL s) st σ'' vs H'' ∧ wp (whileL m s c b f) Φ Ξ, fun σ'' H'' h => ⟨m, Nat.lt_succ_self m, h⟩, hb x st vs σ' H2 _ g3 (wp_mono e2 (fun o e3 => ?_) fun e h => h)⟩
      cases o with
      | nx s' => exact fun σ3 H3 g4 => ⟨s', g4, e3⟩
      | ct s' => exact fun σ3 H3 g4 => ⟨s', g4, e3⟩
      | brk s' => exact fun σ3 H3 g4 => hk s' st vs σ3 H3 D g4 e3
      | ret r => exact he r st vs D e3
    | false =>
      rw [hk', if_neg Bool.false_ne_true] at e2
      rw [if_neg Bool.false_ne_true]
      exact hk (out x) st vs σ' H2 D (g3.fgt (ho x)) e2
/-! ### from now on all may know it; its place is named -/
theorem bk_frzS {S : SP} {q : VP} (i : Nat) {m : R ε γ} (h : env[i]? = some (some S)) (z : Fz S q) (hk : BK X E (env.set i (some q.sp)) u m post) : BK X E env u m post := by
  intro st vs σ H D ⟨F, w, g⟩ hm
  obtain ⟨F', w', g'⟩ := g.frzE h z
  exact hk st vs σ H D ⟨F', w', g'⟩ hm
theorem G.pin {S : SP} {S' : Addr → SP} {i : Nat} {st : List SP} {σ : L2.St} {vs : List V} {H : Hp} (gg : G E env st σ vs H) (h : env[i]? = some (some S)) (z : Pn S S') : ∃ p, G E (env.set i (some (S' p))) st σ vs H := by
  obtain ⟨F, w, g⟩ := gg
  have hi : i < env.length := (List.getElem?_eq_some_iff.mp h).1
  obtain ⟨v, e1, e2⟩ := g.env.2 i S h
  obtain ⟨p, e3⟩ := z F H _ v e2
  refine ⟨p, F, w, g.re (fun a l e => ⟨l, e⟩) ⟨by simpa using g.env.1, fun j T e => ?_⟩ g.st⟩
  by_cases hj : i = j
  · subst hj
    rw [List.getElem?_set_self hi] at e
    cases e
    exact ⟨v, e1, e3⟩
  · rw [List.getElem?_set_ne hj] at e
    exact g.env.2 j T e
theorem bk_pin {S : SP} {S' : Addr → SP} (i : Nat) {m : R ε γ} (h : env[i]? = some (some S)) (z : Pn S S') (hk : ∀ p, BK X E (env.set i (some (S' p))) u m post) : BK X E env u m post := by
  intro st vs σ H D gg hm
  obtain ⟨p, g⟩ := G.pin gg h z
  exact hk p st vs σ H D g hm
theorem ex_pin {S : SP} {S' : Addr → SP} (i : Nat) {m : R ε α} {T : α → SP} {e' : α → En} (h : env[i]? = some (some S)) (z : Pn S S') (hk : ∀ p, EX X E (env.set i (some (S' p))) te m T e') : EX X E env te m T e' := by
  intro st vs σ H Q gg hm
  obtain ⟨p, g⟩ := G.pin gg h z
  exact hk p st vs σ H Q g hm
theorem tx_pin {S : SP} {S' : Addr → SP} (i : Nat) {m : R ε α} {b : α → Bool} {e' : α → En} (h : env[i]? = some (some S)) (z : Pn S S') (hk : ∀ p, TX X E (env.set i (some (S' p))) tt m b e') : TX X E env tt m b e' := by
  intro st vs σ H Q gg hm
  obtain ⟨p, g⟩ := G.pin gg h z
  exact hk p st vs σ H Q g hm
/-! ### read only: nothing that ends in an error -/
def Xc.no (X : Xc ε) : Xc ε := ⟨X.W, fun _ _ _ _ => False, fun _ => []⟩
theorem xcl_no {st : List SP} {vs : List V} {σ : L2.St} (e : ε) : xcl X.no E st vs σ e := fun _ _ _ _ _ _ k => k.elim
theorem ex_brw {env' : En} {T : Ty α} {m : R ε α} (fl : Nb T) (b : Brw env env') (h : ∀ F H, EV X.no (.mk0 F H) env' te m (val T)) : EV X E env te m (val T) := by
  intro st vs σ H Q ⟨F, w, g⟩ hm
  obtain ⟨Fp, s1, s2, h1, h2, g1⟩ := g.brw b
  refine h Fp H [] [] σ H Q ⟨Fp, _, g1⟩ (wp_mono hm (fun x hq v H' ⟨F', w', g'⟩ => ?_) fun e h => xcl_no e)
  obtain ⟨F2, g2, hF2, hF3, _⟩ := g.unbrw s1 h1 h2 g'.ext.to0
  exact hq v H' ⟨F2, w, g2.pushV (fl _ _ _ _ hF3 g'.top)⟩
theorem tx_brw {env' : En} {m : R ε Bool} (b : Brw env env') (h : ∀ F H, TP X.no (.mk0 F H) env' tt m) : TP X E env tt m := by
  intro st vs σ H Q ⟨F, w, g⟩ hm
  obtain ⟨Fp, s1, s2, h1, h2, g1⟩ := g.brw b
  refine h Fp H [] [] σ H Q ⟨Fp, _, g1⟩ (wp_mono hm (fun x hq H' ⟨F', w', g'⟩ => ?_) fun e h => xcl_no e)
  obtain ⟨F2, g2, hF2, _⟩ := g.unbrw s1 h1 h2 g'.ext.to0
  exact hq H' ⟨F2, w, g2⟩
/-- a new thing made of read things -/
def NbO (S : SP) : Prop := ∀ (F F2 H : Hp) (o : Addr → Prop) (v : V), (∀ a us, F a = some (.tup us) → F2 a = some (.tup us)) → S.ok F H o v → S.ok F2 H o v
theorem nbo_mu {φ : V → Prop} {T : Ty α} {xs : List α} (fl : Nb T) : NbO (muL φ T xs) := fun F F2 H o v s ⟨a, us, e, f, ho, hh, p⟩ => ⟨a, us, e, f, ho, hh, Paired.mono p fun _ _ => fl _ _ _ _ s⟩
theorem ex_brwO {env' : En} {S : α → SP} {m : R ε α} (fl : ∀ x, NbO (S x)) (b : Brw env env') (h : ∀ F H, EV X.no (.mk0 F H) env' te m S) : EV X E env te m S := by
  intro st vs σ H Q ⟨F, w, g⟩ hm
  obtain ⟨Fp, s1, s2, h1, h2, g1⟩ := g.brw b
  refine h Fp H [] [] σ H Q ⟨Fp, _, g1⟩ (wp_mono hm (fun x hq v H' ⟨F', w', g'⟩ => ?_) fun e h => xcl_no e)
  obtain ⟨F2, g2, hF2, hF3, _⟩ := g.unbrw s1 h1 h2 g'.ext.to0
  refine hq _ H' ⟨F2, _, g2.addTop (N := w'.of (.s 0)) (fun b z => ?_) (fl x _ _ _ _ _ hF3 g'.st.1)⟩
  obtain ⟨q1, q2, q3⟩ := g'.own b _ z
  have hHa : H b = none := by
    rcases q3 with z | z
    · exact z
    · exact z.elim
  refine ⟨?_, hF2 b q1, q2, g.ext.t b hHa⟩
  cases e : w b with
  | none => rfl
  | some l => exact absurd hHa (g.own b l e).2.1
end
end NL

set_option Elab.async false
set_option linter.all false
set_option maxRecDepth 100000
set_option maxHeartbeats 4000000
/-! NL: calls -/
namespace NL
open PySem PySem.Spec PyProof.Rows L2 ML
/-! ### errors -/
abbrev Exn : Type := Str × List (Str × V)
/-- how an error lies: its class, its own dict -/
def ErrOk (mg : Str → Option Value) (x : Exn) (c : Value) (d : Option Addr) (F : Hp) : Prop := mg x.1 = some c ∧ ((x.2 = [] ∧ d = none) ∨ (x.2 ≠ [] ∧ ∃ a, d = some a ∧ F a = some (.xd x.2)))
/-! ### the promise -/
def spX {ε A ρ : Type} (mg : Str → Option Value) (As : A → List SP) (f : A → R ε ρ) (Rr : A → ρ → SP) (Bs : A → ρ → List (Option SP)) (ex : ε → Exn) (Xs : A → ε → List (Option SP)) : Sp := fun vs H Q W =>
  ∃ (a : A) (F : Hp) (w : Ow), Pre F H w (As a) vs ∧ wp (f a) (fun r => ∀ v F' H' w', Pst F H w F' H' w' (Rr a r) (Bs a r) v vs → Q v H') (fun e => ∀ c d F' H' w', Pst F H w F' H' w' anyS (Xs a e) .non vs → ErrOk mg (ex e) c d F' → W c d H')
theorem spX_len {ε A ρ : Type} {mg : Str → Option Value} {As : A → List SP} {f : A → R ε ρ} {Rr : A → ρ → SP} {Bs : A → ρ → List (Option SP)} {ex : ε → Exn} {Xs : A → ε → List (Option SP)} {vs : List V} {H : Hp} {Q : VK} {W : XK} {n : Nat} (h : spX mg As f Rr Bs ex Xs vs H Q W) (hn : ∀ a, (As a).length = n) : vs.length = n := by
  obtain ⟨a, F, w, p, _⟩ := h
  rw [← p.len, hn]
section
variable {ε ε' α β γ δ ρ τ : Type} {X : Xc ε} {E : Ent} {env env' : En} {te ta tb tc ti : TE} {tt tu : TT} {u t t1 t2 : TS} {post : Post γ}
/-- what a body may change of its arguments is at its place -/
def Pins {A ρ : Type} (As : A → List SP) (Bs : A → ρ → List (Option SP)) : Prop := ∀ (a : A) (r : ρ) (k : Nat) (S : SP), (Bs a r)[k]? = some (some S) → ∃ (v : V) (S0 : SP), Pin S v ∧ (As a)[k]? = some S0 ∧ Pin S0 v
theorem GG.entry {A : Type} {As : A → List SP} {N : List Str} {vs : List V} {H F : Hp} {w : Ow} {a : A} (p : Pre F H w (As a) vs) (hn : (As a).length ≤ N.length) : GG ⟨F, H, fun a => w a ≠ none⟩ (enterS N.length (As a)) [] (L2.start N vs) [] H F w := by
  refine ⟨ExtE.refl p.s, ⟨by simp [enterS, L2.start, p.len], fun i S e => ?_⟩, trivial, fun b l e => ⟨(p.own b l e).1, (p.own b l e).2, .inr (by show w b ≠ none; rw [e]; intro z; cases z)⟩⟩
  unfold enterS at e
  by_cases hi : i < (As a).length
  · rw [List.getElem?_append_left (by simpa using hi)] at e
    rw [List.getElem?_map] at e
    obtain ⟨S', e1, e2⟩ := Option.map_eq_some_iff.mp e
    cases e2
    obtain ⟨v, e3, e4⟩ := p.ok i S e1
    refine ⟨v, ?_, e4⟩
    unfold L2.start
    rw [List.getElem?_append_left (by simp; rw [← p.len]; exact hi), List.getElem?_map, e3]
    rfl
  · rw [List.getElem?_append_right (by simp; omega)] at e
    have := List.mem_of_getElem? e
    simp at this
theorem GG.leave {A ρ : Type} {As : A → List SP} {Bs : A → ρ → List (Option SP)} {vs : List V} {H F F' H' : Hp} {w w' : Ow} {a : A} {r : ρ} {S : SP} {v : V} {σ' : L2.St} (p : Pre F H w (As a) vs) (hp : Pins As Bs) (g' : GG ⟨F, H, fun a => w a ≠ none⟩ (Bs a r) [S] σ' [v] H' F' w') : Pst F H w F' H' w' S (Bs a r) v vs := by
  refine ⟨g'.ext, g'.st.1, fun k S e => ?_, fun b l e => g'.own b l e⟩
  obtain ⟨u, e1, e2⟩ := g'.env.2 k S e
  obtain ⟨v0, S0, p1, p2, p3⟩ := hp a r k S e
  obtain ⟨v1, e3, e4⟩ := p.ok k S0 p2
  have := p1 _ _ _ _ e2
  have := p3 _ _ _ _ e4
  subst_vars
  exact ⟨_, e3, e2⟩
/-- the wish of errors within a body -/
abbrev xcOf (mg : Str → Option Value) (W : XK) (ex : ε → Exn) (en : ε → En) : Xc ε := ⟨fun c d _ H => W c d H, fun e => ErrOk mg (ex e), en⟩
theorem run_X {mg : Str → Option Value} {A : Type} {As : A → List SP} {f : A → R ε ρ} {Rr : A → ρ → SP} {Bs : A → ρ → List (Option SP)} {ex : ε → Exn} {Xs : A → ε → List (Option SP)} {N : List Str} {vs : List V} {H : Hp} {Q : VK} {W : XK} {D : Ends} (h : spX mg As f Rr Bs ex Xs vs H Q W) (hn : ∀ a, (As a).length ≤ N.length) (hD : D.rt = Q)
    (hp : Pins As Bs) (hpx : Pins As Xs) (hb : ∀ (a : A) (E : Ent), BK (xcOf mg W ex (Xs a)) E (enterS N.length (As a)) t (f a) (pR E (Rr a) (Bs a))) : t D (L2.start N vs) H := by
  obtain ⟨a, F, w, p, hf⟩ := h
  refine hb a _ [] [] (L2.start N vs) H D ⟨F, _, GG.entry p (hn a)⟩ (wp_mono hf (fun r q v σ' H' ⟨F', w', g'⟩ => ?_) fun e q σ' c d H' F' w' g' k => ?_)
  · rw [hD]
    exact q v F' H' w' (GG.leave p hp g')
  · exact q c d F' H' w' (GG.leave (S := anyS) (v := .non) p hpx (g'.re (fun a l e => ⟨l, e⟩) g'.env ⟨trivial, g'.st⟩)) k
theorem run_XP {mg : Str → Option Value} {A : Type} {As : A → List SP} {f : A → R ε ρ} {Bs : A → ρ → List (Option SP)} {ex : ε → Exn} {Xs : A → ε → List (Option SP)} {N : List Str} {vs : List V} {H : Hp} {Q : VK} {W : XK} {D : Ends} (h : spX mg As f (fun _ _ => val tNon ()) Bs ex Xs vs H Q W) (hn : ∀ a, (As a).length ≤ N.length) (hD : D.rt = Q) (hN : D.nx = fun _ H' => Q .non H')
    (hp : Pins As Bs) (hpx : Pins As Xs) (hb : ∀ (a : A) (E : Ent), BK (xcOf mg W ex (Xs a)) E (enterS N.length (As a)) t (f a) (pP E (Bs a))) : t D (L2.start N vs) H := by
  obtain ⟨a, F, w, p, hf⟩ := h
  refine hb a _ [] [] (L2.start N vs) H D ⟨F, _, GG.entry p (hn a)⟩ (wp_mono hf (fun r q => ⟨fun σ' H' ⟨F', w', g'⟩ => ?_, fun v σ' H' ⟨F', w', g'⟩ => ?_⟩) fun e q σ' c d H' F' w' g' k => ?_)
  · rw [hN]
    exact q .non F' H' w' (GG.leave p hp (g'.pushV (T := tNon) rfl))
  · rw [hD]
    exact q v F' H' w' (GG.leave p hp g')
  · exact q c d F' H' w' (GG.leave (S := anyS) (v := .non) p hpx (g'.re (fun a l e => ⟨l, e⟩) g'.env ⟨trivial, g'.st⟩)) k
/-! ### the call: what is granted -/
structure Gt where
  l : Lb
  k : Nat
  O : Addr → Prop
open Classical in
noncomputable def wcOf (L : List Gt) : Ow := fun b => if h : ∃ n ∈ L, n.O b then some (.e (Classical.choose h).k) else none
structure GtOk (w : Ow) (L : List Gt) : Prop where
  l : ∀ n ∈ L, ∀ m ∈ L, n.l = m.l → n = m
  k : ∀ n ∈ L, ∀ m ∈ L, n.k = m.k → n = m
  o : ∀ n ∈ L, ∀ b, n.O b → w b = some n.l
theorem GtOk.of {w : Ow} {L : List Gt} (g : GtOk w L) : ∀ n ∈ L, (wcOf L).of (.e n.k) = n.O := fun n hn => funext fun b => propext (by
  classical
  show (if h : ∃ n ∈ L, n.O b then some (Lb.e (Classical.choose h).k) else none) = some (.e n.k) ↔ n.O b
  constructor
  · intro e
    by_cases h : ∃ n ∈ L, n.O b
    · rw [dif_pos h] at e
      obtain ⟨c1, c2⟩ := Classical.choose_spec h
      injection e with e
      injection e with e
      rw [← g.k _ c1 n hn e]; exact c2
    · rw [dif_neg h] at e; cases e
  · intro o
    have h : ∃ n ∈ L, n.O b := ⟨n, hn, o⟩
    rw [dif_pos h]
    obtain ⟨c1, c2⟩ := Classical.choose_spec h
    have e1 := g.o _ c1 b c2
    have e2 := g.o n hn b o
    rw [e1] at e2
    injection e2 with e2
    rw [g.l _ c1 n hn e2])
theorem wc_in {L : List Gt} : ∀ b, wcOf L b ≠ none → ∃ n ∈ L, n.O b := fun b h => by
  classical
  by_cases z : ∃ n ∈ L, n.O b
  · exact z
  · exact absurd (dif_neg z) h
def Lb.isE : Lb → Bool
  | .e _ => true
  | .s _ => false
open Classical in
/-- whose is what behind the call -/
noncomputable def wnOf (w w' : Ow) (L : List Gt) (n0 : Nat) : Ow := fun b => if w' b = some (.s 0) then some (.s n0) else if h : ∃ n ∈ L, Lb.isE n.l = true ∧ w' b = some (.e n.k) then some (Classical.choose h).l else if wcOf L b ≠ none then none else if ∃ j, n0 ≤ j ∧ w b = some (.s j) then none else w b
theorem GG.after {st : List SP} {σ : L2.St} {vs ps : List V} {H F H' F' : Hp} {w w' : Ow} {L : List Gt} {S : SP} {Bs : List (Option SP)} {v : V} (g : GG E env st σ vs H F w) (go : GtOk w L) (hs : ∀ n ∈ L, ∀ j, n.l = .s j → st.length ≤ j) (z : Pst F H (wcOf L) F' H' w' S Bs v ps)
    (henv : env'.length ≤ env.length ∧ ∀ (i : Nat) (S' : SP), env'[i]? = some (some S') → (∃ n ∈ L, n.l = .e i ∧ ∃ u, σ[i]? = some (some u) ∧ S'.ok F' H' (fun b => w'.of (.e n.k) b ∨ (w b = some n.l ∧ ¬ n.O b)) u) ∨ ((∀ n ∈ L, n.l ≠ .e i) ∧ env[i]? = some (some S'))) :
    GG E env' (S :: st) σ (v :: vs) H' F' (wnOf w w' L st.length) := by
  classical
  have part : ∀ b, wcOf L b ≠ none → ∃ n ∈ L, n.O b ∧ w b = some n.l := fun b h => by
    obtain ⟨n, hn, o⟩ := wc_in b h
    exact ⟨n, hn, o, go.o n hn b o⟩
  have keep : ∀ b, w' b ≠ none → wcOf L b = none → w b = none := fun b h1 h2 => by
    obtain ⟨l, e⟩ := ne_some h1
    rcases (z.own b l e).2.2 with y | y
    · cases q : w b with
      | none => rfl
      | some l => exact absurd y (g.own b l q).2.1
    · exact absurd h2 y
  have d0 : ∀ b, wnOf w w' L st.length b = (if w' b = some (.s 0) then some (Lb.s st.length) else if h : ∃ n ∈ L, Lb.isE n.l = true ∧ w' b = some (.e n.k) then some (Classical.choose h).l else if wcOf L b ≠ none then none else if ∃ j, st.length ≤ j ∧ w b = some (.s j) then none else w b) := fun b => rfl
  have ch : ∀ b (h : ∃ n ∈ L, Lb.isE n.l = true ∧ w' b = some (.e n.k)), ∀ m ∈ L, w' b = some (.e m.k) → (Classical.choose h).l = m.l := fun b h m hm e => by
    obtain ⟨c1, c2, c3⟩ := Classical.choose_spec h
    have c4 := e.symm.trans c3
    injection c4 with c4
    injection c4 with c4
    rw [go.k _ c1 m hm c4.symm]
  -- the answer's slot
  have wn_s : (wnOf w w' L st.length).of (.s st.length) = w'.of (.s 0) := funext fun b => propext (by
    show wnOf w w' L st.length b = some (.s st.length) ↔ w' b = some (.s 0)
    rw [d0]
    by_cases h0 : w' b = some (.s 0)
    · rw [if_pos h0]; exact ⟨fun _ => h0, fun _ => rfl⟩
    · rw [if_neg h0]
      refine ⟨fun e => ?_, fun e => absurd e h0⟩
      by_cases h1 : ∃ n ∈ L, Lb.isE n.l = true ∧ w' b = some (.e n.k)
      · rw [dif_pos h1] at e
        obtain ⟨c1, c2, c3⟩ := Classical.choose_spec h1
        injection e with e
        rw [e] at c2
        cases c2
      · rw [dif_neg h1] at e
        by_cases h2 : wcOf L b ≠ none
        · rw [if_pos h2] at e; cases e
        · rw [if_neg h2] at e
          by_cases h3 : ∃ j, st.length ≤ j ∧ w b = some (.s j)
          · rw [if_pos h3] at e; cases e
          · rw [if_neg h3] at e
            exact absurd ⟨_, Nat.le_refl _, e⟩ h3)
  -- slots that the call does not touch
  have wn_other : ∀ l, (∀ j, l = .s j → j < st.length) → (∀ n ∈ L, l ≠ n.l) → ∀ b, wnOf w w' L st.length b = some l ↔ w b = some l := fun l n1 n2 b => by
    rw [d0]
    by_cases h0 : w' b = some (.s 0)
    · rw [if_pos h0]
      refine ⟨fun e => ?_, fun e => ?_⟩
      · have := n1 st.length (Option.some.inj e).symm
        omega
      · by_cases h2 : wcOf L b = none
        · rw [keep b (some_ne h0) h2] at e; cases e
        · obtain ⟨n, hn, _, e2⟩ := part b h2
          rw [e] at e2
          exact absurd (Option.some.inj e2) (n2 n hn)
    · rw [if_neg h0]
      by_cases h1 : ∃ n ∈ L, Lb.isE n.l = true ∧ w' b = some (.e n.k)
      · rw [dif_pos h1]
        obtain ⟨c1, c2, c3⟩ := Classical.choose_spec h1
        refine ⟨fun e => absurd (Option.some.inj e).symm (n2 _ c1), fun e => ?_⟩
        by_cases h2 : wcOf L b = none
        · rw [keep b (some_ne c3) h2] at e; cases e
        · obtain ⟨n, hn, _, e2⟩ := part b h2
          rw [e] at e2
          exact absurd (Option.some.inj e2) (n2 n hn)
      · rw [dif_neg h1]
        by_cases h2 : wcOf L b ≠ none
        · rw [if_pos h2]
          refine ⟨fun e => (by cases e), fun e => ?_⟩
          obtain ⟨n, hn, _, e2⟩ := part b h2
          rw [e] at e2
          exact absurd (Option.some.inj e2) (n2 n hn)
        · rw [if_neg h2]
          by_cases h3 : ∃ j, st.length ≤ j ∧ w b = some (.s j)
          · rw [if_pos h3]
            refine ⟨fun e => (by cases e), fun e => ?_⟩
            obtain ⟨j, hj, e3⟩ := h3
            rw [e] at e3
            have := n1 j (Option.some.inj e3)
            omega
          · rw [if_neg h3]
  have wn_nm : ∀ n ∈ L, ∀ i, n.l = .e i → (wnOf w w' L st.length).of (.e i) = fun b => w'.of (.e n.k) b ∨ (w b = some n.l ∧ ¬ n.O b) := fun n hn i hi => funext fun b => propext (by
    show wnOf w w' L st.length b = some (.e i) ↔ w' b = some (.e n.k) ∨ (w b = some n.l ∧ ¬ n.O b)
    rw [d0]
    have old : w b = some n.l → ¬ n.O b → wcOf L b = none ∧ w' b = none := fun e no => by
      have q : wcOf L b = none := by
        cases q : wcOf L b with
        | none => rfl
        | some l =>
          obtain ⟨m, hm, o, e2⟩ := part b (some_ne q)
          rw [e] at e2
          rw [go.l n hn m hm (Option.some.inj e2)] at no
          exact absurd o no
      refine ⟨q, ?_⟩
      cases q2 : w' b with
      | none => rfl
      | some l => rw [keep b (some_ne q2) q] at e; cases e
    by_cases h0 : w' b = some (.s 0)
    · rw [if_pos h0]
      refine ⟨fun e => (by cases e), ?_⟩
      rintro (e | ⟨e, no⟩)
      · rw [h0] at e; cases e
      · rw [(old e no).2] at h0; cases h0
    · rw [if_neg h0]
      by_cases h1 : ∃ n ∈ L, Lb.isE n.l = true ∧ w' b = some (.e n.k)
      · rw [dif_pos h1]
        obtain ⟨c1, c2, c3⟩ := Classical.choose_spec h1
        constructor
        · intro e
          left
          have e' := Option.some.inj e
          rw [← go.l _ c1 n hn (e'.trans hi.symm)]; exact c3
        · rintro (e | ⟨e, no⟩)
          · rw [ch b h1 n hn e, hi]
          · have c4 := (old e no).2.symm.trans c3; cases c4
      · rw [dif_neg h1]
        have h1' : w' b ≠ some (.e n.k) := fun e => h1 ⟨n, hn, by rw [hi]; rfl, e⟩
        by_cases h2 : wcOf L b ≠ none
        · rw [if_pos h2]
          refine ⟨fun e => (by cases e), ?_⟩
          rintro (e | ⟨e, no⟩)
          · exact absurd e h1'
          · exact absurd (old e no).1 h2
        · rw [if_neg h2]
          by_cases h3 : ∃ j, st.length ≤ j ∧ w b = some (.s j)
          · rw [if_pos h3]
            refine ⟨fun e => (by cases e), ?_⟩
            obtain ⟨j, _, e3⟩ := h3
            rintro (e | ⟨e, _⟩)
            · exact absurd e h1'
            · rw [e, hi] at e3; cases e3
          · rw [if_neg h3, ← hi]
            refine ⟨fun e => .inr ⟨e, fun o => h2 ?_⟩, ?_⟩
            · have := congrFun (go.of n hn) b
              show wcOf L b ≠ none
              rw [show wcOf L b = some (.e n.k) from (this ▸ o : (wcOf L).of (.e n.k) b)]
              intro z; cases z
            · rintro (e | ⟨e, _⟩)
              · exact absurd e h1'
              · exact e)
  have hH : ∀ b, w b ≠ none → wcOf L b = none → H' b = H b := fun b h1 h2 => by
    obtain ⟨l, e⟩ := ne_some h1
    obtain ⟨o, eo⟩ := ne_some (g.own b l e).2.1
    rw [eo]
    exact z.ext.h b o (fun y => y h2) eo
  have sF : Same F F' := z.ext.f
  have free : ∀ l, (∀ n ∈ L, l ≠ n.l) → ∀ b, w b = some l → wcOf L b = none := fun l hl b hb => by
    cases q : wcOf L b with
    | none => rfl
    | some l' =>
      obtain ⟨m, hm, o, e3⟩ := part b (some_ne q)
      rw [hb] at e3
      exact absurd (Option.some.inj e3) (hl m hm)
  refine ⟨?_, ⟨Nat.le_trans henv.1 g.env.1, fun i S' e => ?_⟩, ⟨by rw [wn_s]; exact z.ret, ?_⟩, fun b l e => ?_⟩
  · exact g.ext.tr z.ext fun b hb => by
      obtain ⟨n, hn, o, e⟩ := part b hb
      exact (g.own b _ e).2.2
  · rcases henv.2 i S' e with ⟨n, hn, hi, u, e1, e2⟩ | ⟨hn, e0⟩
    · exact ⟨u, e1, by rw [wn_nm n hn i hi]; exact e2⟩
    · obtain ⟨u', e1, e2⟩ := g.env.2 i S' e0
      refine ⟨u', e1, ?_⟩
      rw [ofq (wn_other (.e i) (fun j y => by cases y) fun n hm y => hn n hm y.symm)]
      exact S'.mono e2 sF fun b hb => hH b (some_ne hb) (free (.e i) (fun n hm y => hn n hm y.symm) b hb)
  · have key : ∀ {st' : List SP} {vs' : List V}, StOk F H w st' vs' → st'.length ≤ st.length → StOk F' H' (wnOf w w' L st.length) st' vs' := by
      intro st'
      induction st' with
      | nil => intro vs' h' _; cases vs' with
        | nil => trivial
        | cons _ _ => exact h'.elim
      | cons S st' ih => intro vs' h' hl; cases vs' with
        | nil => exact h'.elim
        | cons v' vs' =>
          have hlt : st'.length < st.length := by simp at hl; omega
          have nl : ∀ n ∈ L, Lb.s st'.length ≠ n.l := fun n hm y => by
            have := hs n hm _ y.symm
            omega
          refine ⟨?_, ih h'.2 (by omega)⟩
          rw [ofq (wn_other (.s st'.length) (fun j y => by injection y with y; omega) nl)]
          exact S.mono h'.1 sF fun b hb => hH b (some_ne hb) (free _ nl b hb)
    exact key g.st (Nat.le_refl _)
  · rw [d0] at e
    have old : ∀ l, w' b = some l → F' b = none ∧ H' b ≠ none ∧ (E.H b = none ∨ E.P b) := fun l h => by
      obtain ⟨q1, q2, q3⟩ := z.own b l h
      refine ⟨q1, q2, ?_⟩
      rcases q3 with y | y
      · exact .inl (g.ext.t b y)
      · obtain ⟨n, hn, _, e2⟩ := part b y
        exact (g.own b _ e2).2.2
    by_cases h0 : w' b = some (.s 0)
    · exact old _ h0
    · rw [if_neg h0] at e
      by_cases h1 : ∃ n ∈ L, Lb.isE n.l = true ∧ w' b = some (.e n.k)
      · obtain ⟨n, hn, _, e1⟩ := h1
        exact old _ e1
      · rw [dif_neg h1] at e
        by_cases h2 : wcOf L b ≠ none
        · rw [if_pos h2] at e; cases e
        · rw [if_neg h2] at e
          by_cases h3 : ∃ j, st.length ≤ j ∧ w b = some (.s j)
          · rw [if_pos h3] at e; cases e
          · rw [if_neg h3] at e
            have h2' : wcOf L b = none := by
              cases q : wcOf L b with
              | none => rfl
              | some l => exact absurd (some_ne q) h2
            obtain ⟨q1, q2, q3⟩ := g.own b l e
            refine ⟨?_, ?_, q3⟩
            · rw [z.ext.n b (fun y => y h2') q2]; exact q1
            · rw [hH b (some_ne e) h2']; exact q2
/-! ### the call, by what the caller has -/
/-- a part of a name's thing that the callee gets as parameter k, and gives back -/
structure Nm where
  i : Nat
  k : Nat
  S : SP
  S1 : SP
  v : V
  plug : SP → SP
def getB (B : List (Option SP)) (k : Nat) : Option SP := (B[k]?).join
def setL (env : En) (L : List Nm) (B : List (Option SP)) : En := L.foldl (fun e n => e.set n.i ((getB B n.k).map n.plug)) env
theorem setL_len (B : List (Option SP)) : ∀ (L : List Nm) (env : En), (setL env L B).length = env.length := by
  intro L
  induction L with
  | nil => intro env; rfl
  | cons n L ih => intro env; show (setL (env.set n.i _) L B).length = _; rw [ih]; simp
theorem setL_get (B : List (Option SP)) : ∀ (L : List Nm) (env : En) (i : Nat) (S' : SP), (setL env L B)[i]? = some (some S') → (∃ n ∈ L, n.i = i ∧ ∃ b, getB B n.k = some b ∧ S' = n.plug b) ∨ ((∀ n ∈ L, n.i ≠ i) ∧ env[i]? = some (some S')) := by
  intro L
  induction L with
  | nil => intro env i S' h; exact .inr ⟨fun n hn => by simp at hn, h⟩
  | cons n L ih =>
    intro env i S' h
    rcases ih (env.set n.i ((getB B n.k).map n.plug)) i S' h with ⟨m, hm, e1, e2⟩ | ⟨h1, h2⟩
    · exact .inl ⟨m, by simp [hm], e1, e2⟩
    · by_cases hi : n.i = i
      · subst hi
        by_cases hl : n.i < env.length
        · rw [List.getElem?_set_self hl] at h2
          have h3 := Option.some.inj h2
          obtain ⟨b, e1, e2⟩ := Option.map_eq_some_iff.mp h3
          exact .inl ⟨n, by simp, rfl, b, e1, e2.symm⟩
        · rw [List.getElem?_eq_none (by simp; omega)] at h2; cases h2
      · rw [List.getElem?_set_ne hi] at h2
        exact .inr ⟨fun m hm => by
          rcases List.mem_cons.mp hm with z | z
          · rw [z]; exact hi
          · exact h1 m z, h2⟩
/-- the names are apart, and what they hold has these parts; moved arguments (parameter, argument) are apart too -/
structure LOk (env : En) (L : List Nm) (M : List (Nat × Nat)) : Prop where
  i : ∀ n ∈ L, ∀ m ∈ L, n.i = m.i → n = m
  k : ∀ n ∈ L, ∀ m ∈ L, n.k = m.k → n = m
  s : ∀ n ∈ L, env[n.i]? = some (some n.S) ∧ Lens n.S n.S1 n.v n.plug
  m1 : ∀ p ∈ M, ∀ q ∈ M, p.1 = q.1 → p = q
  m2 : ∀ p ∈ M, ∀ q ∈ M, p.2 = q.2 → p = q
  x : ∀ n ∈ L, ∀ p ∈ M, n.k ≠ p.1
def MtOk (Ls : List SP) (L : List Nm) (M : List (Nat × Nat)) : Nat → List Src → List SP → Prop
  | _, [], [] => True
  | k, .arg j :: ss, S :: Ss => ((∃ q : VP, S = q.sp ∧ Ls[j]? = some q.sp) ∨ (∃ n ∈ L, n.k = k ∧ S = n.S1 ∧ Ls[j]? = some (isVP n.v).sp) ∨ ((k, j) ∈ M ∧ Ls[j]? = some S)) ∧ MtOk Ls L M (k + 1) ss Ss
  | k, .dfl v :: ss, S :: Ss => (∃ q : VP, S = q.sp ∧ ∀ F, q.p F v) ∧ MtOk Ls L M (k + 1) ss Ss
  | _, _, _ => False
theorem stok_own {F H : Hp} {w : Ow} : ∀ {Ss st : List SP} {us vs : List V}, StOk F H w (Ss ++ st) (us ++ vs) → us.length = Ss.length → ∀ (j : Nat) (S : SP), Ss.reverse[j]? = some S → ∃ v, us.reverse[j]? = some v ∧ S.ok F H (w.of (.s (st.length + j))) v := by
  intro Ss
  induction Ss with
  | nil => intro st us vs _ _ j q e; simp at e
  | cons S Ss ih =>
    intro st us vs h hl j q e
    cases us with
    | nil => simp at hl
    | cons v us =>
      have hl' : us.length = Ss.length := by simpa using hl
      rw [List.reverse_cons] at e ⊢
      by_cases hj : j < Ss.length
      · rw [List.getElem?_append_left (by simpa using hj)] at e
        obtain ⟨u, e1, e2⟩ := ih h.2 hl' j q e
        exact ⟨u, by rw [List.getElem?_append_left (by simp; omega)]; exact e1, e2⟩
      · by_cases hj2 : j = Ss.length
        · subst hj2
          rw [List.getElem?_append_right (by simp)] at e
          simp at e
          refine ⟨v, by rw [List.getElem?_append_right (by simp; omega)]; simp [hl'], ?_⟩
          have h1 := h.1
          rw [e] at h1
          rw [show st.length + Ss.length = (Ss.append st).length by simp; omega]
          exact h1
        · rw [List.getElem?_eq_none (by simp; omega)] at e; cases e
theorem mt_at {F H : Hp} {w : Ow} {n0 : Nat} {Ls : List SP} {L : List Nm} {M : List (Nat × Nat)} {us : List V} (hs : ∀ (j : Nat) (S : SP), Ls[j]? = some S → ∃ v, us[j]? = some v ∧ S.ok F H (w.of (.s (n0 + j))) v) : ∀ {src : List Src} {As : List SP} {k0 : Nat}, MtOk Ls L M k0 src As → As.length = src.length ∧ ∀ (k : Nat) (S : SP), As[k]? = some S →
    (∃ (q : VP) (v : V), S = q.sp ∧ (src.map (Src.sel us))[k]? = some v ∧ q.p F v) ∨ (∃ n ∈ L, n.k = k0 + k ∧ S = n.S1 ∧ (src.map (Src.sel us))[k]? = some n.v) ∨ ∃ j v, (k0 + k, j) ∈ M ∧ (src.map (Src.sel us))[k]? = some v ∧ S.ok F H (w.of (.s (n0 + j))) v
  | [], [], _, _ => ⟨rfl, fun k S e => by simp at e⟩
  | .arg j :: ss, S0 :: As, k0, h => by
    obtain ⟨h1, h2⟩ := h
    obtain ⟨l, r⟩ := mt_at hs h2
    refine ⟨by simp [l], fun k S e => ?_⟩
    cases k with
    | zero =>
      have e' : S0 = S := by simpa using e
      subst e'
      rcases h1 with ⟨q, e1, e2⟩ | ⟨n, hn, e1, e2, e3⟩ | ⟨hm, e1⟩
      · obtain ⟨v, f1, f2⟩ := hs j q.sp e2
        exact .inl ⟨q, v, e1, by simp [Src.sel, List.getD_eq_getElem?_getD, f1], f2⟩
      · obtain ⟨v, f1, f2⟩ := hs j (isVP n.v).sp e3
        refine .inr (.inl ⟨n, hn, by omega, e2, ?_⟩)
        have : v = n.v := f2
        subst this
        simp [Src.sel, List.getD_eq_getElem?_getD, f1]
      · obtain ⟨v, f1, f2⟩ := hs j S0 e1
        exact .inr (.inr ⟨j, v, by simpa using hm, by simp [Src.sel, List.getD_eq_getElem?_getD, f1], f2⟩)
    | succ k =>
      rcases r k S (by simpa using e) with ⟨q, v, r1, r2, r3⟩ | ⟨n, hn, r1, r2, r3⟩ | ⟨j', v, r1, r2, r3⟩
      · exact .inl ⟨q, v, r1, by simpa using r2, r3⟩
      · exact .inr (.inl ⟨n, hn, by omega, r2, by simpa using r3⟩)
      · exact .inr (.inr ⟨j', v, by rw [show k0 + (k + 1) = k0 + 1 + k by omega]; exact r1, by simpa using r2, r3⟩)
  | .dfl v0 :: ss, S0 :: As, k0, h => by
    obtain ⟨⟨q0, e1, e2⟩, h2⟩ := h
    obtain ⟨l, r⟩ := mt_at hs h2
    refine ⟨by simp [l], fun k S e => ?_⟩
    cases k with
    | zero =>
      have e' : S0 = S := by simpa using e
      subst e'
      exact .inl ⟨q0, v0, e1, by simp [Src.sel], e2 F⟩
    | succ k =>
      rcases r k S (by simpa using e) with ⟨q, v, r1, r2, r3⟩ | ⟨n, hn, r1, r2, r3⟩ | ⟨j', v, r1, r2, r3⟩
      · exact .inl ⟨q, v, r1, by simpa using r2, r3⟩
      · exact .inr (.inl ⟨n, hn, by omega, r2, by simpa using r3⟩)
      · exact .inr (.inr ⟨j', v, by rw [show k0 + (k + 1) = k0 + 1 + k by omega]; exact r1, by simpa using r2, r3⟩)
  | [], _ :: _, _, h => h.elim
  | .arg _ :: _, [], _, h => h.elim
  | .dfl _ :: _, [], _, h => h.elim
/-- THE CALL: us the values that came -/
theorem call_go {A : Type} {mg : Str → Option Value} {As : A → List SP} {f : A → R ε' ρ} {Rr : A → ρ → SP} {Bs : A → ρ → List (Option SP)} {ex : ε' → Exn} {Xs : A → ε' → List (Option SP)} {W : XK} {L : List Nm} {M : List (Nat × Nat)} {src : List Src} {Ss st : List SP} {us vs : List V} {σ : L2.St} {H : Hp} {Q : VK} {a : A}
    (mt : MtOk Ss.reverse L M 0 src (As a)) (hb : ∀ n ∈ L, ∃ j, src[n.k]? = some (.arg j) ∧ Ss.reverse[j]? = some (isVP n.v).sp) (hL : LOk env L M) (hl : us.length = Ss.length) (g : G E env (Ss ++ st) σ (us.reverse ++ vs) H)
    (hm : wp (f a) (fun r => ∀ v H', G E (setL env L (Bs a r)) (Rr a r :: st) σ (v :: vs) H' → Q v H') (fun e => ∀ c d H' F' w', GG E (setL env L (Xs a e)) st σ vs H' F' w' → ErrOk mg (ex e) c d F' → W c d H')) :
    spX mg As f Rr Bs ex Xs (src.map (Src.sel us)) H Q W := by
  classical
  obtain ⟨F, w, g⟩ := g
  have hlr : us.reverse.length = Ss.length := by simpa using hl
  obtain ⟨lAs, mta⟩ := mt_at (F := F) (H := H) (w := w) (n0 := st.length) (us := us) (fun j S e => by
    obtain ⟨v, e1, e2⟩ := stok_own g.st hlr j S e
    exact ⟨v, by simpa using e1, e2⟩) mt
  have g0 : GG E env st σ vs H F w := g.drop hlr.symm
  -- the parts
  have hp : ∀ n ∈ L, ∃ (u : V) (o1 : Addr → Prop), σ[n.i]? = some (some u) ∧ (∀ b, o1 b → w b = some (.e n.i)) ∧ n.S1.ok F H o1 n.v ∧
      ∀ (F' H' : Hp) (o1' : Addr → Prop) (B : SP), Same F F' → (∀ b, w b = some (.e n.i) → ¬ o1 b → H' b = H b) → (∀ b, o1' b → w b = some (.e n.i) → o1 b) → B.ok F' H' o1' n.v → (n.plug B).ok F' H' (fun b => o1' b ∨ (w b = some (.e n.i) ∧ ¬ o1 b)) u := fun n hn => by
    obtain ⟨e1, l⟩ := hL.s n hn
    obtain ⟨u, e2, e3⟩ := g0.env.2 n.i _ e1
    obtain ⟨o1, k1, k2, k3⟩ := l F H _ u e3
    exact ⟨u, o1, e2, k1, k2, k3⟩
  have hp2 : ∀ n : Nm, ∃ y : V × (Addr → Prop), n ∈ L → (σ[n.i]? = some (some y.1) ∧ (∀ b, y.2 b → w b = some (.e n.i)) ∧ n.S1.ok F H y.2 n.v ∧
      ∀ (F' H' : Hp) (o1' : Addr → Prop) (B : SP), Same F F' → (∀ b, w b = some (.e n.i) → ¬ y.2 b → H' b = H b) → (∀ b, o1' b → w b = some (.e n.i) → y.2 b) → B.ok F' H' o1' n.v → (n.plug B).ok F' H' (fun b => o1' b ∨ (w b = some (.e n.i) ∧ ¬ y.2 b)) y.1) := fun n => by
    by_cases hn : n ∈ L
    · obtain ⟨u, o1, h1, h2, h3, h4⟩ := hp n hn
      exact ⟨(u, o1), fun _ => ⟨h1, h2, h3, h4⟩⟩
    · exact ⟨(.non, fun _ => False), fun z => absurd z hn⟩
  obtain ⟨ff, hff⟩ := Classical.axiomOfChoice hp2
  let gN : Nm → Gt := fun n => ⟨.e n.i, n.k, (ff n).2⟩
  let gM : Nat × Nat → Gt := fun p => ⟨.s (st.length + p.2), p.1, w.of (.s (st.length + p.2))⟩
  let Gs : List Gt := L.map gN ++ M.map gM
  have mem : ∀ x ∈ Gs, (∃ n ∈ L, x = gN n) ∨ ∃ p ∈ M, x = gM p := fun x hx => by
    rcases List.mem_append.mp hx with h | h
    · obtain ⟨n, hn, e⟩ := List.mem_map.mp h
      exact .inl ⟨n, hn, e.symm⟩
    · obtain ⟨n, hn, e⟩ := List.mem_map.mp h
      exact .inr ⟨n, hn, e.symm⟩
  have memN : ∀ n ∈ L, gN n ∈ Gs := fun n hn => List.mem_append_left _ (List.mem_map_of_mem hn)
  have memM : ∀ p ∈ M, gM p ∈ Gs := fun p hp => List.mem_append_right _ (List.mem_map_of_mem hp)
  have go : GtOk w Gs := ⟨fun x hx y hy e => by
    rcases mem x hx with ⟨n, hn, rfl⟩ | ⟨p, hp, rfl⟩ <;> rcases mem y hy with ⟨m, hm, rfl⟩ | ⟨q, hq, rfl⟩
    · have e' : Lb.e n.i = Lb.e m.i := e
      injection e' with e'
      rw [hL.i n hn m hm e']
    · cases (show Lb.e n.i = Lb.s (st.length + q.2) from e)
    · cases (show Lb.s (st.length + p.2) = Lb.e m.i from e)
    · have e' : Lb.s (st.length + p.2) = Lb.s (st.length + q.2) := e
      injection e' with e'
      rw [hL.m2 p hp q hq (by omega)], fun x hx y hy e => by
    rcases mem x hx with ⟨n, hn, rfl⟩ | ⟨p, hp, rfl⟩ <;> rcases mem y hy with ⟨m, hm, rfl⟩ | ⟨q, hq, rfl⟩
    · rw [hL.k n hn m hm e]
    · exact absurd e (hL.x n hn q hq)
    · exact absurd e.symm (hL.x m hm p hp)
    · rw [hL.m1 p hp q hq e], fun x hx b hb => by
    rcases mem x hx with ⟨n, hn, rfl⟩ | ⟨p, hp, rfl⟩
    · exact (hff n hn).2.1 b hb
    · exact hb⟩
  have hst : ∀ x ∈ Gs, ∀ j, x.l = .s j → st.length ≤ j := fun x hx j e => by
    rcases mem x hx with ⟨n, hn, rfl⟩ | ⟨p, hp, rfl⟩
    · cases (show Lb.e n.i = Lb.s j from e)
    · have e' : Lb.s (st.length + p.2) = Lb.s j := e
      injection e' with e'
      omega
  -- the names behind
  have back : ∀ (B : List (Option SP)) (F' H' : Hp) (w' : Ow) (S : SP) (v : V), Pst F H (wcOf Gs) F' H' w' S B v (src.map (Src.sel us)) → GG E (setL env L B) (S :: st) σ (v :: vs) H' F' (wnOf w w' Gs st.length) := fun B F' H' w' S v z => by
    have hH : ∀ b, w b ≠ none → wcOf Gs b = none → H' b = H b := fun b h1 h2 => by
      obtain ⟨l, e⟩ := ne_some h1
      obtain ⟨o, eo⟩ := ne_some (g0.own b l e).2.1
      rw [eo]
      exact z.ext.h b o (fun y => y h2) eo
    refine GG.after g0 go hst z ⟨Nat.le_of_eq (setL_len B L env), fun i S' e => ?_⟩
    rcases setL_get B L env i S' e with ⟨n, hn, rfl, b, eb, rfl⟩ | ⟨hn, e0⟩
    · obtain ⟨f1, f2, f3, f4⟩ := hff n hn
      refine .inl ⟨gN n, memN n hn, rfl, (ff n).1, f1, ?_⟩
      have eb' : B[n.k]? = some (some b) := by
        unfold getB at eb
        cases q : B[n.k]? with
        | none => rw [q] at eb; cases eb
        | some x => rw [q] at eb; exact congrArg some eb
      obtain ⟨u', e1, e2⟩ := z.ok n.k b eb'
      obtain ⟨j, s1, s2⟩ := hb n hn
      obtain ⟨v', s3, s4⟩ := stok_own g.st hlr j _ s2
      have ev : v' = n.v := s4
      subst ev
      have e3 : (src.map (Src.sel us))[n.k]? = some n.v := by
        rw [List.getElem?_map, s1]
        simp [Src.sel, List.getD_eq_getElem?_getD, show us[j]? = some n.v by simpa using s3]
      rw [e3] at e1
      cases e1
      refine f4 F' H' (w'.of (.e n.k)) b z.ext.f (fun c e no => hH c (some_ne e) ?_) (fun c e1 e2 => ?_) e2
      · cases q : wcOf Gs c with
        | none => rfl
        | some l =>
          obtain ⟨m, hm, o⟩ := wc_in c (some_ne q)
          have e3 := go.o m hm c o
          rw [e] at e3
          have := go.l (gN n) (memN n hn) m hm (Option.some.inj e3)
          rw [← this] at o
          exact absurd o no
      · cases q : wcOf Gs c with
        | none =>
          rcases (z.own c _ e1).2.2 with y | y
          · exact absurd y (g0.own c _ e2).2.1
          · exact absurd q y
        | some l =>
          obtain ⟨m, hm, o⟩ := wc_in c (some_ne q)
          have e3 := go.o m hm c o
          rw [e2] at e3
          have := go.l (gN n) (memN n hn) m hm (Option.some.inj e3)
          rw [← this] at o
          exact o
    · by_cases hx : ∃ x ∈ Gs, x.l = .e i
      · obtain ⟨x, hx1, hx2⟩ := hx
        rcases mem x hx1 with ⟨n, hn1, rfl⟩ | ⟨p, hp, rfl⟩
        · have e' : Lb.e n.i = Lb.e i := hx2
          injection e' with e'
          exact absurd e' (hn n hn1)
        · cases (show Lb.s (st.length + p.2) = Lb.e i from hx2)
      · exact .inr ⟨fun x hx1 hx2 => hx ⟨x, hx1, hx2⟩, e0⟩
  refine ⟨a, F, wcOf Gs, ⟨g0.ext.s, by simpa using lAs, fun k S e => ?_, fun b l e => ?_⟩, wp_mono hm (fun r q v F' H' w' z => q v H' ⟨F', _, back _ F' H' w' _ v z⟩) fun e q c d F' H' w' z k => q c d H' F' _ (back _ F' H' w' anyS .non z).pop k⟩
  · rcases mta k S e with ⟨q, v, rfl, e1, e2⟩ | ⟨n, hn, e0, rfl, e1⟩ | ⟨j, v, hm, e1, e2⟩
    · exact ⟨v, e1, e2⟩
    · have ek : n.k = k := by omega
      subst ek
      refine ⟨n.v, e1, ?_⟩
      rw [show (wcOf Gs).of (.e n.k) = (ff n).2 from go.of (gN n) (memN n hn)]
      exact (hff n hn).2.2.1
    · refine ⟨v, e1, ?_⟩
      rw [show (wcOf Gs).of (.e k) = w.of (.s (st.length + j)) by
        have := go.of (gM (0 + k, j)) (memM _ hm)
        simpa [gM] using this]
      exact e2
  · obtain ⟨n, hn, o⟩ := wc_in b (some_ne e)
    obtain ⟨q1, q2, _⟩ := g0.own b _ (go.o n hn b o)
    exact ⟨q1, q2⟩
end
end NL

set_option Elab.async false
set_option linter.all false
set_option maxRecDepth 100000
set_option maxHeartbeats 4000000
/-! NL: calls of defs, methods, classes, properties: the layer's rules with a wish at the slots, and theirs here -/
namespace L2
open PySem PySem.Spec PyProof.Rows
section
variable {X : Cx} {CX : CXT} {k n : Nat} {f C : Addr} {fd : FuncData} {ps ks : List Str} {sp : Sp} {dvs : List V} {ds : List Value} {E : St → XK} {x m : Str} {p pos apos : Pos} {e o : Expr} {es : List Expr} {kws : List Keyword} {ta : TE} {t tk : TA} {g : List Value → List Value → List Value} {gV : List V → List V → List V}
theorem pe_callSD0 (F : FnOk X.prog X.w X.K X.mg X.base CX k f fd ps sp) (hr : Room k X.A) (hg : Gl X x) (hm : X.mg x = some (.ref f)) (hk : PySem.W.keepIn X.K (.ref f) = true) (hb : Binds X.K fd ps ds) (hd : Vals dvs ds) (hx : ∀ σ, PassesAt CX X σ (E σ)) (hdb : (x == ("__debug__" : Str)) = false := by decide) :
    PE X (.Call (.Name x p) [] [] pos) (tCallSD sp dvs E tNil) := by
  refine ⟨fun pins s σ H Q I h => ?_⟩
  refine wpAny_Call_Name_kw (ld_glob I hg hm ?_ hdb)
  exact PySem.W.callWith_K0 I.kIn hk (run_fnSD (us := []) F hr hb hd (hx σ) I .nil h)
def tCallNS (n m : Nat) (sp : Sp) (gV : List V → List V → List V) (E : St → XK) (t tk : TA) : TE := fun σ H Q => t σ H fun vs H1 => tk σ H1 fun zs H2 => vs.length = n ∧ zs.length = m ∧ sp (gV vs zs) H2 Q (E σ)
theorem run_fnNS {pins : List (Addr × Obj)} {σ : St} {H : Hp} {s : Shared} {Q : VK} {us ws : List Value} {vs zs : List V} (F : FnOk X.prog X.w X.K X.mg X.base CX k f fd ps sp) (hr : Room k X.A) (hb : KBn X.K fd ps n ks g gV) (hx : PassesAt CX X σ (E σ))
    (I : Inv X pins σ H s) (r : Vals vs us) (rz : Vals zs ws) (l1 : vs.length = n) (l2 : zs.length = ks.length) (h : sp (gV vs zs) H Q (E σ)) : wpAny (model X.prog X.w) X.A (call (.ref f) us (ks.zip ws)) (EP X pins σ Q) X.xe s := by
  have r2 := hb.rel r rz
  refine wpAny_call (codeAny_mono (F.run X.A X.stack s H ⟨us, ks.zip ws⟩ (g us ws) (gV vs zs) Q (E σ) hr I.env0 (hb.to s us ws I.kIn (r.length.symm.trans l1) (rz.length.symm.trans l2)) r2 h) fun r s' hq => ?_)
  cases r with
  | error e => exact hx pins H s e s' I hq
  | ok fl =>
    cases fl with
    | ret u => exact I.after hq
    | next => exact False.elim hq
    | brk => exact False.elim hq
    | cont => exact False.elim hq
theorem pe_callNS (F : FnOk X.prog X.w X.K X.mg X.base CX k f fd ps sp) (hr : Room k X.A) (hg : Gl X x) (hm : X.mg x = some (.ref f)) (hk : PySem.W.keepIn X.K (.ref f) = true) (hb : KBn X.K fd ps n ks g gV) (hx : ∀ σ, PassesAt CX X σ (E σ))
    (ha : PA X (e :: es) t) (hkw : PK X kws tk) (hall : (backToKw pos (keywordEach kws X.env)).all (·.1.isSome) = true := by rfl) (hks : (backToKw pos (keywordEach kws X.env)).filterMap (·.1) = ks := by rfl)
    (hdb : (x == ("__debug__" : Str)) = false := by decide) (he : starEach (e :: es) X.env = (false, eval e X.env) :: starEach es X.env := by rfl)
    (hpl : ((backTo pos (starEach (e :: es) X.env)).any (·.1) || (backToKw pos (keywordEach kws X.env)).any (·.1.isNone)) = false := by rfl) :
    PE X (.Call (.Name x p) (e :: es) kws pos) (tCallNS n ks.length sp gV E t tk) := by
  refine ⟨fun pins s σ H Q I h => ?_⟩
  refine wpAny_Call_Name_kw (ld_glob I hg hm ?_ hdb)
  refine PySem.W.callWith_KW (h₀ := X.base) I.ok.mod.kin hk hall (thn (ha.run pos pins s σ H _ I h) fun us s1 ⟨vs, H1, I1, r, q⟩ => ?_) hpl he
  refine thn (hkw.run pos pins s1 σ H1 _ I1 q) fun ws s2 ⟨zs, H2, I2, rz, l1, l2, q2⟩ => ⟨I2.kIn, ?_⟩
  rw [hks]
  exact run_fnNS F hr hb (hx σ) I2 r rz l1 l2 q2
theorem pe_callNS0 (F : FnOk X.prog X.w X.K X.mg X.base CX k f fd ps sp) (hr : Room k X.A) (hg : Gl X x) (hm : X.mg x = some (.ref f)) (hk : PySem.W.keepIn X.K (.ref f) = true) (hb : KBn X.K fd ps 0 ks g gV) (hx : ∀ σ, PassesAt CX X σ (E σ)) (hkw : PK X kws tk)
    (hall : (backToKw pos (keywordEach kws X.env)).all (·.1.isSome) = true := by rfl) (hks : (backToKw pos (keywordEach kws X.env)).filterMap (·.1) = ks := by rfl) (hdb : (x == ("__debug__" : Str)) = false := by decide)
    (hpl : ((backTo pos (starEach [] X.env)).any (·.1) || (backToKw pos (keywordEach kws X.env)).any (·.1.isNone)) = false := by rfl) :
    PE X (.Call (.Name x p) [] kws pos) (tCallNS 0 ks.length sp gV E tNil tk) := by
  refine ⟨fun pins s σ H Q I h => ?_⟩
  refine wpAny_Call_Name_kw (ld_glob I hg hm ?_ hdb)
  refine PySem.W.callWith_KW0 (h₀ := X.base) I.ok.mod.kin hk hall ?_ hpl
  refine thn (hkw.run pos pins s σ H _ I h) fun ws s2 ⟨zs, H2, I2, rz, l1, l2, q2⟩ => ⟨I2.kIn, ?_⟩
  rw [hks]
  exact run_fnNS (us := []) (vs := []) F hr hb (hx σ) I2 .nil rz rfl l2 q2
/-! methods -/
def tMethSW (C : Addr) (m : Str) (sp : Sp) (dvs : List V) (E : St → XK) (ta : TE) (t : TA) : TE := fun σ H Q => ta σ H fun x H1 => ∃ a dx fs, x = .ref a ∧ H1 a = some (.ins C dx fs) ∧ fs.lookup m = none ∧ t σ H1 fun vs H2 => sp (x :: (vs ++ dvs)) H2 Q (E σ)
def tMethNSW (C : Addr) (m : Str) (n l : Nat) (sp : Sp) (gV : List V → List V → List V) (E : St → XK) (ta : TE) (t tk : TA) : TE := fun σ H Q => ta σ H fun x H1 => ∃ a dx fs, x = .ref a ∧ H1 a = some (.ins C dx fs) ∧ fs.lookup m = none ∧ t σ H1 fun vs H2 => tk σ H2 fun zs H3 => vs.length = n ∧ zs.length = l ∧ sp (gV (x :: vs) zs) H3 Q (E σ)
theorem pe_methSD {pl : Sem Bool} (he : PE X o ta) (c : Cls X.K C) (hm : Meth X.K C m f) (F : FnOk X.prog X.w X.K X.mg X.base CX k f fd ps sp) (hr : Room k X.A) (hb : Binds X.K fd ps ds) (hd : Vals dvs ds) (hx : ∀ σ, PassesAt CX X σ (E σ)) (ha : PA X (e :: es) t)
    (hst : starEach (e :: es) X.env = (false, eval e X.env) :: starEach es X.env := by rfl) (hpl : (backTo pos (starEach es X.env)).any (·.1) = false := by rfl)
    (ht : eval (.Call (.Attribute o m apos) (e :: es) [] pos) X.env = (do
      let ov ← eval o X.env
      standAt apos.atName
      let (f, first) ← holding [ov] (getMethod ov m pl)
      callWith pos f first (backTo pos (starEach (e :: es) X.env)) (backToKw pos (keywordEach [] X.env))) := by rfl) :
    PE X (.Call (.Attribute o m apos) (e :: es) [] pos) (tMethSW C m sp dvs E ta t) := by
  refine ⟨fun pins s σ H Q I h => ?_⟩
  refine PySem.W.methodCall_KW (pl := pl) (thn (he.run pins s σ H _ I h) fun u s1 ⟨x, H1, I1, rx, a, dx, fs, ex, ea, l, q⟩ => ?_) ht
  subst ex
  obtain rfl : u = Value.ref a := rx
  refine getmeth_ok I1 ea c hm l ?_
  refine PySem.W.callWith_K (first := [.ref a]) (h₀ := X.base) I.ok.mod.kin hm.kp (thn (ha.run pos pins s1 σ H1 _ I1 q) fun us s2 ⟨vs, H2, I2, r, q2⟩ => ⟨I2.kIn, ?_⟩) hst hpl
  exact run_fnSD (us := .ref a :: us) (vs := .ref a :: vs) F hr hb hd (hx σ) I2 (.cons rfl r) q2
theorem pe_methSD0 {pl : Sem Bool} (he : PE X o ta) (c : Cls X.K C) (hm : Meth X.K C m f) (F : FnOk X.prog X.w X.K X.mg X.base CX k f fd ps sp) (hr : Room k X.A) (hb : Binds X.K fd ps ds) (hd : Vals dvs ds) (hx : ∀ σ, PassesAt CX X σ (E σ))
    (ht : eval (.Call (.Attribute o m apos) [] [] pos) X.env = (do
      let ov ← eval o X.env
      standAt apos.atName
      let (f, first) ← holding [ov] (getMethod ov m pl)
      callWith pos f first (backTo pos (starEach [] X.env)) (backToKw pos (keywordEach [] X.env))) := by rfl) :
    PE X (.Call (.Attribute o m apos) [] [] pos) (tMethSW C m sp dvs E ta tNil) := by
  refine ⟨fun pins s σ H Q I h => ?_⟩
  refine PySem.W.methodCall_KW (pl := pl) (thn (he.run pins s σ H _ I h) fun u s1 ⟨x, H1, I1, rx, a, dx, fs, ex, ea, l, q⟩ => ?_) ht
  subst ex
  obtain rfl : u = Value.ref a := rx
  refine getmeth_ok I1 ea c hm l ?_
  exact PySem.W.callWith_K0 (first := [.ref a]) I1.kIn hm.kp (run_fnSD (us := [.ref a]) (vs := [.ref a]) F hr hb hd (hx σ) I1 (.cons rfl .nil) q)
theorem pe_methNS {pl : Sem Bool} (he : PE X o ta) (c : Cls X.K C) (hm : Meth X.K C m f) (F : FnOk X.prog X.w X.K X.mg X.base CX k f fd ps sp) (hr : Room k X.A) (hb : KBn X.K fd ps (n + 1) ks g gV) (hx : ∀ σ, PassesAt CX X σ (E σ)) (ha : PA X (e :: es) t) (hkw : PK X kws tk)
    (hall : (backToKw pos (keywordEach kws X.env)).all (·.1.isSome) = true := by rfl) (hks : (backToKw pos (keywordEach kws X.env)).filterMap (·.1) = ks := by rfl)
    (hst : starEach (e :: es) X.env = (false, eval e X.env) :: starEach es X.env := by rfl) (hpl : ((backTo pos (starEach (e :: es) X.env)).any (·.1) || (backToKw pos (keywordEach kws X.env)).any (·.1.isNone)) = false := by rfl)
    (ht : eval (.Call (.Attribute o m apos) (e :: es) kws pos) X.env = (do
      let ov ← eval o X.env
      standAt apos.atName
      let (f, first) ← holding [ov] (getMethod ov m pl)
      callWith pos f first (backTo pos (starEach (e :: es) X.env)) (backToKw pos (keywordEach kws X.env))) := by rfl) :
    PE X (.Call (.Attribute o m apos) (e :: es) kws pos) (tMethNSW C m n ks.length sp gV E ta t tk) := by
  refine ⟨fun pins s σ H Q I h => ?_⟩
  refine PySem.W.methodCall_KW (pl := pl) (thn (he.run pins s σ H _ I h) fun u s1 ⟨x, H1, I1, rx, a, dx, fs, ex, ea, l, q⟩ => ?_) ht
  subst ex
  obtain rfl : u = Value.ref a := rx
  refine getmeth_ok I1 ea c hm l ?_
  refine PySem.W.callWith_KW (first := [.ref a]) (h₀ := X.base) I.ok.mod.kin hm.kp hall (thn (ha.run pos pins s1 σ H1 _ I1 q) fun us s2 ⟨vs, H2, I2, r, q⟩ => ?_) hpl hst
  refine thn (hkw.run pos pins s2 σ H2 _ I2 q) fun ws s3 ⟨zs, H3, I3, rz, l1, l2, q2⟩ => ⟨I3.kIn, ?_⟩
  rw [hks]
  exact run_fnNS (us := .ref a :: us) (vs := .ref a :: vs) F hr hb (hx σ) I3 (.cons rfl r) rz (by simp [l1]) l2 q2
theorem pe_methNS0 {pl : Sem Bool} (he : PE X o ta) (c : Cls X.K C) (hm : Meth X.K C m f) (F : FnOk X.prog X.w X.K X.mg X.base CX k f fd ps sp) (hr : Room k X.A) (hb : KBn X.K fd ps 1 ks g gV) (hx : ∀ σ, PassesAt CX X σ (E σ)) (hkw : PK X kws tk)
    (hall : (backToKw pos (keywordEach kws X.env)).all (·.1.isSome) = true := by rfl) (hks : (backToKw pos (keywordEach kws X.env)).filterMap (·.1) = ks := by rfl)
    (hpl : ((backTo pos (starEach [] X.env)).any (·.1) || (backToKw pos (keywordEach kws X.env)).any (·.1.isNone)) = false := by rfl)
    (ht : eval (.Call (.Attribute o m apos) [] kws pos) X.env = (do
      let ov ← eval o X.env
      standAt apos.atName
      let (f, first) ← holding [ov] (getMethod ov m pl)
      callWith pos f first (backTo pos (starEach [] X.env)) (backToKw pos (keywordEach kws X.env))) := by rfl) :
    PE X (.Call (.Attribute o m apos) [] kws pos) (tMethNSW C m 0 ks.length sp gV E ta tNil tk) := by
  refine ⟨fun pins s σ H Q I h => ?_⟩
  refine PySem.W.methodCall_KW (pl := pl) (thn (he.run pins s σ H _ I h) fun u s1 ⟨x, H1, I1, rx, a, dx, fs, ex, ea, l, q⟩ => ?_) ht
  subst ex
  obtain rfl : u = Value.ref a := rx
  refine getmeth_ok I1 ea c hm l ?_
  refine PySem.W.callWith_KW0 (first := [.ref a]) (h₀ := X.base) I.ok.mod.kin hm.kp hall ?_ hpl
  refine thn (hkw.run pos pins s1 σ H1 _ I1 q) fun ws s3 ⟨zs, H3, I3, rz, l1, l2, q2⟩ => ⟨I3.kIn, ?_⟩
  rw [hks]
  exact run_fnNS (us := [.ref a]) (vs := [.ref a]) F hr hb (hx σ) I3 (.cons rfl .nil) rz rfl l2 q2
/-! classes -/
def tMakeS (C : Addr) (sp : Sp) (dvs : List V) (E : St → XK) (t : TA) : TE := fun σ H Q => t σ H fun vs H1 => ∀ x dx, H1 x = none → H1 dx = none → dx ≠ x → sp (.ref x :: (vs ++ dvs)) (upd (upd H1 dx (.own x)) x (.ins C dx [])) (fun v H2 => v = .non ∧ Q (.ref x) H2) (E σ)
def tMakeNS (C : Addr) (n l : Nat) (sp : Sp) (gV : List V → List V → List V) (E : St → XK) (t tk : TA) : TE := fun σ H Q => t σ H fun vs H1 => tk σ H1 fun zs H2 => vs.length = n ∧ zs.length = l ∧ ∀ x dx, H2 x = none → H2 dx = none → dx ≠ x →
  sp (gV (.ref x :: vs) zs) (upd (upd H2 dx (.own x)) x (.ins C dx [])) (fun v H3 => v = .non ∧ Q (.ref x) H3) (E σ)
theorem run_makeSD {pins : List (Addr × Obj)} {σ : St} {H : Hp} {s : Shared} {Q : VK} {us : List Value} {vs : List V} (M : Mk X.K C f) (F : FnOk X.prog X.w X.K X.mg X.base CX k f fd ps sp) (hr : Room (k + 1) X.A) (hb : Binds X.K fd ps ds) (hd : Vals dvs ds)
    (hx : PassesAt CX X σ (E σ)) (I : Inv X pins σ H s) (r : Vals vs us)
    (h : ∀ x dx, H x = none → H dx = none → dx ≠ x → sp (.ref x :: (vs ++ dvs)) (upd (upd H dx (.own x)) x (.ins C dx [])) (fun v H2 => v = .non ∧ Q (.ref x) H2) (E σ)) :
    wpAny (model X.prog X.w) X.A (call (.ref C) us) (EP X pins σ Q) X.xe s := by
  have hq := h (s.heap.objs.size + 1) s.heap.objs.size (I.hok.fresh (Nat.le_succ _)) (I.hok.fresh (Nat.le_refl _)) (Nat.ne_of_lt (Nat.lt_succ_self _))
  have I2 := Inv.made (C := C) I
  have r2 : Vals (V.ref (s.heap.objs.size + 1) :: (vs ++ dvs)) (Value.ref (s.heap.objs.size + 1) :: (us ++ ds)) := .cons rfl (r.append hd)
  have hl : (Value.ref (s.heap.objs.size + 1) :: us ++ ds).length = ps.length := by
    have e := r2.length
    rw [F.len _ _ _ _ hq] at e
    exact e.symm
  refine wpAny_call (make_map (f := f) I.kIn M.makes M.init (beq_iff_eq.mp M.fn) (codeAny_mono (F.run _ X.stack _ _ ⟨Value.ref (s.heap.objs.size + 1) :: us, []⟩ (Value.ref (s.heap.objs.size + 1) :: (us ++ ds)) _ _ (E σ) (hr.make C us [])
    (I2.env0.make C us []) (hb _ (Value.ref (s.heap.objs.size + 1) :: us) I2.kIn hl) r2 hq) fun r s' hq' => ?_))
  cases r with
  | error e => exact hx pins _ _ e s' I2 hq'
  | ok fl =>
    cases fl with
    | ret u =>
      obtain ⟨v, H', I3, rv, ev, q3⟩ := I2.after hq'
      subst ev
      exact ⟨rv, ⟨V.ref (s.heap.objs.size + 1), H', I3, rfl, q3⟩⟩
    | next => exact False.elim hq'
    | brk => exact False.elim hq'
    | cont => exact False.elim hq'
theorem pe_makeSD (M : Mk X.K C f) (F : FnOk X.prog X.w X.K X.mg X.base CX k f fd ps sp) (hr : Room (k + 1) X.A) (hg : Gl X x) (hm : X.mg x = some (.ref C)) (hb : Binds X.K fd ps ds) (hd : Vals dvs ds) (hx : ∀ σ, PassesAt CX X σ (E σ))
    (ha : PA X (e :: es) t) (hdb : (x == ("__debug__" : Str)) = false := by decide) (he : starEach (e :: es) X.env = (false, eval e X.env) :: starEach es X.env := by rfl) (hpl : (backTo pos (starEach es X.env)).any (·.1) = false := by rfl) :
    PE X (.Call (.Name x p) (e :: es) [] pos) (tMakeS C sp dvs E t) := by
  refine ⟨fun pins s σ H Q I h => ?_⟩
  refine wpAny_Call_Name_kw (ld_glob I hg hm ?_ hdb)
  refine PySem.W.callWith_K (h₀ := X.base) I.ok.mod.kin M.kp (thn (ha.run pos pins s σ H _ I h) fun us s1 ⟨vs, H1, I1, r, q⟩ => ⟨I1.kIn, ?_⟩) he hpl
  exact run_makeSD M F hr hb hd (hx σ) I1 r q
theorem pe_makeSD0 (M : Mk X.K C f) (F : FnOk X.prog X.w X.K X.mg X.base CX k f fd ps sp) (hr : Room (k + 1) X.A) (hg : Gl X x) (hm : X.mg x = some (.ref C)) (hb : Binds X.K fd ps ds) (hd : Vals dvs ds) (hx : ∀ σ, PassesAt CX X σ (E σ))
    (hdb : (x == ("__debug__" : Str)) = false := by decide) : PE X (.Call (.Name x p) [] [] pos) (tMakeS C sp dvs E tNil) := by
  refine ⟨fun pins s σ H Q I h => ?_⟩
  refine wpAny_Call_Name_kw (ld_glob I hg hm ?_ hdb)
  exact PySem.W.callWith_K0 I.kIn M.kp (run_makeSD (us := []) M F hr hb hd (hx σ) I .nil h)
theorem run_makeNS {pins : List (Addr × Obj)} {σ : St} {H : Hp} {s : Shared} {Q : VK} {us ws : List Value} {vs zs : List V} (M : Mk X.K C f) (F : FnOk X.prog X.w X.K X.mg X.base CX k f fd ps sp) (hr : Room (k + 1) X.A) (hb : KBn X.K fd ps (n + 1) ks g gV)
    (hx : PassesAt CX X σ (E σ)) (I : Inv X pins σ H s) (r : Vals vs us) (rz : Vals zs ws) (l1 : vs.length = n) (l2 : zs.length = ks.length)
    (h : ∀ x dx, H x = none → H dx = none → dx ≠ x → sp (gV (.ref x :: vs) zs) (upd (upd H dx (.own x)) x (.ins C dx [])) (fun v H2 => v = .non ∧ Q (.ref x) H2) (E σ)) :
    wpAny (model X.prog X.w) X.A (call (.ref C) us (ks.zip ws)) (EP X pins σ Q) X.xe s := by
  have hq := h (s.heap.objs.size + 1) s.heap.objs.size (I.hok.fresh (Nat.le_succ _)) (I.hok.fresh (Nat.le_refl _)) (Nat.ne_of_lt (Nat.lt_succ_self _))
  have I2 := Inv.made (C := C) I
  have r1 : Vals (V.ref (s.heap.objs.size + 1) :: vs) (Value.ref (s.heap.objs.size + 1) :: us) := .cons rfl r
  have r2 := hb.rel r1 rz
  have e1 : (Value.ref (s.heap.objs.size + 1) :: us).length = n + 1 := r1.length.symm.trans (congrArg Nat.succ l1)
  have e2 : ws.length = ks.length := rz.length.symm.trans l2
  refine wpAny_call (make_map (f := f) I.kIn M.makes M.init (beq_iff_eq.mp M.fn) (codeAny_mono (F.run _ X.stack _ _ ⟨Value.ref (s.heap.objs.size + 1) :: us, ks.zip ws⟩ (g (Value.ref (s.heap.objs.size + 1) :: us) ws) _ _ (E σ) (hr.make C us (ks.zip ws))
    (I2.env0.make C us (ks.zip ws)) (hb.to _ (Value.ref (s.heap.objs.size + 1) :: us) ws I2.kIn e1 e2) r2 hq) fun r s' hq' => ?_))
  cases r with
  | error e => exact hx pins _ _ e s' I2 hq'
  | ok fl =>
    cases fl with
    | ret u =>
      obtain ⟨v, H', I3, rv, ev, q3⟩ := I2.after hq'
      subst ev
      exact ⟨rv, ⟨V.ref (s.heap.objs.size + 1), H', I3, rfl, q3⟩⟩
    | next => exact False.elim hq'
    | brk => exact False.elim hq'
    | cont => exact False.elim hq'
theorem pe_makeNS (M : Mk X.K C f) (F : FnOk X.prog X.w X.K X.mg X.base CX k f fd ps sp) (hr : Room (k + 1) X.A) (hg : Gl X x) (hm : X.mg x = some (.ref C)) (hb : KBn X.K fd ps (n + 1) ks g gV) (hx : ∀ σ, PassesAt CX X σ (E σ))
    (ha : PA X (e :: es) t) (hkw : PK X kws tk) (hall : (backToKw pos (keywordEach kws X.env)).all (·.1.isSome) = true := by rfl) (hks : (backToKw pos (keywordEach kws X.env)).filterMap (·.1) = ks := by rfl)
    (hdb : (x == ("__debug__" : Str)) = false := by decide) (he : starEach (e :: es) X.env = (false, eval e X.env) :: starEach es X.env := by rfl)
    (hpl : ((backTo pos (starEach (e :: es) X.env)).any (·.1) || (backToKw pos (keywordEach kws X.env)).any (·.1.isNone)) = false := by rfl) :
    PE X (.Call (.Name x p) (e :: es) kws pos) (tMakeNS C n ks.length sp gV E t tk) := by
  refine ⟨fun pins s σ H Q I h => ?_⟩
  refine wpAny_Call_Name_kw (ld_glob I hg hm ?_ hdb)
  refine PySem.W.callWith_KW (h₀ := X.base) I.ok.mod.kin M.kp hall (thn (ha.run pos pins s σ H _ I h) fun us s1 ⟨vs, H1, I1, r, q⟩ => ?_) hpl he
  refine thn (hkw.run pos pins s1 σ H1 _ I1 q) fun ws s2 ⟨zs, H2, I2, rz, l1, l2, q2⟩ => ⟨I2.kIn, ?_⟩
  rw [hks]
  exact run_makeNS M F hr hb (hx σ) I2 r rz l1 l2 q2
theorem pe_makeNS0 (M : Mk X.K C f) (F : FnOk X.prog X.w X.K X.mg X.base CX k f fd ps sp) (hr : Room (k + 1) X.A) (hg : Gl X x) (hm : X.mg x = some (.ref C)) (hb : KBn X.K fd ps 1 ks g gV) (hx : ∀ σ, PassesAt CX X σ (E σ)) (hkw : PK X kws tk)
    (hall : (backToKw pos (keywordEach kws X.env)).all (·.1.isSome) = true := by rfl) (hks : (backToKw pos (keywordEach kws X.env)).filterMap (·.1) = ks := by rfl) (hdb : (x == ("__debug__" : Str)) = false := by decide)
    (hpl : ((backTo pos (starEach [] X.env)).any (·.1) || (backToKw pos (keywordEach kws X.env)).any (·.1.isNone)) = false := by rfl) :
    PE X (.Call (.Name x p) [] kws pos) (tMakeNS C 0 ks.length sp gV E tNil tk) := by
  refine ⟨fun pins s σ H Q I h => ?_⟩
  refine wpAny_Call_Name_kw (ld_glob I hg hm ?_ hdb)
  refine PySem.W.callWith_KW0 (h₀ := X.base) I.ok.mod.kin M.kp hall ?_ hpl
  refine thn (hkw.run pos pins s σ H _ I h) fun ws s2 ⟨zs, H2, I2, rz, l1, l2, q2⟩ => ⟨I2.kIn, ?_⟩
  rw [hks]
  exact run_makeNS (us := []) (vs := []) M F hr hb (hx σ) I2 .nil rz rfl l2 q2
end
end L2
namespace NL
open PySem PySem.Spec PyProof.Rows L2 ML
section
variable {ε ε' α β γ δ ρ τ : Type} {X : Xc ε} {E : Ent} {env env' : En} {te ta tb tc ti : TE} {tt tu : TT} {u t t1 t2 : TS} {post : Post γ}
/-! ### the calls' rules -/
/-- what stands behind the arguments is this call -/
structure CallOk {A : Type} (X : Xc ε) (mg : Str → Option Value) (As : A → List SP) (f : A → R ε' ρ) (Rr : A → ρ → SP) (Bs : A → ρ → List (Option SP)) (ex : ε' → Exn) (Xs : A → ε' → List (Option SP)) (src : List Src) (n : Nat) (S : δ → SP) (e' : δ → En) (m' : R ε δ) (Ss : List SP) (e : En) : Prop where
  len : Ss.length = n
  go : ∃ (a : A) (L : List Nm) (M : List (Nat × Nat)) (out : ρ → δ) (ge : ε' → ε), LOk e L M ∧ MtOk Ss.reverse L M 0 src (As a) ∧ (∀ n ∈ L, ∃ j, src[n.k]? = some (.arg j) ∧ Ss.reverse[j]? = some (isVP n.v).sp) ∧
    (∀ (Φ : δ → Prop) (Ξ : ε → Prop), wp m' Φ Ξ → wp (f a) (fun r => Φ (out r)) fun x => Ξ (ge x)) ∧ (∀ r, ∀ F H o v, (Rr a r).ok F H o v → (S (out r)).ok F H o v) ∧ (∀ r, Fgt (setL e L (Bs a r)) (e' (out r))) ∧
    (∀ x c d F, ErrOk mg (ex x) c d F → X.ok (ge x) c d F) ∧ ∀ x, Fgt (setL e L (Xs a x)) (X.en (ge x))
theorem wc_id {f : R ε ρ} : ∀ (Φ : ρ → Prop) (Ξ : ε → Prop), wp f Φ Ξ → wp f (fun r => Φ (id r)) fun x => Ξ (id x) := fun _ _ h => h
theorem wc_e {f : R ε' ρ} {ge : ε' → ε} : ∀ (Φ : ρ → Prop) (Ξ : ε → Prop), wp (R.mapE ge f) Φ Ξ → wp f (fun r => Φ (id r)) fun x => Ξ (ge x) := fun _ _ h => wp_mapE.mp h
theorem wc_o {f : R ε ρ} {out : ρ → δ} : ∀ (Φ : δ → Prop) (Ξ : ε → Prop), wp (f.bind fun r => .ok (out r)) Φ Ξ → wp f (fun r => Φ (out r)) fun x => Ξ (id x) := fun _ _ h => wp_bind.mp h
theorem wc_eo {f : R ε' ρ} {ge : ε' → ε} {out : ρ → δ} : ∀ (Φ : δ → Prop) (Ξ : ε → Prop), wp ((R.mapE ge f).bind fun r => .ok (out r)) Φ Ξ → wp f (fun r => Φ (out r)) fun x => Ξ (ge x) := fun _ _ h => wp_mapE.mp (wp_bind.mp h)
theorem CallOk.sp {A : Type} {mg : Str → Option Value} {As : A → List SP} {f : A → R ε' ρ} {Rr : A → ρ → SP} {Bs : A → ρ → List (Option SP)} {ex : ε' → Exn} {Xs : A → ε' → List (Option SP)} {src : List Src} {n : Nat} {S : δ → SP} {e' : δ → En} {m' : R ε δ} {Ss : List SP} {e : En}
    {st : List SP} {us vs : List V} {σ : L2.St} {H : Hp} {Q : VK} {Φ : δ → Prop} (h : CallOk X mg As f Rr Bs ex Xs src n S e' m' Ss e) (hl : us.length = Ss.length) (g : G E e (Ss ++ st) σ (us.reverse ++ vs) H) (hm : wp m' Φ (xcl X E st vs σ)) (hq : ∀ x, Φ x → ∀ v H', G E (e' x) (S x :: st) σ (v :: vs) H' → Q v H') :
    spX mg As f Rr Bs ex Xs (src.map (Src.sel us)) H Q (WE X.W σ) := by
  obtain ⟨a, L, M, out, ge, hL, mt, hb, hw, hS, hF, hX, hG⟩ := h.go
  refine call_go mt hb hL hl g (wp_mono (hw _ _ hm) (fun r k v H' g' => ?_) fun x k c d H' F' w' g' z => ?_)
  · obtain ⟨F, w, g2⟩ := g'.fgt (hF r)
    exact hq _ k v H' ⟨F, w, g2.re (fun a l e => ⟨l, e⟩) g2.env ⟨hS r _ _ _ _ g2.st.1, g2.st.2⟩⟩
  · obtain ⟨F, w, g2⟩ := G.fgt ⟨F', w', g'.re (fun a l e => ⟨l, e⟩) g'.env g'.st⟩ (hG x)
    exact k c d H' F' _ (g'.re (fun a l e => ⟨l, e⟩) ⟨Nat.le_trans (hG x).1 g'.env.1, fun i S e => by
      obtain ⟨S0, e0, kk⟩ := (hG x).2 i S e
      obtain ⟨v, e1, e2⟩ := g'.env.2 i S0 e0
      exact ⟨v, e1, kk _ _ _ _ e2⟩⟩ g'.st) (hX x c d F' z)
/-- f(e, ..) -/
theorem ex_call {A : Type} {mg : Str → Option Value} {As : A → List SP} {f : A → R ε' ρ} {Rr : A → ρ → SP} {Bs : A → ρ → List (Option SP)} {ex : ε' → Exn} {Xs : A → ε' → List (Option SP)} {S : δ → SP} {e' : δ → En} {tA : TA} {m : R ε δ} {dvs : List V} (src : List Src) (n : Nat)
    (hsel : ∀ us : List V, us.length = n → us ++ dvs = src.map (Src.sel us)) (h : AX X E env tA [] m (CallOk X mg As f Rr Bs ex Xs src n S e')) : EX X E env (tCallSD (spX mg As f Rr Bs ex Xs) dvs (WE X.W) tA) m S e' := by
  intro st vs σ H Q gg hm
  refine h st vs [] σ H _ _ gg rfl hm fun us H' Ss e m' c hl g hm' => ?_
  rw [List.append_nil] at g
  rw [List.nil_append] at hl
  show spX mg As f Rr Bs ex Xs (us ++ dvs) H' Q (WE X.W σ)
  rw [hsel us (by rw [← hl, c.len])]
  exact c.sp hl.symm g hm' fun x k => k
theorem ex_callK {A : Type} {mg : Str → Option Value} {As : A → List SP} {f : A → R ε' ρ} {Rr : A → ρ → SP} {Bs : A → ρ → List (Option SP)} {ex : ε' → Exn} {Xs : A → ε' → List (Option SP)} {S : δ → SP} {e' : δ → En} {tA tk : TA} {m : R ε δ} {gV : List V → List V → List V} {n l : Nat} (src : List Src)
    (hsel : ∀ us zs : List V, us.length = n → zs.length = l → gV us zs = src.map (Src.sel (us ++ zs))) (h : AXK n X E env tA tk [] m (CallOk X mg As f Rr Bs ex Xs src (n + l) S e')) : EX X E env (tCallNS n l (spX mg As f Rr Bs ex Xs) gV (WE X.W) tA tk) m S e' := by
  intro st vs σ H Q gg hm
  refine h st vs [] σ H _ _ gg rfl hm fun us zs H' Ss e m' hn c hl g hm' => ?_
  simp at hl
  have hz : zs.length = l := by have := c.len; omega
  refine ⟨hn, hz, ?_⟩
  rw [hsel us zs hn hz]
  exact c.sp (us := us ++ zs) (by simp; omega) (by simpa using g) hm' fun x k => k
/-- the receiver is an instance of the class at C, m no field of it -/
def RecOk (env : En) (S : SP) (C : Addr) (m : Str) : Prop := ∀ (E : Ent) (st : List SP) (σ : L2.St) (v : V) (vs : List V) (H F : Hp) (w : Ow), GG E env (S :: st) σ (v :: vs) H F w → ∃ a dx fs, v = .ref a ∧ H a = some (.ins C dx fs) ∧ fs.lookup m = none
theorem ex_meth {A : Type} {mg : Str → Option Value} {As : A → List SP} {f : A → R ε' ρ} {Rr : A → ρ → SP} {Bs : A → ρ → List (Option SP)} {ex : ε' → Exn} {Xs : A → ε' → List (Option SP)} {S : δ → SP} {e' : δ → En} {tA : TA} {mr : R ε α} {S0 : α → SP} {e1 : α → En} {m2 : α → R ε δ} {dvs : List V} {C : Addr} {mn : Str} (src : List Src) (n : Nat)
    (hsel : ∀ us : List V, us.length = n → us ++ dvs = src.map (Src.sel us)) (hr : EX X E env ta mr S0 e1) (rec : ∀ x, RecOk (e1 x) (S0 x) C mn) (h : ∀ x, AX X E (e1 x) tA [S0 x] (m2 x) (CallOk X mg As f Rr Bs ex Xs src n S e')) : EX X E env (tMethSW C mn (spX mg As f Rr Bs ex Xs) dvs (WE X.W) ta tA) (mr.bind m2) S e' := by
  intro st vs σ H Q gg hm
  rw [wp_bind] at hm
  refine hr st vs σ H _ gg (wp_mono hm (fun x hm v H1 g1 => ?_) fun e h => h)
  obtain ⟨F, w, g1⟩ := g1
  obtain ⟨a, dx, fs, rfl, ea, el⟩ := rec x E st σ v vs H1 F w g1
  refine ⟨a, dx, fs, rfl, ea, el, ?_⟩
  refine h x st vs [V.ref a] σ H1 _ _ ⟨F, w, g1⟩ rfl hm fun us H' Ss e m' c hl g hm' => ?_
  show spX mg As f Rr Bs ex Xs ((V.ref a :: us) ++ dvs) H' Q (WE X.W σ)
  have hl' : (V.ref a :: us).length = n := by rw [← c.len, hl]; simp
  rw [hsel (V.ref a :: us) hl']
  exact c.sp (us := V.ref a :: us) (by rw [hl', c.len]) (by simpa using g) hm' fun x k => k
theorem ex_methK {A : Type} {mg : Str → Option Value} {As : A → List SP} {f : A → R ε' ρ} {Rr : A → ρ → SP} {Bs : A → ρ → List (Option SP)} {ex : ε' → Exn} {Xs : A → ε' → List (Option SP)} {S : δ → SP} {e' : δ → En} {tA tk : TA} {mr : R ε α} {S0 : α → SP} {e1 : α → En} {m2 : α → R ε δ} {gV : List V → List V → List V} {C : Addr} {mn : Str} {n l : Nat} (src : List Src)
    (hsel : ∀ us zs : List V, us.length = n + 1 → zs.length = l → gV us zs = src.map (Src.sel (us ++ zs))) (hr : EX X E env ta mr S0 e1) (rec : ∀ x, RecOk (e1 x) (S0 x) C mn) (h : ∀ x, AXK n X E (e1 x) tA tk [S0 x] (m2 x) (CallOk X mg As f Rr Bs ex Xs src (n + 1 + l) S e')) :
    EX X E env (tMethNSW C mn n l (spX mg As f Rr Bs ex Xs) gV (WE X.W) ta tA tk) (mr.bind m2) S e' := by
  intro st vs σ H Q gg hm
  rw [wp_bind] at hm
  refine hr st vs σ H _ gg (wp_mono hm (fun x hm v H1 g1 => ?_) fun e h => h)
  obtain ⟨F, w, g1⟩ := g1
  obtain ⟨a, dx, fs, rfl, ea, el⟩ := rec x E st σ v vs H1 F w g1
  refine ⟨a, dx, fs, rfl, ea, el, ?_⟩
  refine h x st vs [V.ref a] σ H1 _ _ ⟨F, w, g1⟩ rfl hm fun us zs H' Ss e m' hn c hl g hm' => ?_
  simp at hl
  have hz : zs.length = l := by have := c.len; omega
  refine ⟨hn, hz, ?_⟩
  rw [hsel (V.ref a :: us) zs (by simp [hn]) hz]
  exact c.sp (us := V.ref a :: us ++ zs) (by simp; omega) (by simpa using g) hm' fun x k => k
/-- e.f, a property -/
theorem ex_prop {A : Type} {mg : Str → Option Value} {As : A → List SP} {f : A → R Empty ρ} {Rr : A → ρ → SP} {Bs : A → ρ → List (Option SP)} {ex : Empty → Exn} {Xs : A → Empty → List (Option SP)} {S : δ → SP} {e' : δ → En} {mr : R ε α} {S0 : α → SP} {e1 : α → En} {m2 : α → R ε δ} {W : XK} {C : Addr} {mn : Str}
    (hr : EX X E env ta mr S0 e1) (rec : ∀ x, RecOk (e1 x) (S0 x) C mn) (h : ∀ x, CallOk X mg As f Rr Bs ex Xs [.arg 0] 1 S e' (m2 x) [S0 x] (e1 x)) : EX X E env (tProp C (spX mg As f Rr Bs ex Xs) [] W ta) (mr.bind m2) S e' := by
  intro st vs σ H Q gg hm
  rw [wp_bind] at hm
  refine hr st vs σ H _ gg (wp_mono hm (fun x hm v H1 g1 => ?_) fun e h => h)
  obtain ⟨F, w, g1⟩ := g1
  obtain ⟨a, dx, fs, rfl, ea, el⟩ := rec x E st σ v vs H1 F w g1
  refine ⟨a, dx, fs, rfl, ea, ?_⟩
  obtain ⟨b, F2, w2, p, hw⟩ := (h x).sp (us := [V.ref a]) rfl (⟨F, w, g1⟩ : G E (e1 x) (S0 x :: st) σ (.ref a :: vs) H1) hm fun x k => k
  exact ⟨b, F2, w2, p, wp_mono hw (fun r k => k) fun e => e.elim⟩
end
end NL

set_option Elab.async false
set_option linter.all false
set_option maxRecDepth 100000
set_option maxHeartbeats 4000000
/-! NL: instances -/
namespace NL
open PySem PySem.Spec PyProof.Rows L2 ML
section
variable {ε ε' α β γ δ ρ τ : Type} {X : Xc ε} {E : Ent} {env env' : En} {te ta tb tc ti : TE} {tt tu : TT} {u t t1 t2 : TS} {post : Post γ}
/-! ### C(..) -/
structure MakeOk {A : Type} (X : Xc ε) (mg : Str → Option Value) (C : Addr) (As : A → List SP) (f : A → R ε' ρ) (Bs : A → ρ → List (Option SP)) (ex : ε' → Exn) (Xs : A → ε' → List (Option SP)) (src : List Src) (n : Nat) (S : δ → SP) (e' : δ → En) (m' : R ε δ) (Ss : List SP) (e : En) : Prop where
  len : Ss.length = n
  go : ∀ p : Addr, ∃ (a : A) (M : List (Nat × Nat)) (out : ρ → δ) (ge : ε' → ε), LOk [some (ob (pinV p) C [])] [⟨0, 0, ob (pinV p) C [], ob (pinV p) C [], .ref p, id⟩] M ∧ MtOk (Ss.reverse ++ [(isVP (.ref p)).sp]) [⟨e.length, 0, ob (pinV p) C [], ob (pinV p) C [], .ref p, id⟩] M 0 (.arg n :: src) (As a) ∧
    (∀ (Φ : δ → Prop) (Ξ : ε → Prop), wp m' Φ Ξ → wp (f a) (fun r => Φ (out r)) fun x => Ξ (ge x)) ∧ (∀ r, ∃ S1, getB (Bs a r) 0 = some S1 ∧ ∀ F H o v, S1.ok F H o v → (S (out r)).ok F H o v) ∧ (∀ r, Fgt e (e' (out r))) ∧
    (∀ x c d F, ErrOk mg (ex x) c d F → X.ok (ge x) c d F) ∧ ∀ x, Fgt e (X.en (ge x))
theorem MakeOk.sp {A : Type} {mg : Str → Option Value} {C : Addr} {As : A → List SP} {f : A → R ε' ρ} {Bs : A → ρ → List (Option SP)} {ex : ε' → Exn} {Xs : A → ε' → List (Option SP)} {src : List Src} {n : Nat} {S : δ → SP} {e' : δ → En} {m' : R ε δ} {Ss : List SP} {e : En}
    {st : List SP} {us vs : List V} {σ : L2.St} {H : Hp} {Q : VK} {Φ : δ → Prop} (h : MakeOk X mg C As f Bs ex Xs src n S e' m' Ss e) (hl : us.length = Ss.length) (g : G E e (Ss ++ st) σ (us.reverse ++ vs) H) (hm : wp m' Φ (xcl X E st vs σ)) (hq : ∀ x, Φ x → ∀ v H', G E (e' x) (S x :: st) σ (v :: vs) H' → Q v H')
    {x dx : Addr} (nx : H x = none) (nd : H dx = none) (hne : dx ≠ x) : spX mg As f (fun _ _ => val tNon ()) Bs ex Xs ((Src.arg n :: src).map (Src.sel (us ++ [.ref x]))) (upd (upd H dx (.own x)) x (.ins C dx [])) (fun v H2 => v = .non ∧ Q (.ref x) H2) (WE X.W σ) := by
  classical
  obtain ⟨a, M, out, ge, hL, mt, hw, hS, hF, hX, hG⟩ := h.go x
  obtain ⟨F, w, g⟩ := g
  have fx : F x = none := by
    cases q : F x with
    | none => rfl
    | some o => have := g.ext.s x o q; rw [nx] at this; cases this
  have fd : F dx = none := by
    cases q : F dx with
    | none => rfl
    | some o => have := g.ext.s dx o q; rw [nd] at this; cases this
  have n2 : upd H dx (.own x) x = none := by rw [upd_ne (Ne.symm hne)]; exact nx
  have u1 : Ext F H (fun _ => False) F (upd H dx (.own x)) := Ext.newO g.ext.s nd
  have u2 : Ext F (upd H dx (.own x)) (fun _ => False) F (upd (upd H dx (.own x)) x (.ins C dx [])) := Ext.newO u1.s n2
  have uu : Ext F H (fun _ => False) F (upd (upd H dx (.own x)) x (.ins C dx [])) := ⟨u1.f.trans u2.f, u2.s, fun b o nb e => u2.h b o nb (u1.h b o nb e), fun b hb => rfl, fun b hb => u1.t b (u2.t b hb)⟩
  let H2 := upd (upd H dx (.own x)) x (.ins C dx [])
  let σ2 : L2.St := σ.take e.length ++ [some (V.ref x)]
  let e2 : En := e ++ [some (ob (pinV x) C [])]
  have hlen : (σ.take e.length).length = e.length := by rw [List.length_take]; exact Nat.min_eq_left g.env.1
  have σlast : σ2[e.length]? = some (some (.ref x)) := by
    show (σ.take e.length ++ [some (V.ref x)])[e.length]? = _
    rw [List.getElem?_append_right (by omega)]
    simp [hlen]
  have σold : ∀ i, i < e.length → σ2[i]? = σ[i]? := fun i hi => by
    show (σ.take e.length ++ [some (V.ref x)])[i]? = _
    rw [List.getElem?_append_left (by omega), List.getElem?_take, if_pos hi]
  have N : ∀ b, (b = x ∨ b = dx) → w b = none ∨ w b = some (.e e.length) := fun b hb => by
    cases q : w b with
    | none => exact .inl rfl
    | some l =>
      exfalso
      have := (g.own b l q).2.1
      rcases hb with rfl | rfl
      · exact this nx
      · exact this nd
  have own2 : ∀ b, (b = x ∨ b = dx) → H2 b ≠ none := fun b hb => by
    show upd (upd H dx (.own x)) x (.ins C dx []) b ≠ none
    by_cases h1 : b = x
    · rw [h1, upd_same]; intro z; cases z
    · have h2 : b = dx := hb.resolve_left h1
      rw [upd_ne h1, h2, upd_same]; intro z; cases z
  have slot : (ob (pinV x) C []).ok F H2 (fun b => b = x ∨ b = dx) (.ref x) := by
    refine ⟨x, dx, [], fun _ => False, rfl, rfl, Ne.symm hne, upd_same, ?_, trivial, fun z => z, fun z => z, .inl rfl, .inr rfl, fun b z => z.elim⟩
    show upd (upd H dx (.own x)) x (.ins C dx []) dx = _
    rw [upd_ne hne, upd_same]
  have g2 : GG E e2 ((isVP (.ref x)).sp :: (Ss ++ st)) σ2 (.ref x :: (us.reverse ++ vs)) H2 F (w.put (.e e.length) fun b => b = x ∨ b = dx) := by
    refine g.step uu (fun _ z => z.elim) (fun b l ee => ?_) ⟨?_, fun i S' ee => ?_⟩ ⟨rfl, ?_⟩
    · rcases Ow.put_sub ee with z | z
      · refine .inr ⟨?_, ?_, own2 b z⟩
        · rcases z with rfl | rfl
          · exact nx
          · exact nd
        · rcases z with rfl | rfl
          · exact fx
          · exact fd
      · exact .inl ⟨l, z⟩
    · show (e ++ [some (ob (pinV x) C [])]).length ≤ (σ.take e.length ++ [some (V.ref x)]).length
      simp [hlen]
    · by_cases hi : i < e.length
      · rw [show e2[i]? = e[i]? from List.getElem?_append_left hi] at ee
        obtain ⟨v, f1, f2⟩ := g.env.2 i S' ee
        refine ⟨v, by rw [σold i hi]; exact f1, SP.step uu f2 (fun b => Ow.put_ne (by intro z; injection z with z; omega) N b) fun b eb => ⟨fun z => z, (g.own b _ eb).2.1⟩⟩
      · have hi2 : i = e.length := by
          have := (List.getElem?_eq_some_iff.mp ee).1
          have : i < e.length + 1 := by simpa [e2] using this
          omega
        subst hi2
        have : e2[e.length]? = some (some (ob (pinV x) C [])) := by
          show (e ++ [some (ob (pinV x) C [])])[e.length]? = _
          rw [List.getElem?_append_right (Nat.le_refl _)]
          simp
        rw [this] at ee
        cases ee
        exact ⟨_, σlast, by rw [Ow.put_of]; exact slot⟩
    · exact g.st.step uu fun i hi b => ⟨Ow.put_ne (by intro z; cases z) N b, fun eb => ⟨fun z => z, (g.own b _ eb).2.1⟩⟩
  have e2l : e2[e.length]? = some (some (ob (pinV x) C [])) := by
    show (e ++ [some (ob (pinV x) C [])])[e.length]? = _
    rw [List.getElem?_append_right (Nat.le_refl _)]
    simp
  have hL2 : LOk e2 [⟨e.length, 0, ob (pinV x) C [], ob (pinV x) C [], .ref x, id⟩] M := ⟨fun n hn m hm _ => by simp at hn hm; rw [hn, hm], fun n hn m hm _ => by simp at hn hm; rw [hn, hm], fun n hn => by
    simp at hn
    rw [hn]
    exact ⟨e2l, lens_id pin_ob⟩, hL.m1, hL.m2, fun n hn p hp => by
    simp at hn
    rw [hn]
    exact hL.x ⟨0, 0, ob (pinV x) C [], ob (pinV x) C [], V.ref x, id⟩ (by simp) p hp⟩
  -- back: the first names
  have cut : ∀ {o : Option SP} {st' : List SP} {vs' : List V} {H' F' : Hp} {w' : Ow}, GG E (e ++ [o]) st' σ2 vs' H' F' w' → GG E e st' σ vs' H' F' w' := fun {o st' vs' H' F' w'} g' => g'.re (fun a l e => ⟨l, e⟩) ⟨g.env.1, fun i S' ee => by
    have hi : i < e.length := (List.getElem?_eq_some_iff.mp ee).1
    obtain ⟨v, f1, f2⟩ := g'.env.2 i S' (by rw [List.getElem?_append_left hi]; exact ee)
    exact ⟨v, by rw [← σold i hi]; exact f1, f2⟩⟩ g'.st
  have sets : ∀ B : List (Option SP), setL e2 [⟨e.length, 0, ob (pinV x) C [], ob (pinV x) C [], .ref x, id⟩] B = e ++ [getB B 0] := fun B => by
    show (e ++ [some (ob (pinV x) C [])]).set e.length ((getB B 0).map id) = _
    rw [List.set_append_right _ _ (Nat.le_refl _)]
    simp
  refine call_go (env := e2) (L := [⟨e.length, 0, ob (pinV x) C [], ob (pinV x) C [], .ref x, id⟩]) (M := M) (Ss := (isVP (.ref x)).sp :: Ss) (us := us ++ [.ref x]) (σ := σ2) (st := st) (vs := vs) (by simpa using mt) (fun n' hn => ?_) hL2 (by simp [hl]) ⟨F, _, by simpa using g2⟩ (wp_mono (hw _ _ hm) (fun r k v H' g' => ?_) fun y k c d H' F' w' g' z => ?_)
  · simp at hn
    rw [hn]
    refine ⟨n, rfl, ?_⟩
    have : Ss.length = n := h.len
    subst this
    simp
  · obtain ⟨S1, hB, hS1⟩ := hS r
    rw [sets, hB] at g'
    obtain ⟨F3, w3, g3⟩ := g'
    have ev : v = .non := g3.st.1
    refine ⟨ev, ?_⟩
    have hlast : (e ++ [some S1])[e.length]? = some (some S1) := by
      rw [List.getElem?_append_right (Nat.le_refl _)]
      simp
    obtain ⟨v4, w4, e4, g4⟩ := g3.pop.move hlast
    rw [σlast] at e4
    cases e4
    have g5 : GG E (e ++ [none]) (S1 :: st) σ2 (.ref x :: vs) H' F3 w4 := by
      have : (e ++ [some S1]).set e.length none = e ++ [none] := by
        rw [List.set_append_right _ _ (Nat.le_refl _)]
        simp
      rw [this] at g4
      exact g4
    have g6 := cut g5
    obtain ⟨F7, w7, g7⟩ := G.fgt ⟨F3, w4, g6⟩ (hF r)
    exact hq _ k _ H' ⟨F7, w7, g7.re (fun a l e => ⟨l, e⟩) g7.env ⟨hS1 _ _ _ _ g7.st.1, g7.st.2⟩⟩
  · rw [sets] at g'
    have g6 := cut g'
    exact k c d H' F' _ (g6.re (fun a l e => ⟨l, e⟩) ⟨Nat.le_trans (hG y).1 g6.env.1, fun i S e => by
      obtain ⟨S0, e0, kk⟩ := (hG y).2 i S e
      obtain ⟨v, e1, e2⟩ := g6.env.2 i S0 e0
      exact ⟨v, e1, kk _ _ _ _ e2⟩⟩ g6.st) (hX y c d F' z)
theorem ex_make {A : Type} {mg : Str → Option Value} {C : Addr} {As : A → List SP} {f : A → R ε' ρ} {Bs : A → ρ → List (Option SP)} {ex : ε' → Exn} {Xs : A → ε' → List (Option SP)} {S : δ → SP} {e' : δ → En} {tA : TA} {m : R ε δ} {dvs : List V} (src : List Src) (n : Nat)
    (hsel : ∀ (us : List V) (x : V), us.length = n → x :: (us ++ dvs) = (Src.arg n :: src).map (Src.sel (us ++ [x]))) (h : AX X E env tA [] m (MakeOk X mg C As f Bs ex Xs src n S e')) : EX X E env (tMakeS C (spX mg As f (fun _ _ => val tNon ()) Bs ex Xs) dvs (WE X.W) tA) m S e' := by
  intro st vs σ H Q gg hm
  refine h st vs [] σ H _ _ gg rfl hm fun us H' Ss e m' c hl g hm' => ?_
  rw [List.append_nil] at g
  rw [List.nil_append] at hl
  intro x dx nx nd hne
  rw [hsel us (.ref x) (by rw [← hl, c.len])]
  exact c.sp hl.symm g hm' (fun x k => k) nx nd hne
theorem ex_makeK {A : Type} {mg : Str → Option Value} {C : Addr} {As : A → List SP} {f : A → R ε' ρ} {Bs : A → ρ → List (Option SP)} {ex : ε' → Exn} {Xs : A → ε' → List (Option SP)} {S : δ → SP} {e' : δ → En} {tA tk : TA} {m : R ε δ} {gV : List V → List V → List V} {n l : Nat} (src : List Src)
    (hsel : ∀ (us zs : List V) (x : V), us.length = n → zs.length = l → gV (x :: us) zs = (Src.arg (n + l) :: src).map (Src.sel (us ++ zs ++ [x]))) (h : AXK n X E env tA tk [] m (MakeOk X mg C As f Bs ex Xs src (n + l) S e')) : EX X E env (tMakeNS C n l (spX mg As f (fun _ _ => val tNon ()) Bs ex Xs) gV (WE X.W) tA tk) m S e' := by
  intro st vs σ H Q gg hm
  refine h st vs [] σ H _ _ gg rfl hm fun us zs H' Ss e m' hn c hl g hm' => ?_
  simp at hl
  have hz : zs.length = l := by have := c.len; omega
  refine ⟨hn, hz, fun x dx nx nd hne => ?_⟩
  rw [hsel us zs (.ref x) hn hz]
  exact c.sp (us := us ++ zs) (by simp; omega) (by simpa using g) hm' (fun x k => k) nx nd hne
/-! ### instances that all may know -/
def FvOk (F : Hp) : List (Str × VP) → List (Str × V) → Prop
  | [], [] => True
  | (n, q) :: qs, (m, v) :: ws => n = m ∧ q.p F v ∧ FvOk F qs ws
  | _, _ => False
theorem FvOk.mono {F F' : Hp} (s : Same F F') : ∀ {qs : List (Str × VP)} {ws : List (Str × V)}, FvOk F qs ws → FvOk F' qs ws
  | [], [], _ => trivial
  | _ :: qs, _ :: ws, h => ⟨h.1, VP.mono _ s h.2.1, FvOk.mono s h.2.2⟩
  | [], _ :: _, h => h.elim
  | _ :: _, [], h => h.elim
theorem FvOk.look {F : Hp} {n : Str} {q : VP} : ∀ {qs : List (Str × VP)} {ws : List (Str × V)}, FvOk F qs ws → qs.lookup n = some q → ∃ v, ws.lookup n = some v ∧ q.p F v
  | [], [], _, e => by cases e
  | (k, p) :: qs, (m, v) :: ws, ⟨e, h, r⟩, hl => by
    subst e
    by_cases hk : n = k
    · subst hk
      simp only [List.lookup, beq_self_eq_true] at hl
      cases hl
      exact ⟨v, by simp [List.lookup], h⟩
    · have hb : (n == k) = false := beq_eq_false_iff_ne.mpr hk
      simp only [List.lookup, hb] at hl
      obtain ⟨u, e1, e2⟩ := FvOk.look r hl
      exact ⟨u, by simp [List.lookup, hb, e1], e2⟩
  | [], _ :: _, h, _ => h.elim
  | _ :: _, [], h, _ => h.elim
theorem FvOk.lookN {F : Hp} {n : Str} : ∀ {qs : List (Str × VP)} {ws : List (Str × V)}, FvOk F qs ws → qs.lookup n = none → ws.lookup n = none
  | [], [], _, _ => rfl
  | (k, p) :: qs, (m, v) :: ws, ⟨e, h, r⟩, hl => by
    subst e
    by_cases hk : n = k
    · subst hk
      simp [List.lookup] at hl
    · have hb : (n == k) = false := beq_eq_false_iff_ne.mpr hk
      simp only [List.lookup, hb] at hl ⊢
      exact FvOk.lookN r hl
  | [], _ :: _, h, _ => h.elim
  | _ :: _, [], h, _ => h.elim
/-- a record of fields, seen by its view -/
def tI (C : Addr) (view : α → List (Str × VP)) : Ty α := ⟨fun F v x => ∃ a dx ws, v = .ref a ∧ F a = some (.ins C dx ws) ∧ FvOk F (view x) ws, fun s ⟨a, dx, ws, e, h, p⟩ => ⟨a, dx, ws, e, s _ _ h, p.mono s⟩⟩
/-- e.f -/
theorem o1_fldI {K : PySem.W.Frag} {C : Addr} {view : α → List (Str × VP)} {n : Str} {T : Ty β} {x : α} {y : β} (c : Cls K C) (na : NoAttr K C n) (hl : (view x).lookup n = some (vp T y)) : O1 (fun x H1 Q => ∃ a C dx fs v, x = .ref a ∧ H1 a = some (.ins C dx fs) ∧ Cls K C ∧ NoAttr K C n ∧ fs.lookup n = some v ∧ Q v H1) (val (tI C view) x) (some y) (val T) := o1_mk fun z hm F H Q va s ⟨a, dx, ws, e, h, p⟩ hq => by
  cases hm
  obtain ⟨v, e1, e2⟩ := p.look hl
  exact ⟨a, C, dx, ws, v, e, s _ _ h, c, na, e1, hq v e2⟩
theorem ht_fld {K : PySem.W.Frag} {n : Str} : ∀ σ H Q, ta σ H (fun v H1 => (fun x H1 Q => ∃ a C dx fs v, x = V.ref a ∧ H1 a = some (.ins C dx fs) ∧ Cls K C ∧ NoAttr K C n ∧ fs.lookup n = some v ∧ Q v H1) v H1 Q) → tFld K ta n σ H Q := fun _ _ _ h => h
theorem rec_I {C : Addr} {view : α → List (Str × VP)} {x : α} {m : Str} (h : (view x).lookup m = none) : RecOk env (val (tI C view) x) C m := fun E st σ v vs H F w g => by
  obtain ⟨a, dx, ws, e, hf, p⟩ := g.top
  exact ⟨a, dx, ws, e, g.ext.s _ _ hf, p.lookN h⟩
/-! ### own instances: parts -/
theorem FsOk.one {F H : Hp} {n : Str} {S : SP} : ∀ {fs : List (Str × SP)} {ws : List (Str × V)} {o : Addr → Prop}, FsOk F H o fs ws → fs.lookup n = some S → ∃ (v : V) (o1 o2 : Addr → Prop), ws.lookup n = some v ∧ (∀ b, o1 b → o b) ∧ (∀ b, o2 b → o b) ∧ (∀ b, o1 b → ¬ o2 b) ∧ S.ok F H o1 v ∧
    ∀ (F' H' : Hp) (o1' : Addr → Prop) (B : SP), Same F F' → (∀ b, o2 b → H' b = H b) → (∀ b, o1' b → ¬ o2 b) → B.ok F' H' o1' v → FsOk F' H' (fun b => o1' b ∨ o2 b) (putS n B fs) ws
  | [], [], _, _, e => by cases e
  | (k, T) :: fs, (m, v) :: ws, o, ⟨e, o1, o2, h1, h2, h3, h4, h5⟩, h => by
    subst e
    by_cases hk : n = k
    · subst hk
      simp only [List.lookup, beq_self_eq_true] at h
      cases h
      refine ⟨v, o1, o2, by simp [List.lookup], h1, h2, h3, h4, fun F' H' o1' B s hH hd hB => ?_⟩
      unfold putS
      rw [if_pos rfl]
      exact ⟨rfl, o1', o2, fun b hb => .inl hb, fun b hb => .inr hb, hd, hB, h5.mono s hH⟩
    · have hb : (n == k) = false := beq_eq_false_iff_ne.mpr hk
      simp only [List.lookup, hb] at h
      obtain ⟨v', p, r, e1, e2, e3, e4, e5, e6⟩ := FsOk.one h5 h
      refine ⟨v', p, fun b => o1 b ∨ r b, by simp [List.lookup, hb, e1], fun b hb => h2 b (e2 b hb), fun b hb => hb.elim (h1 b) fun z => h2 b (e3 b z), fun b hp z => ?_, e5, fun F' H' o1' B s hH hd hB => ?_⟩
      · rcases z with z | z
        · exact h3 b z (e2 b hp)
        · exact e4 b hp z
      · unfold putS
        rw [if_neg (Ne.symm hk)]
        refine ⟨rfl, o1, fun b => o1' b ∨ r b, fun b hb => .inr (.inl hb), fun b hb => hb.elim .inl fun z => .inr (.inr z), fun b hb z => ?_, T.mono h4 s fun b hb => hH b (.inl hb), e6 F' H' o1' B s (fun b hb => hH b (.inr hb)) (fun b hb z => hd b hb (.inr z)) hB⟩
        rcases z with z | z
        · exact hd b z (.inl hb)
        · exact h3 b hb (e3 b z)
  | [], _ :: _, _, h, _ => h.elim
  | _ :: _, [], _, h, _ => h.elim
/-- x.f, a part of an own instance, its place named -/
theorem lens_fld {φ : V → Prop} {C : Addr} {fs : List (Str × SP)} {n : Str} {S : SP} {v : V} (hl : fs.lookup n = some S) (hp : Pin S v) : Lens (ob φ C fs) S v (fun B => ob φ C (putS n B fs)) := by
  intro F H o u ⟨a, dx, ws, o', e, f, nd, h1, h2, h3, h4, h5, h6, h7, h8⟩
  obtain ⟨v', o1, o2, e1, e2, e3, e4, e5, e6⟩ := FsOk.one h3 hl
  have ev := hp _ _ _ _ e5
  subst ev
  refine ⟨o1, fun b hb => h8 b (e2 b hb), e5, fun F' H' o1' B s hH hd hB => ?_⟩
  have na : ∀ b, o1 b → b ≠ a := fun b hb z => h4 (by rw [← z]; exact e2 b hb)
  have nd' : ∀ b, o1 b → b ≠ dx := fun b hb z => h5 (by rw [← z]; exact e2 b hb)
  have ha : ¬ o1 a := fun z => na a z rfl
  have hd2 : ¬ o1 dx := fun z => nd' dx z rfl
  refine ⟨a, dx, ws, fun b => o1' b ∨ o2 b, e, f, nd, (hH a h6 ha).trans h1, (hH dx h7 hd2).trans h2, e6 F' H' o1' B s (fun b hb => hH b (h8 b (e3 b hb)) fun z => e4 b z hb) (fun b hb z => e4 b (hd b hb (h8 b (e3 b z))) z) hB, ?_, ?_, .inr ⟨h6, ha⟩, .inr ⟨h7, hd2⟩, fun b hb => ?_⟩
  · rintro (z | z)
    · exact ha (hd a z h6)
    · exact h4 (e3 a z)
  · rintro (z | z)
    · exact hd2 (hd dx z h7)
    · exact h5 (e3 dx z)
  · rcases hb with z | z
    · exact .inl z
    · exact .inr ⟨h8 b (e3 b z), fun y => e4 b y z⟩
theorem lens_comp {S S1 S2 : SP} {v1 v2 : V} {p1 p2 : SP → SP} (h : Lens S S1 v1 p1) (k : Lens S1 S2 v2 p2) : Lens S S2 v2 (fun B => p1 (p2 B)) := by
  intro F H o u hS
  obtain ⟨o1, a1, a2, a3⟩ := h F H o u hS
  obtain ⟨o2, b1, b2, b3⟩ := k F H o1 v1 a2
  refine ⟨o2, fun b hb => a1 b (b1 b hb), b2, fun F' H' o2' B s hH hd hB => ?_⟩
  have q := b3 F' H' o2' B s (fun b h1 h2 => hH b (a1 b h1) h2) (fun b h1 h2 => hd b h1 (a1 b h2)) hB
  have q2 := a3 F' H' (fun b => o2' b ∨ (o1 b ∧ ¬ o2 b)) (p2 B) s (fun b h1 h2 => hH b h1 fun z => h2 (b1 b z)) (fun b hb hb2 => hb.elim (fun z => b1 b (hd b z hb2)) (fun z => z.1)) q
  have ee : (fun b => (o2' b ∨ (o1 b ∧ ¬ o2 b)) ∨ (o b ∧ ¬ o1 b)) = fun b => o2' b ∨ (o b ∧ ¬ o2 b) := funext fun b => propext ⟨fun z => by
    rcases z with (z | ⟨z1, z2⟩) | ⟨z1, z2⟩
    · exact .inl z
    · exact .inr ⟨a1 b z1, z2⟩
    · exact .inr ⟨z1, fun y => z2 (b1 b y)⟩, fun z => by
    rcases z with z | ⟨z1, z2⟩
    · exact .inl (.inl z)
    · by_cases y : o1 b
      · exact .inl (.inr ⟨y, z2⟩)
      · exact .inr ⟨z1, y⟩⟩
  rw [ee] at q2
  exact q2
/-- a part's place is named -/
theorem pn_fld {φ : V → Prop} {C : Addr} {fs : List (Str × SP)} {n : Str} {S : SP} {S' : Addr → SP} (hl : fs.lookup n = some S) (hp : Pn S S') : Pn (ob φ C fs) (fun p => ob φ C (putS n (S' p) fs)) := by
  intro F H o u ⟨a, dx, ws, o', e, f, nd, h1, h2, h3, h4, h5, h6, h7, h8⟩
  obtain ⟨v', o1, o2, e1, e2, e3, e4, e5, e6⟩ := FsOk.one h3 hl
  obtain ⟨p, hS⟩ := hp _ _ _ _ e5
  refine ⟨p, a, dx, ws, o', e, f, nd, h1, h2, (e6 F H o1 (S' p) (Same.refl F) (fun _ _ => rfl) (fun b hb => e4 b hb) hS).sub fun b hb => hb.elim (e2 b) (e3 b), h4, h5, h6, h7, h8⟩
/-- weaker fields -/
inductive FsW : List (Str × SP) → List (Str × SP) → Prop where
  | nil : FsW [] []
  | cons {n : Str} {S S' : SP} {fs fs' : List (Str × SP)} (h : ∀ F H o v, S.ok F H o v → S'.ok F H o v) (r : FsW fs fs') : FsW ((n, S) :: fs) ((n, S') :: fs')
theorem FsW.refl : ∀ fs : List (Str × SP), FsW fs fs
  | [] => .nil
  | (_, _) :: fs => .cons (fun _ _ _ _ h => h) (FsW.refl fs)
theorem FsW.ok {F H : Hp} : ∀ {fs fs' : List (Str × SP)} {ws : List (Str × V)} {o : Addr → Prop}, FsW fs fs' → FsOk F H o fs ws → FsOk F H o fs' ws
  | _, _, [], _, .nil, _ => trivial
  | _, _, (m, v) :: ws, o, .cons k r, ⟨e, o1, o2, h1, h2, h3, h4, h5⟩ => ⟨e, o1, o2, h1, h2, h3, k _ _ _ _ h4, FsW.ok r h5⟩
  | _, _, [], _, .cons _ _, h => h.elim
  | _, _, _ :: _, _, .nil, h => h.elim
theorem ob_w {φ φ' : V → Prop} {C : Addr} {fs fs' : List (Str × SP)} (hφ : ∀ v, φ v → φ' v) (h : FsW fs fs') : ∀ F H o v, (ob φ C fs).ok F H o v → (ob φ' C fs').ok F H o v := fun F H o u ⟨a, dx, ws, o', e, f, nd, h1, h2, h3, r⟩ => ⟨a, dx, ws, o', e, hφ _ f, nd, h1, h2, h.ok h3, r⟩
/-- one field less known -/
theorem fsw_put {n : Str} {S S' : SP} : ∀ {fs : List (Str × SP)}, (∀ F H o v, S.ok F H o v → S'.ok F H o v) → FsW (putS n S fs) (putS n S' fs)
  | [], h => .cons h .nil
  | (k, T) :: fs, h => by
    unfold putS
    by_cases hk : k = n
    · rw [if_pos hk, if_pos hk]; exact .cons h (FsW.refl fs)
    · rw [if_neg hk, if_neg hk]; exact .cons (fun _ _ _ _ h => h) (fsw_put h)
/-! ### own instances: reading -/
/-- te gives the place v; within name i lies an own instance there -/
theorem ex_fldO {K : PySem.W.Frag} {φ : V → Prop} {C : Addr} {fs : List (Str × SP)} {n : Str} {T : Ty β} {y : β} {i : Nat} {S0 : SP} {v : V} {plug : SP → SP} {m : R ε δ} {e1 : δ → En} (he : EX X E env te m (fun _ => (isVP v).sp) e1) (h : ∀ x, (e1 x)[i]? = some (some S0)) (l : Lens S0 (ob φ C fs) v plug) (c : Cls K C) (na : NoAttr K C n) (hl : fs.lookup n = some (val T y)) :
    EX X E env (tFld K te n) m (fun _ => val T y) e1 := by
  intro st vs σ H Q gg hm
  refine he st vs σ H _ gg (wp_mono hm (fun x hq u H1 g1 => ?_) fun e h => h)
  obtain ⟨F, w, g⟩ := g1
  have eu : u = v := g.st.1
  subst eu
  obtain ⟨u0, e1', e2⟩ := g.env.2 i _ (h x)
  obtain ⟨o1, _, ⟨a, dx, ws, o', ev, f, nd, h1, h2, h3, _⟩, _⟩ := l F H1 _ u0 e2
  obtain ⟨v', o2, l1, _, l3⟩ := h3.look hl
  exact ⟨a, C, dx, ws, v', ev, h1, c, na, l1, hq v' H1 ⟨F, w, g.pop.pushV l3⟩⟩
/-- .. whose field is a thing of one's own, its place named -/
theorem ex_fldA {K : PySem.W.Frag} {φ : V → Prop} {C : Addr} {fs : List (Str × SP)} {n : Str} {S : SP} {i : Nat} {S0 : SP} {v v2 : V} {plug : SP → SP} {m : R ε δ} {e1 : δ → En} (he : EX X E env te m (fun _ => (isVP v).sp) e1) (h : ∀ x, (e1 x)[i]? = some (some S0)) (l : Lens S0 (ob φ C fs) v plug) (c : Cls K C) (na : NoAttr K C n) (hl : fs.lookup n = some S) (hp : Pin S v2) :
    EX X E env (tFld K te n) m (fun _ => (isVP v2).sp) e1 := by
  intro st vs σ H Q gg hm
  refine he st vs σ H _ gg (wp_mono hm (fun x hq u H1 g1 => ?_) fun e h => h)
  obtain ⟨F, w, g⟩ := g1
  have eu : u = v := g.st.1
  subst eu
  obtain ⟨u0, e1', e2⟩ := g.env.2 i _ (h x)
  obtain ⟨o1, _, ⟨a, dx, ws, o', ev, f, nd, h1, h2, h3, _⟩, _⟩ := l F H1 _ u0 e2
  obtain ⟨v', o2, l1, _, l3⟩ := h3.look hl
  have ev2 := hp _ _ _ _ l3
  exact ⟨a, C, dx, ws, v', ev, h1, c, na, l1, hq v' H1 ⟨F, w, g.pop.re (fun a l e => ⟨l, e⟩) g.env ⟨ev2, g.st.2⟩⟩⟩
/-- an own thing is named -/
theorem ex_ad {i : Nat} {S : SP} {v : V} (h : env[i]? = some (some S)) (p : Pin S v) : EV X E env (tVar i) (.ok ()) (fun _ => (isVP v).sp) := by
  intro st vs σ H Q ⟨F, w, g⟩ hq
  obtain ⟨u, e1, e2⟩ := g.env.2 i S h
  have e3 := p F H _ u e2
  subst e3
  exact ⟨u, e1, hq u H ⟨F, w, g.re (fun a l e => ⟨l, e⟩) g.env ⟨rfl, g.st⟩⟩⟩
theorem rec_O {φ : V → Prop} {C : Addr} {fs : List (Str × SP)} {i : Nat} {S0 : SP} {v : V} {plug : SP → SP} {m : Str} (h : env[i]? = some (some S0)) (l : Lens S0 (ob φ C fs) v plug) (hl : fs.lookup m = none) : RecOk env (isVP v).sp C m := fun E st σ u vs H F w g => by
  have eu : u = v := g.st.1
  subst eu
  obtain ⟨u0, e1', e2⟩ := g.env.2 i _ h
  obtain ⟨o1, _, ⟨a, dx, ws, o', ev, f, nd, h1, h2, h3, _⟩, _⟩ := l F H _ u0 e2
  exact ⟨a, dx, ws, ev, h1, h3.lookN hl⟩
/-! ### one part of a name's thing changes -/
/-- p: an own thing at the place a; its object becomes o -/
theorem GG.chgP {i : Nat} {S0 S1 : SP} {a : Addr} {plug : SP → SP} {st : List SP} {σ : L2.St} {vs : List V} {H F : Hp} {w : Ow} (g : GG E env st σ vs H F w) (h : env[i]? = some (some S0)) (l : Lens S0 S1 (.ref a) plug) :
    ∃ o1 : Addr → Prop, S1.ok F H o1 (.ref a) ∧ (∀ b, o1 b → w b = some (.e i)) ∧ ∀ (o : HO) (B : SP), o1 a → B.ok F (upd H a o) o1 (.ref a) → GG E (env.set i (some (plug B))) st σ vs (upd H a o) F w := by
  obtain ⟨u0, e1, e2⟩ := g.env.2 i _ h
  obtain ⟨o1, k1, k2, k3⟩ := l F H _ u0 e2
  have hi : i < env.length := (List.getElem?_eq_some_iff.mp h).1
  refine ⟨o1, k2, k1, fun o B oa hB => ?_⟩
  have wa : w a = some (.e i) := k1 a oa
  obtain ⟨q1, q2, q3⟩ := g.own a _ wa
  have u := Ext.chg (o := o) g.ext.s q1
  have key := k3 F (upd H a o) o1 B (Same.refl F) (fun b hb nb => upd_ne fun z => nb (by rw [z]; exact oa)) (fun b hb _ => hb) hB
  refine g.step u (fun b hb => ⟨.e i, by rw [hb]; exact wa⟩) (fun b l e => .inl ⟨l, e⟩) ⟨by simpa using g.env.1, fun j S e => ?_⟩ (g.st.step u fun k hk b => ⟨Iff.rfl, fun e => ⟨fun z => (by rw [z, wa] at e; cases e), (g.own b _ e).2.1⟩⟩)
  by_cases hj : i = j
  · subst hj
    rw [List.getElem?_set_self hi] at e
    cases e
    refine ⟨u0, e1, ?_⟩
    have : (fun b => o1 b ∨ (w.of (.e i) b ∧ ¬ o1 b)) = w.of (.e i) := funext fun b => propext ⟨fun z => z.elim (k1 b) (fun z => z.1), fun z => by
      by_cases y : o1 b
      · exact .inl y
      · exact .inr ⟨z, y⟩⟩
    rw [this] at key
    exact key
  · rw [List.getElem?_set_ne hj] at e
    obtain ⟨v', e3, e4⟩ := g.env.2 j S e
    refine ⟨v', e3, SP.step u e4 (fun _ => Iff.rfl) fun b eb => ⟨fun z => ?_, (g.own b _ eb).2.1⟩⟩
    rw [z, wa] at eb
    cases eb
    exact hj rfl
/-- x.f = e, the value one that all may know -/
theorem bk_fldV {K : PySem.W.Frag} {φ : V → Prop} {C : Addr} {fs : List (Str × SP)} {i : Nat} {n : Str} {S0 : SP} {a : Addr} {plug : SP → SP} {m : R ε α} {q : α → VP} {e1 : α → En} {k : α → R ε γ} (he : EX X E env te m (fun x => (q x).sp) e1) (ho : ∀ x, EV X E (e1 x) ta (.ok ()) (fun _ => (isVP (.ref a)).sp)) (h : ∀ x, (e1 x)[i]? = some (some S0)) (l : Lens S0 (ob φ C fs) (.ref a) plug) (c : Cls K C) (na : NoAttr K C n) (hlen : fs.length < 1000)
    (hk : ∀ x, BK X E ((e1 x).set i (some (plug (ob φ C (putS n (q x).sp fs))))) u (k x) post) : BK X E env (tSeq (sFld K ta te n) u) (m.bind k) post := by
  intro st vs σ H D gg hm
  rw [wp_bind] at hm
  refine he st vs σ H _ gg (wp_mono hm (fun x hm v H1 g1 => ?_) fun e h => h σ)
  refine ho x _ _ σ H1 _ g1 fun u' H2 g2 => ?_
  obtain ⟨F, w, g⟩ := g2
  have eu : u' = .ref a := g.st.1
  subst eu
  have hv : (q x).p F v := g.pop.st.1
  obtain ⟨o1, k2, k1, k3⟩ := GG.chgP g.pop.pop (h x) l
  obtain ⟨a', dx, ws, o', ea, f, nd, h1, h2, h3, h4, h5, h6, h7, h8⟩ := k2
  cases ea
  refine ⟨a, C, dx, ws, rfl, h1, c, na, by rw [← h3.len]; exact hlen, ?_⟩
  refine hk x st vs σ _ D ⟨F, w, k3 _ _ h6 ⟨a, dx, putF n v ws, o', rfl, f, nd, upd_same, by rw [upd_ne (Ne.symm nd)]; exact h2, ?_, h4, h5, h6, h7, h8⟩⟩ hm
  have z := FsOk.put (n := n) (S := (q x).sp) (v := v) (oN := fun _ => False) hv (fun b hb => hb.elim) (h3.mono (Same.refl F) fun b hb => upd_ne (o := .ins C dx (putF n v ws)) (a := a) fun z => h4 (by rw [← z]; exact hb))
  exact z.sub fun b hb => hb.elim id fun z => z.elim
/-! ### an own thing moves out of a name, into a field -/
theorem ex_mov {i : Nat} {S : SP} (h : env[i]? = some (some S)) : EX X E env (tVar i) (.ok ()) (fun _ => S) fun _ => env.set i none := by
  intro st vs σ H Q ⟨F, w, g⟩ hq
  obtain ⟨v, w', e1, g2⟩ := g.move h
  exact ⟨v, e1, hq v H ⟨F, w', g2⟩⟩
/-- x.f = e, the value one's own -/
theorem bk_fldS {K : PySem.W.Frag} {φ : V → Prop} {C : Addr} {fs : List (Str × SP)} {i : Nat} {n : Str} {m : R ε α} {S : α → SP} {e1 : α → En} {k : α → R ε γ} (h : ∀ x, (e1 x)[i]? = some (some (ob φ C fs))) (c : Cls K C) (na : NoAttr K C n) (hlen : fs.length < 1000) (he : EX X E env te m S e1)
    (hk : ∀ x, BK X E ((e1 x).set i (some (ob φ C (putS n (S x) fs)))) u (k x) post) : BK X E env (tSeq (sFld K (tVar i) te n) u) (m.bind k) post := by
  classical
  intro st vs σ H D gg hm
  rw [wp_bind] at hm
  refine he st vs σ H _ gg (wp_mono hm (fun x hm v H1 g1 => ?_) fun e h => h σ)
  obtain ⟨F, w, g⟩ := g1
  obtain ⟨u', e1', a, dx, ws, o', rfl, f, nd, h1, h2, h3, h4, h5, h6, h7, h8⟩ := g.env.2 i _ (h x)
  have hi : i < (e1 x).length := (List.getElem?_eq_some_iff.mp (h x)).1
  refine ⟨_, e1', a, C, dx, ws, rfl, h1, c, na, by rw [← h3.len]; exact hlen, ?_⟩
  have wa : w a = some (.e i) := h6
  have wd : w dx = some (.e i) := h7
  obtain ⟨q1, q2, q3⟩ := g.own a _ wa
  have u2 := Ext.chg (o := .ins C dx (putF n v ws)) g.ext.s q1
  let w' : Ow := fun b => if w b = some (.s st.length) then some (.e i) else w b
  have w'1 : ∀ b, w' b = some (.e i) ↔ (w b = some (.e i) ∨ w b = some (.s st.length)) := fun b => by
    show (if w b = some (.s st.length) then some (Lb.e i) else w b) = some (.e i) ↔ _
    by_cases hb : w b = some (.s st.length)
    · simp [hb]
    · simp [hb]
  have w'2 : ∀ l, l ≠ .e i → l ≠ .s st.length → ∀ b, w' b = some l ↔ w b = some l := fun l n1 n2 b => by
    show (if w b = some (.s st.length) then some (Lb.e i) else w b) = some l ↔ _
    by_cases hb : w b = some (.s st.length)
    · rw [if_pos hb, hb]
      exact ⟨fun z => absurd (Option.some.inj z).symm n1, fun z => absurd (Option.some.inj z).symm n2⟩
    · rw [if_neg hb]
  have an : ∀ b, w b = some (.s st.length) → b ≠ a := fun b hb z => by
    rw [z, wa] at hb; cases hb
  have oN : ∀ b, w.of (.s st.length) b → ¬ o' b := fun b hb z => by
    have z2 : w b = some (.e i) := h8 b z
    have z3 : w b = some (.s st.length) := hb
    rw [z3] at z2
    cases z2
  have hS : (S x).ok F (upd H1 a (.ins C dx (putF n v ws))) (w.of (.s st.length)) v := (S x).mono g.st.1 (Same.refl F) fun b hb => upd_ne (an b hb)
  refine hk x st vs σ _ D ⟨F, w', g.step u2 (fun b hb => ⟨.e i, by rw [hb]; exact wa⟩) (fun b l e => .inl ?_) ⟨by simpa using g.env.1, fun j S' e => ?_⟩ (g.st.2.step u2 fun k' hk' b => ⟨w'2 _ (by intro z; cases z) (by intro z; injection z with z; omega) b, fun e => ⟨fun z => (by rw [z, wa] at e; cases e), (g.own b _ e).2.1⟩⟩)⟩ hm
  · by_cases hb : w b = some (.s st.length)
    · exact ⟨_, hb⟩
    · have e' : (if w b = some (.s st.length) then some (Lb.e i) else w b) = some l := e
      rw [if_neg hb] at e'
      exact ⟨_, e'⟩
  · by_cases hj : i = j
    · subst hj
      rw [List.getElem?_set_self hi] at e
      cases e
      refine ⟨_, e1', a, dx, putF n v ws, fun b => o' b ∨ w.of (.s st.length) b, rfl, f, nd, upd_same, by rw [upd_ne (fun z => nd z.symm)]; exact h2, FsOk.put hS oN (h3.mono (Same.refl F) fun b hb => upd_ne fun z => h4 (by rw [← z]; exact hb)), ?_, ?_, (w'1 a).mpr (.inl wa), (w'1 dx).mpr (.inl wd), fun b hb => (w'1 b).mpr ?_⟩
      · rintro (z | z)
        · exact h4 z
        · exact an a z rfl
      · rintro (z | z)
        · exact h5 z
        · rw [show w dx = some (.s st.length) from z] at wd; cases wd
      · rcases hb with z | z
        · exact .inl (h8 b z)
        · exact .inr z
    · rw [List.getElem?_set_ne hj] at e
      obtain ⟨v', e2, e3⟩ := g.env.2 j S' e
      refine ⟨v', e2, SP.step u2 e3 (fun b => w'2 _ (by intro z; injection z with z; exact hj z.symm) (by intro z; cases z) b) fun b eb => ⟨fun z => ?_, (g.own b _ eb).2.1⟩⟩
      rw [z, wa] at eb
      cases eb
      exact hj rfl
/-! ### an own instance becomes a record that all may know -/
inductive FsZ : List (Str × SP) → List (Str × VP) → Prop where
  | nil : FsZ [] []
  | cons {n : Str} {S : SP} {q : VP} {fs : List (Str × SP)} {qs : List (Str × VP)} (h : Fz S q) (r : FsZ fs qs) : FsZ ((n, S) :: fs) ((n, q) :: qs)
theorem FsZ.ok {F H F' : Hp} (sF : Same F F') : ∀ {fs : List (Str × SP)} {qs : List (Str × VP)} {ws : List (Str × V)} {o : Addr → Prop}, FsZ fs qs → FsOk F H o fs ws → (∀ a, o a → F a = none) → (∀ a, o a → F' a = H a) → FvOk F' qs ws
  | _, _, [], _, .nil, _, _, _ => trivial
  | _, _, (m, v) :: ws, o, .cons h r, ⟨e, o1, o2, h1, h2, h3, h4, h5⟩, hn, hk => ⟨e, h _ _ _ _ h4 (fun a ha => hn a (h1 a ha)) F' sF (fun a ha => hk a (h1 a ha)), FsZ.ok sF r h5 (fun a ha => hn a (h2 a ha)) fun a ha => hk a (h2 a ha)⟩
  | _, _, [], _, .cons _ _, h, _, _ => h.elim
  | _, _, _ :: _, _, .nil, h, _, _ => h.elim
theorem fz_ob {φ : V → Prop} {C : Addr} {fs : List (Str × SP)} {view : α → List (Str × VP)} {x : α} (h : FsZ fs (view x)) : Fz (ob φ C fs) (vp (tI C view) x) := by
  intro F H o v ⟨a, dx, ws, o', e, f, nd, h1, h2, h3, h4, h5, h6, h7, h8⟩ hn F' s hk
  exact ⟨a, dx, ws, e, (hk a h6).trans h1, h.ok s h3 (fun b hb => hn b (h8 b hb)) fun b hb => hk b (h8 b hb)⟩
/-- it owns no tuples -/
inductive FsN : List (Str × SP) → Prop where
  | nil : FsN []
  | cons {n : Str} {S : SP} {fs : List (Str × SP)} (h : NT S) (r : FsN fs) : FsN ((n, S) :: fs)
end
end NL

set_option Elab.async false
set_option linter.all false
set_option maxRecDepth 100000
set_option maxHeartbeats 4000000
/-! NL: parts of own things by paths; own lists; comprehensions; slices -/
namespace NL
open PySem PySem.Spec PyProof.Rows L2 ML
def gR {ε α : Type} (p : Prop) [Decidable p] (k : R ε α) : R ε α := if p then k else .no
theorem gR_pos {ε α : Type} {p : Prop} [Decidable p] {k : R ε α} (h : p) : gR p k = k := if_pos h
theorem wp_gR {ε α : Type} {p : Prop} [Decidable p] {k : R ε α} {Q : α → Prop} {X : ε → Prop} (h : wp (gR p k) Q X) : p ∧ wp k Q X := by
  unfold gR at h
  split at h
  · exact ⟨‹_›, h⟩
  · exact h.elim
section
variable {ε ε' α β γ δ ρ σs τ : Type} {X : Xc ε} {E : Ent} {env env' : En} {te ta tb tc ti to : TE} {tt tu : TT} {u t t1 t2 : TS} {post : Post γ}
/-! ### paths that are read -/
def PA1 (env : En) (te : TE) (i : Nat) (S1 : SP) : Prop := ∀ (E : Ent) (st : List SP) (vs : List V) (σ : L2.St) (H F : Hp) (w : Ow) (Q : VK), GG E env st σ vs H F w → (∀ v o1, (∀ b, o1 b → w b = some (.e i)) → S1.ok F H o1 v → Q v H) → te σ H Q
theorem pa_var {i : Nat} {S : SP} (h : env[i]? = some (some S)) : PA1 env (tVar i) i S := fun E st vs σ H F w Q g hq => by
  obtain ⟨v, e1, e2⟩ := g.env.2 i S h
  exact ⟨v, e1, hq v _ (fun b hb => hb) e2⟩
theorem pa_fld {K : PySem.W.Frag} {φ : V → Prop} {C : Addr} {fs : List (Str × SP)} {n : Str} {S : SP} {i : Nat} (h : PA1 env te i (ob φ C fs)) (c : Cls K C) (na : NoAttr K C n) (hl : fs.lookup n = some S) : PA1 env (tFld K te n) i S := fun E st vs σ H F w Q g hq => by
  refine h E st vs σ H F w _ g fun v o1 k1 k2 => ?_
  obtain ⟨a, dx, ws, o', ev, f, nd, h1, h2, h3, h4, h5, h6, h7, h8⟩ := k2
  obtain ⟨v', o2, l1, l2, l3⟩ := h3.look hl
  exact ⟨a, C, dx, ws, v', ev, h1, c, na, l1, hq v' o2 (fun b hb => k1 b (h8 b (l2 b hb))) l3⟩
theorem ex_pa {T : Ty α} {x : α} {i : Nat} (h : PA1 env te i (val T x)) : EV X E env te (.ok x) (val T) := by
  intro st vs σ H Q ⟨F, w, g⟩ hq
  exact h E st vs σ H F w _ g fun v o1 _ k2 => hq v H ⟨F, w, g.pushV k2⟩

/-! ### fields put, looked up -/
theorem lookup_put {n : Str} {S : SP} : ∀ fs : List (Str × SP), (putS n S fs).lookup n = some S
  | [] => by simp [putS, List.lookup]
  | (k, T) :: fs => by
    unfold putS
    by_cases hk : k = n
    · subst hk; rw [if_pos rfl]; simp [List.lookup]
    · rw [if_neg hk]
      have hb : (n == k) = false := beq_eq_false_iff_ne.mpr (Ne.symm hk)
      simp only [List.lookup, hb]
      exact lookup_put fs
theorem lookup_put_ne {n m : Str} {S : SP} {o : Option SP} (h : (m == n) = false) : ∀ {fs : List (Str × SP)}, fs.lookup m = o → (putS n S fs).lookup m = o
  | [], e => by simp only [putS, List.lookup, h]; exact e
  | (k, T) :: fs, e => by
    unfold putS
    by_cases hk : k = n
    · subst hk
      rw [if_pos rfl]
      simp only [List.lookup, h] at e ⊢
      exact e
    · rw [if_neg hk]
      by_cases hm : m = k
      · subst hm
        simp only [List.lookup, beq_self_eq_true] at e ⊢
        exact e
      · have hb : (m == k) = false := beq_eq_false_iff_ne.mpr hm
        simp only [List.lookup, hb] at e ⊢
        exact lookup_put_ne h e
theorem put_put {n : Str} {S T : SP} : ∀ fs : List (Str × SP), putS n S (putS n T fs) = putS n S fs
  | [] => by simp [putS]
  | (k, U) :: fs => by
    unfold putS
    by_cases hk : k = n
    · subst hk; rw [if_pos rfl]; simp [putS]
    · rw [if_neg hk]
      have : putS n T ((k, U) :: fs) = (k, U) :: putS n T fs := by
        show (if k = n then (k, T) :: fs else (k, U) :: putS n T fs) = _
        rw [if_neg hk]
      rw [this]
      show (if k = n then (k, S) :: putS n T fs else (k, U) :: putS n S (putS n T fs)) = _
      rw [if_neg hk, put_put fs]
theorem put_len {n : Str} {S T : SP} : ∀ {fs : List (Str × SP)} {k : Nat}, fs.lookup n = some T → fs.length < k → (putS n S fs).length < k
  | [], k, h, _ => by simp at h
  | (m, U) :: fs, k, h, hl => by
    unfold putS
    by_cases hk : m = n
    · rw [if_pos hk]; exact hl
    · rw [if_neg hk]
      have hb : (n == m) = false := beq_eq_false_iff_ne.mpr (Ne.symm hk)
      simp only [List.lookup, hb] at h
      have : fs.length < k - 1 := by simp at hl; omega
      have := put_len (S := S) h this
      simp
      omega
theorem lens_fldP {φ : V → Prop} {C : Addr} {fs : List (Str × SP)} {n : Str} {S : SP} {v : V} (hp : Pin S v) : Lens (ob φ C (putS n S fs)) S v (fun B => ob φ C (putS n B fs)) := by
  have h := lens_fld (φ := φ) (C := C) (lookup_put (n := n) (S := S) fs) hp
  have e : (fun B => ob φ C (putS n B (putS n S fs))) = fun B => ob φ C (putS n B fs) := funext fun B => by rw [put_put]
  rw [e] at h
  exact h
/-- a name's thing, less known again -/
theorem ob_put {φ φ' : V → Prop} {C : Addr} {fs fs' : List (Str × SP)} {n : Str} {S S' : SP} (e : putS n S' fs = fs') (h : ∀ F H o v, S.ok F H o v → S'.ok F H o v) (hφ : ∀ v, φ v → φ' v) : ∀ F H o v, (ob φ C (putS n S fs)).ok F H o v → (ob φ' C fs').ok F H o v := by
  subst e
  exact ob_w hφ (fsw_put h)
theorem ob_un {φ : V → Prop} {C : Addr} {fs : List (Str × SP)} : ∀ F H o v, (ob φ C fs).ok F H o v → (ob yes C fs).ok F H o v := unpin_ob
theorem w_id {S : SP} : ∀ F H o v, S.ok F H o v → S.ok F H o v := fun _ _ _ _ h => h
theorem w_tr {S S1 S2 : SP} (h : ∀ F H o v, S.ok F H o v → S1.ok F H o v) (k : ∀ F H o v, S1.ok F H o v → S2.ok F H o v) : ∀ F H o v, S.ok F H o v → S2.ok F H o v := fun F H o v z => k F H o v (h F H o v z)
theorem f_id {v : V} {φ : V → Prop} : φ v → φ v := id
theorem f_yes {φ : V → Prop} : ∀ v, φ v → yes v := fun _ _ => trivial
theorem f_same {φ : V → Prop} : ∀ v, φ v → φ v := fun _ h => h
theorem pn_fldP {φ : V → Prop} {C : Addr} {fs : List (Str × SP)} {n : Str} {S : SP} {S' : Addr → SP} (hp : Pn S S') : Pn (ob φ C (putS n S fs)) (fun p => ob φ C (putS n (S' p) fs)) := by
  have h := pn_fld (φ := φ) (C := C) (lookup_put (n := n) (S := S) fs) hp
  have e : (fun p => ob φ C (putS n (S' p) (putS n S fs))) = fun p => ob φ C (putS n (S' p) fs) := funext fun B => by rw [put_put]
  rw [e] at h
  exact h
/-! ### read only: answers that lie in no heap -/
def BrF (env env' : En) : Prop := env'.length ≤ env.length ∧ ∀ (i : Nat) (S' : SP), env'[i]? = some (some S') → ∃ (S : SP) (q : VP), S' = q.sp ∧ env[i]? = some (some S) ∧ Fz S q
theorem brf_0 : BrF [] [] := ⟨Nat.le_refl _, fun i S e => by simp at e⟩
theorem brf_n {a : Option SP} (h : BrF env env') : BrF (a :: env) (none :: env') := ⟨Nat.succ_le_succ h.1, fun i S e => by
  cases i with
  | zero => cases e
  | succ i => exact h.2 i S e⟩
theorem brf_s {S0 : SP} {q0 : VP} (z : Fz S0 q0) (h : BrF env env') : BrF (some S0 :: env) (some q0.sp :: env') := ⟨Nat.succ_le_succ h.1, fun i S e => by
  cases i with
  | zero => cases e; exact ⟨_, _, rfl, rfl, z⟩
  | succ i => exact h.2 i S e⟩
theorem brf_v {T : Ty α} {x : α} (h : BrF env env') : BrF (some (val T x) :: env) (some (val T x) :: env') := brf_s fz_val h
theorem brf_q {q : VP} (h : BrF env env') : BrF (some q.sp :: env) (some q.sp :: env') := brf_s fz_v h
theorem GG.brwF {st : List SP} {σ : L2.St} {vs : List V} {H F : Hp} {w : Ow} (g : GG E env st σ vs H F w) (b : BrF env env') : ∃ Fp, Same F Fp ∧ Same Fp H ∧ (∀ a, w a = none → Fp a = F a) ∧ GG (.mk0 Fp H) env' [] σ [] H Fp (fun _ => none) := by
  classical
  let L : Addr → Prop := fun a => ∃ i, w a = some (.e i)
  let Fp : Hp := fun a => if L a then H a else F a
  have s1 : Same F Fp := fun a o e => by
    show (if L a then H a else F a) = some o
    by_cases h : L a
    · rw [if_pos h]; exact g.ext.s a o e
    · rw [if_neg h]; exact e
  have s2 : Same Fp H := fun a o e => by
    have e' : (if L a then H a else F a) = some o := e
    by_cases h : L a
    · rw [if_pos h] at e'; exact e'
    · rw [if_neg h] at e'; exact g.ext.s a o e'
  refine ⟨Fp, s1, s2, fun a h => ?_, ExtE.refl s2, ⟨Nat.le_trans b.1 g.env.1, fun i S' e => ?_⟩, trivial, fun a l e => by cases e⟩
  · show (if L a then H a else F a) = F a
    rw [if_neg]
    rintro ⟨i, e⟩
    rw [h] at e; cases e
  · obtain ⟨S, q, rfl, e2, z⟩ := b.2 i S' e
    obtain ⟨v, e3, e4⟩ := g.env.2 i _ e2
    refine ⟨v, e3, z F H _ v e4 (fun a ha => (g.own a _ ha).1) Fp s1 fun a ha => ?_⟩
    show (if L a then H a else F a) = H a
    rw [if_pos ⟨i, ha⟩]
theorem GG.unbrwF {st : List SP} {σ : L2.St} {vs : List V} {H F H' Fp F' : Hp} {w : Ow} (g : GG E env st σ vs H F w) (s1 : Same F Fp) (h1 : ∀ a, w a = none → Fp a = F a) (u : Ext Fp H (fun _ => False) F' H') : ∃ F2, GG E env st σ vs H' F2 w ∧ (∀ a, F' a = none → F2 a = none) := by
  classical
  refine ⟨fun a => if w a = none then F' a else none, GG.grow g ⟨fun a o e => ?_, fun a o e => ?_, u.h, fun a h => ?_, u.t⟩, fun a e => ?_⟩
  · have hw : w a = none := by
      cases q : w a with
      | none => rfl
      | some l => have := (g.own a l q).1; rw [this] at e; cases e
    show (if w a = none then F' a else none) = some o
    rw [if_pos hw]
    exact u.f a o (s1 a o e)
  · have e' : (if w a = none then F' a else none) = some o := e
    by_cases hw : w a = none
    · rw [if_pos hw] at e'; exact u.s a o e'
    · rw [if_neg hw] at e'; cases e'
  · show (if w a = none then F' a else none) = F a
    by_cases hw : w a = none
    · rw [if_pos hw, u.n a h, h1 a hw]
    · rw [if_neg hw]
      obtain ⟨l, e⟩ := ne_some hw
      exact (g.own a l e).1.symm
  · show (if w a = none then F' a else none) = none
    by_cases hw : w a = none
    · rw [if_pos hw]; exact e
    · rw [if_neg hw]
theorem ex_brF {T : Ty α} {m : R ε α} (fl : Flat T) (b : BrF env env') (h : ∀ F H, EV X.no (.mk0 F H) env' te m (val T)) : EV X E env te m (val T) := by
  intro st vs σ H Q ⟨F, w, g⟩ hm
  obtain ⟨Fp, s1, s2, h1, g1⟩ := GG.brwF g b
  refine h Fp H [] [] σ H Q ⟨Fp, _, g1⟩ (wp_mono hm (fun x hq v H' ⟨F', w', g'⟩ => ?_) fun e h => xcl_no e)
  obtain ⟨F2, g2, hF2⟩ := GG.unbrwF g s1 h1 g'.ext.to0
  exact hq v H' ⟨F2, w, g2.pushV (fl _ _ _ _ g'.top)⟩
theorem tx_brF {m : R ε Bool} (b : BrF env env') (h : ∀ F H, TP X.no (.mk0 F H) env' tt m) : TP X E env tt m := by
  intro st vs σ H Q ⟨F, w, g⟩ hm
  obtain ⟨Fp, s1, s2, h1, g1⟩ := GG.brwF g b
  refine h Fp H [] [] σ H Q ⟨Fp, _, g1⟩ (wp_mono hm (fun x hq H' ⟨F', w', g'⟩ => ?_) fun e h => xcl_no e)
  obtain ⟨F2, g2, hF2⟩ := GG.unbrwF g s1 h1 g'.ext.to0
  exact hq H' ⟨F2, w, g2⟩
/-- a new thing that leans on nothing -/
def FlO (S : SP) : Prop := ∀ (F F2 H : Hp) (o : Addr → Prop) (v : V), S.ok F H o v → S.ok F2 H o v
theorem flo_mu {φ : V → Prop} {T : Ty α} {xs : List α} (fl : Flat T) : FlO (muL φ T xs) := fun F F2 H o v ⟨a, us, e, f, ho, hh, p⟩ => ⟨a, us, e, f, ho, hh, Paired.mono p fun _ _ => fl _ _ _ _⟩
theorem ex_brFO {S : α → SP} {m : R ε α} (fl : ∀ x, FlO (S x)) (b : BrF env env') (h : ∀ F H, EV X.no (.mk0 F H) env' te m S) : EV X E env te m S := by
  intro st vs σ H Q ⟨F, w, g⟩ hm
  obtain ⟨Fp, s1, s2, h1, g1⟩ := GG.brwF g b
  refine h Fp H [] [] σ H Q ⟨Fp, _, g1⟩ (wp_mono hm (fun x hq v H' ⟨F', w', g'⟩ => ?_) fun e h => xcl_no e)
  obtain ⟨F2, g2, hF2⟩ := GG.unbrwF g s1 h1 g'.ext.to0
  refine hq _ H' ⟨F2, _, g2.addTop (N := w'.of (.s 0)) (fun b z => ?_) (fl x _ _ _ _ _ g'.st.1)⟩
  obtain ⟨q1, q2, q3⟩ := g'.own b _ z
  have hHa : H b = none := by
    rcases q3 with z | z
    · exact z
    · exact z.elim
  refine ⟨?_, hF2 b q1, q2, g.ext.t b hHa⟩
  cases e : w b with
  | none => rfl
  | some l => exact absurd hHa (g.own b l e).2.1
theorem flat_O {T : Ty α} (h : Flat T) : Flat (tOpt T) := fun F F' v x r => by
  cases x with
  | none => exact r
  | some y => exact h F F' v y r
/-! ### own lists, their place named -/
theorem pin_muL {φ : V → Prop} {T : Ty α} {xs : List α} {p : Addr} : Pin (muL (pinV p) T xs) (.ref p) := pin_mu
/-- own[j] -/
theorem ex_ixO {K : PySem.W.Frag} {φ : V → Prop} {T : Ty α} {xs : δ → List α} {i : Nat} {a : Addr} {S0 : δ → SP} {plug : δ → SP → SP} {m : R ε δ} {j : δ → Int} {e1 : δ → En} (hr : EV X E env to (.ok ()) (fun _ => (isVP (.ref a)).sp)) (hi : EX X E env ti m (fun x => val tInt (j x)) e1) (h : ∀ x, (e1 x)[i]? = some (some (S0 x))) (l : ∀ x, Lens (S0 x) (muL φ T (xs x)) (.ref a) (plug x)) :
    EX X E env (tOp (rIxL K) to ti) (m.bind fun x => R.of ((atI (xs x) (j x)).map fun y => (y, x))) (fun p => val T p.1) (fun p => e1 p.2) := by
  intro st vs σ H Q gg hm
  rw [wp_bind] at hm
  refine hr st vs σ H _ gg fun v H1 g1 => ?_
  refine hi _ _ σ H1 _ g1 (wp_mono hm (fun x hm iv H2 g2 => ?_) xcl_push)
  obtain ⟨F2, w2, g2⟩ := g2
  obtain ⟨p, ep, hq⟩ := wp_of hm
  obtain ⟨y, ey, rfl⟩ := Option.map_eq_some_iff.mp ep
  have ev : v = .ref a := g2.st.2.1
  subst ev
  obtain ⟨u0, e1', e2⟩ := g2.env.2 i _ (h x)
  obtain ⟨o1, _, ⟨a', us, ea, f, ho, hh, pp⟩, _⟩ := l x F2 H2 _ u0 e2
  cases ea
  obtain ⟨v', f1, f2⟩ := atI_paired pp ey
  exact ⟨a, us, j x, v', rfl, g2.top, .of hh, f1, hq v' H2 ⟨F2, w2, g2.pop.pop.pushV f2⟩⟩
theorem GG.mutP {φ : V → Prop} {T : Ty α} {xs : List α} {i : Nat} {a : Addr} {S0 : SP} {plug : SP → SP} {st : List SP} {σ : L2.St} {vs : List V} {H F : Hp} {w : Ow} (g : GG E env st σ vs H F w) (h : env[i]? = some (some S0)) (l : Lens S0 (muL φ T xs) (.ref a) plug) :
    ∃ us, H a = some (.lst us) ∧ Paired (T.rp F) us xs ∧ ∀ us' ys, Paired (T.rp F) us' ys → GG E (env.set i (some (plug (muL φ T ys)))) st σ vs (upd H a (.lst us')) F w := by
  obtain ⟨o1, ⟨a', us, ea, f, ho, hh, p⟩, k1, k⟩ := GG.chgP g h l
  cases ea
  exact ⟨us, hh, p, fun us' ys p' => k _ _ ((ho a).mpr rfl) ⟨a, us', rfl, f, ho, upd_same, p'⟩⟩
/-- own.append(e); out: what is told of it -/
theorem ex_append {K : PySem.W.Frag} {φ : V → Prop} {T : Ty α} {xs0 : List α} {xs : δ → List α} {i : Nat} {a : Addr} {S00 : SP} {plug0 : SP → SP} {S0 : δ → SP} {plug : δ → SP → SP} {m : R ε δ} {y : δ → α} {e1 : δ → En} {e' : τ → En} (out : δ → τ)
    (hr : EV X E env to (.ok ()) (fun _ => (isVP (.ref a)).sp)) (h0 : env[i]? = some (some S00)) (l0 : Lens S00 (muL φ T xs0) (.ref a) plug0) (he : EX X E env te m (fun x => val T (y x)) e1) (h : ∀ x, (e1 x)[i]? = some (some (S0 x))) (l : ∀ x, Lens (S0 x) (muL φ T (xs x)) (.ref a) (plug x)) (hf : ∀ x, Fgt ((e1 x).set i (some (plug x (muL φ T (xs x ++ [y x]))))) (e' (out x))) :
    EX X E env (tBM K "list" rAppend to (tCons te tNil)) (m.bind fun x => gR ((xs x).length < 16777216) (.ok (out x))) (fun _ => val tNon ()) e' := by
  intro st vs σ H Q gg hm
  rw [wp_bind] at hm
  refine hr st vs σ H _ gg fun v H1 g1 => ?_
  obtain ⟨F, w, g⟩ := id g1
  have ev : v = .ref a := g.st.1
  subst ev
  obtain ⟨us0, hh0, _, _⟩ := GG.mutP g h0 l0
  refine ⟨tyV_lst hh0, he _ _ σ H1 _ g1 (wp_mono hm (fun x hm v H2 g2 => ?_) xcl_push)⟩
  obtain ⟨F2, w2, g2⟩ := g2
  obtain ⟨hlen, hq⟩ := wp_gR hm
  obtain ⟨us, hh, p, k⟩ := GG.mutP g2.pop.pop (h x) (l x)
  refine ⟨a, us, v, rfl, rfl, hh, by rw [p.length, sizeLine_eq]; exact hlen, ?_⟩
  obtain ⟨F3, w3, g3⟩ := G.fgt ⟨F2, w2, k (us ++ [v]) (xs x ++ [y x]) (Paired.snoc p g2.top)⟩ (hf x)
  exact hq _ _ ⟨F3, w3, g3.pushV (T := tNon) rfl⟩
/-- own.extend(e), e a list that all may know -/
theorem ex_extend {K : PySem.W.Frag} {φ : V → Prop} {T : Ty α} {xs0 : List α} {xs : δ → List α} {i : Nat} {a : Addr} {S00 : SP} {plug0 : SP → SP} {S0 : δ → SP} {plug : δ → SP → SP} {m : R ε δ} {y : δ → List α} {e1 : δ → En} {e' : τ → En} (out : δ → τ)
    (hr : EV X E env to (.ok ()) (fun _ => (isVP (.ref a)).sp)) (h0 : env[i]? = some (some S00)) (l0 : Lens S00 (muL φ T xs0) (.ref a) plug0) (he : EX X E env te m (fun x => val (tL T) (y x)) e1) (h : ∀ x, (e1 x)[i]? = some (some (S0 x))) (l : ∀ x, Lens (S0 x) (muL φ T (xs x)) (.ref a) (plug x)) (hf : ∀ x, Fgt ((e1 x).set i (some (plug x (muL φ T (xs x ++ y x))))) (e' (out x))) :
    EX X E env (tBM K "list" rExtend to (tCons te tNil)) (m.bind fun x => gR ((xs x).length + (y x).length ≤ 16777216) (.ok (out x))) (fun _ => val tNon ()) e' := by
  intro st vs σ H Q gg hm
  rw [wp_bind] at hm
  refine hr st vs σ H _ gg fun v H1 g1 => ?_
  obtain ⟨F, w, g⟩ := id g1
  have ev : v = .ref a := g.st.1
  subst ev
  obtain ⟨us0, hh0, _, _⟩ := GG.mutP g h0 l0
  refine ⟨tyV_lst hh0, he _ _ σ H1 _ g1 (wp_mono hm (fun x hm v H2 g2 => ?_) xcl_push)⟩
  obtain ⟨F2, w2, g2⟩ := g2
  obtain ⟨hlen, hq⟩ := wp_gR hm
  obtain ⟨us, hh, p, k⟩ := GG.mutP g2.pop.pop (h x) (l x)
  obtain ⟨b, zs, eb, hb, pb⟩ := g2.top
  refine ⟨a, b, us, zs, rfl, by rw [eb], hh, g2.ext.s _ _ hb, by rw [p.length, pb.length, sizeLine_eq]; exact hlen, ?_⟩
  obtain ⟨F3, w3, g3⟩ := G.fgt ⟨F2, w2, k (us ++ zs) (xs x ++ y x) (ML.Paired.app p pb)⟩ (hf x)
  exact hq _ _ ⟨F3, w3, g3.pushV (T := tNon) rfl⟩
/-- own.reverse(), own.clear() -/
theorem ex_reverse {K : PySem.W.Frag} {φ : V → Prop} {T : Ty α} {xs : List α} {i : Nat} {a : Addr} {S0 : SP} {plug : SP → SP} {e' : τ → En} (out : τ) (hr : EV X E env to (.ok ()) (fun _ => (isVP (.ref a)).sp)) (h : env[i]? = some (some S0)) (l : Lens S0 (muL φ T xs) (.ref a) plug) (hf : Fgt (env.set i (some (plug (muL φ T xs.reverse)))) (e' out)) :
    EX X E env (tBM0 K "list" rReverse to) (.ok out) (fun _ => val tNon ()) e' := by
  intro st vs σ H Q gg hq
  refine hr st vs σ H _ gg fun v H1 g1 => ?_
  obtain ⟨F, w, g⟩ := g1
  have ev : v = .ref a := g.st.1
  subst ev
  obtain ⟨us, hh, p, k⟩ := GG.mutP g.pop h l
  obtain ⟨F3, w3, g3⟩ := G.fgt ⟨F, w, k us.reverse xs.reverse (Paired.rev p)⟩ hf
  exact ⟨tyV_lst hh, a, us, rfl, rfl, hh, hq _ _ ⟨F3, w3, g3.pushV (T := tNon) rfl⟩⟩
theorem ex_clear {K : PySem.W.Frag} {φ : V → Prop} {T : Ty α} {xs : List α} {i : Nat} {a : Addr} {S0 : SP} {plug : SP → SP} {e' : τ → En} (out : τ) (hr : EV X E env to (.ok ()) (fun _ => (isVP (.ref a)).sp)) (h : env[i]? = some (some S0)) (l : Lens S0 (muL φ T xs) (.ref a) plug) (hf : Fgt (env.set i (some (plug (muL φ T [])))) (e' out)) :
    EX X E env (tBM0 K "list" rClear to) (.ok out) (fun _ => val tNon ()) e' := by
  intro st vs σ H Q gg hq
  refine hr st vs σ H _ gg fun v H1 g1 => ?_
  obtain ⟨F, w, g⟩ := g1
  have ev : v = .ref a := g.st.1
  subst ev
  obtain ⟨us, hh, p, k⟩ := GG.mutP g.pop h l
  obtain ⟨F3, w3, g3⟩ := G.fgt ⟨F, w, k [] [] .nil⟩ hf
  exact ⟨tyV_lst hh, a, us, rfl, rfl, hh, hq _ _ ⟨F3, w3, g3.pushV (T := tNon) rfl⟩⟩
theorem Paired.dropL {α β : Type} {f : α → β → Prop} : ∀ {l : List α} {m : List β}, Paired f l m → Paired f l.dropLast m.dropLast
  | _, _, .nil => .nil
  | _, _, .cons r .nil => .nil
  | _, _, .cons r (.cons r' t) => .cons r (Paired.dropL (.cons r' t))
theorem Paired.erase {α β : Type} {f : α → β → Prop} : ∀ {l : List α} {m : List β} (k : Nat), Paired f l m → Paired f (l.eraseIdx k) (m.eraseIdx k)
  | _, _, _, .nil => .nil
  | _, _, 0, .cons _ t => t
  | _, _, k + 1, .cons r t => .cons r (Paired.erase k t)
/-- own.pop() -/
theorem ex_pop {K : PySem.W.Frag} {φ : V → Prop} {T : Ty α} {xs : List α} {i : Nat} {a : Addr} {S0 : SP} {plug : SP → SP} {S : τ → SP} {e' : τ → En} (out : α → τ) (hr : EV X E env to (.ok ()) (fun _ => (isVP (.ref a)).sp)) (h : env[i]? = some (some S0)) (l : Lens S0 (muL φ T xs) (.ref a) plug) (hS : ∀ x, S (out x) = val T x := by intros; rfl) (hf : ∀ x, Fgt (env.set i (some (plug (muL φ T xs.dropLast)))) (e' (out x))) :
    EX X E env (tBM0 K "list" rPop to) (R.of (xs[xs.length - 1]?.map out)) S e' := by
  intro st vs σ H Q gg hm
  obtain ⟨x, ex, hq⟩ := wp_of hm
  obtain ⟨y, ey, rfl⟩ := Option.map_eq_some_iff.mp ex
  refine hr st vs σ H _ gg fun v H1 g1 => ?_
  obtain ⟨F, w, g⟩ := g1
  have ev : v = .ref a := g.st.1
  subst ev
  obtain ⟨us, hh, p, k⟩ := GG.mutP g.pop h l
  obtain ⟨v', f1, f2⟩ := ML.Paired.get p ey
  have f2' : T.rp F v' y := f2
  have g4 : GG E _ (val T y :: st) σ (v' :: vs) _ F w := (k us.dropLast xs.dropLast (Paired.dropL p)).pushV f2'
  obtain ⟨F3, w3, g3⟩ := G.fgt ⟨F, w, g4⟩ (hf y)
  exact ⟨tyV_lst hh, a, us, v', rfl, rfl, hh, by rw [p.length]; exact f1, hq _ _ ⟨F3, w3, by rw [hS]; exact g3⟩⟩
/-- own[j] = e -/
theorem bk_setI {φ : V → Prop} {T : Ty α} {xs : List α} {i : Nat} {a : Addr} {S0 : SP} {plug : SP → SP} {m : R ε α} {mi : R ε Int} {k : List α → R ε γ} (hr : EV X E env to (.ok ()) (fun _ => (isVP (.ref a)).sp)) (h : env[i]? = some (some S0)) (l : Lens S0 (muL φ T xs) (.ref a) plug) (he : EV X E env te m (val T)) (hi : EV X E env ti mi (val tInt))
    (hk : ∀ ys, BK X E (env.set i (some (plug (muL φ T ys)))) u (k ys) post) : BK X E env (tSeq (tAsg te (gSub to ti rSetL)) u) (m.bind fun x => mi.bind fun j => (R.of (setI xs j x)).bind k) post := by
  intro st vs σ H D gg hm
  rw [wp_bind] at hm
  refine he st vs σ H _ gg (wp_mono hm (fun x hm v H1 g1 => ?_) fun e h => h σ)
  refine hr _ _ σ H1 _ g1 fun v2 H2 g2 => ?_
  rw [wp_bind] at hm
  refine hi _ _ σ H2 _ g2 (wp_mono hm (fun j hm v3 H3 g3 => ?_) fun e h => xcl_push e (xcl_push e (h σ)))
  obtain ⟨F, w, g⟩ := g3
  rw [wp_bind] at hm
  obtain ⟨ys, ey, hm⟩ := wp_of hm
  obtain ⟨j', ej, rfl⟩ := Option.map_eq_some_iff.mp ey
  have ev : v2 = .ref a := g.st.2.1
  subst ev
  obtain ⟨us, hh, p, kk⟩ := GG.mutP g.pop.pop.pop h l
  refine ⟨a, us, j, j', rfl, g.top, hh, by rw [p.length]; exact ej, ?_⟩
  exact hk _ st vs σ _ D ⟨F, w, kk _ _ (ML.Paired.set (f := T.rp F) (show T.rp F v x from g.st.2.2.1) j' p)⟩ hm
/-- del own[j] -/
theorem bk_delI {φ : V → Prop} {T : Ty α} {xs : List α} {i : Nat} {a : Addr} {S0 : SP} {plug : SP → SP} {mi : R ε Int} {k : List α → R ε γ} (hr : EV X E env to (.ok ()) (fun _ => (isVP (.ref a)).sp)) (h : env[i]? = some (some S0)) (l : Lens S0 (muL φ T xs) (.ref a) plug) (hi : EV X E env ti mi (val tInt))
    (hk : ∀ ys, BK X E (env.set i (some (plug (muL φ T ys)))) u (k ys) post) : BK X E env (tSeq (tDelL to ti) u) (mi.bind fun j => (gR (-(9223372036854775808) ≤ j ∧ j < 9223372036854775808) (R.of ((seqIndex? j xs.length).map fun n => xs.eraseIdx n))).bind k) post := by
  intro st vs σ H D gg hm
  rw [wp_bind] at hm
  refine hr st vs σ H _ gg fun v2 H2 g2 => ?_
  refine hi _ _ σ H2 _ g2 (wp_mono hm (fun j hm v3 H3 g3 => ?_) fun e h => xcl_push e (h σ))
  obtain ⟨F, w, g⟩ := g3
  rw [wp_bind] at hm
  obtain ⟨⟨b1, b2⟩, hm⟩ := wp_gR hm
  obtain ⟨ys, ey, hm⟩ := wp_of hm
  obtain ⟨n, en, rfl⟩ := Option.map_eq_some_iff.mp ey
  have ev : v2 = .ref a := g.st.2.1
  subst ev
  obtain ⟨us, hh, p, kk⟩ := GG.mutP g.pop.pop h l
  refine ⟨a, us, j, n, rfl, g.top, hh, b1, b2, by rw [p.length]; exact en, ?_⟩
  exact hk _ st vs σ _ D ⟨F, w, kk _ _ (Paired.erase n p)⟩ hm
/-! ### x.f op= e, a field that all may know -/
theorem bk_fldAug {K : PySem.W.Frag} {φ : V → Prop} {C : Addr} {fs : List (Str × SP)} {i : Nat} {n : Str} {S0 : SP} {a : Addr} {plug : SP → SP} {T : Ty α} {U : Ty β} {W : Ty δ} {x : α} {rd : V → V → Hp → VK → Prop} {m : R ε β} {mc : β → Option δ} {k : δ → R ε γ} (ho : EV X E env ta (.ok ()) (fun _ => (isVP (.ref a)).sp)) (h : env[i]? = some (some S0)) (l : Lens S0 (ob φ C fs) (.ref a) plug) (c : Cls K C) (na : NoAttr K C n) (hlen : fs.length < 1000) (hl : fs.lookup n = some (val T x))
    (he : EV X E env te m (val U)) (hr : ∀ b, O2 rd (val T x) (val U b) (mc b) (val W)) (hk : ∀ y, BK X E (env.set i (some (plug (ob φ C (putS n (val W y) fs))))) u (k y) post) : BK X E env (tSeq (sFldAug K ta te rd n) u) (m.bind fun b => (R.of (mc b)).bind k) post := by
  intro st vs σ H D gg hm
  rw [wp_bind] at hm
  refine ho st vs σ H _ gg fun u1 H1 g1 => ?_
  obtain ⟨F, w, g⟩ := g1
  have eu : u1 = .ref a := g.st.1
  subst eu
  obtain ⟨u0, e1, e2⟩ := g.env.2 i _ h
  obtain ⟨o1, _, ⟨a', dx, ws, o', ea, f, nd, h1, h2, h3, _⟩, _⟩ := l F H1 _ u0 e2
  cases ea
  obtain ⟨v, o2, l1, _, l3⟩ := h3.look hl
  refine ⟨a, C, dx, ws, v, rfl, h1, c, na, l1, ?_⟩
  have g2 : G E env (val T x :: st) σ (v :: vs) H1 := ⟨F, w, g.pop.pushV l3⟩
  refine he _ _ σ H1 _ g2 (wp_mono hm (fun b hm vb H2 g3 => ?_) fun e h => xcl_push e (h σ))
  rw [wp_bind] at hm
  obtain ⟨y, ey, hm⟩ := wp_of hm
  refine hr b E env st σ vs H2 _ v vb y g3 ey fun z H3 g4 => ?_
  obtain ⟨F4, w4, g4⟩ := g4
  have hz : W.rp F4 z y := g4.top
  obtain ⟨p1, k2, k1, k3⟩ := GG.chgP g4.pop h l
  obtain ⟨a', dx, ws, o', ea, f, nd, h1, h2, h3, h4, h5, h6, h7, h8⟩ := k2
  cases ea
  refine ⟨dx, ws, h1, by rw [← h3.len]; exact hlen, ?_⟩
  refine hk y st vs σ _ D ⟨F4, w4, k3 _ _ h6 ⟨a, dx, putF n z ws, o', rfl, f, nd, upd_same, by rw [upd_ne (Ne.symm nd)]; exact h2, ?_, h4, h5, h6, h7, h8⟩⟩ hm
  have zz := FsOk.put (n := n) (S := val W y) (v := z) (oN := fun _ => False) hz (fun b hb => hb.elim) (h3.mono (Same.refl F4) fun b hb => upd_ne (o := .ins C dx (putF n z ws)) (a := a) fun z => h4 (by rw [← z]; exact hb))
  exact zz.sub fun b hb => hb.elim id fun z => z.elim
/-- x op= e, x a name -/
theorem bk_aug {i : Nat} {T : Ty α} {U : Ty β} {W : Ty δ} {x : α} {m : R ε β} {tip : TIp} {mc : β → Option δ} {k : δ → R ε γ} (h : env[i]? = some (some (val T x))) (he : EV X E env te m (val U)) (ho : ∀ b, O2 tip (val T x) (val U b) (mc b) (val W))
    (hk : ∀ y, BK X E (env.set i (some (val W y))) u (k y) post) : BK X E env (tSeq (tAug i te tip) u) (m.bind fun b => (R.of (mc b)).bind k) post := by
  intro st vs σ H D gg hm
  rw [wp_bind] at hm
  obtain ⟨F, w, g0⟩ := id gg
  obtain ⟨v, e1, e2⟩ := g0.env.2 i _ h
  have hi : i < env.length := (List.getElem?_eq_some_iff.mp h).1
  refine ⟨v, e1, he _ _ σ H _ ⟨F, w, g0.pushV e2⟩ (wp_mono hm (fun b hm vb H1 g1 => ?_) fun e h => xcl_push e (h σ))⟩
  rw [wp_bind] at hm
  obtain ⟨y, ey, hm⟩ := wp_of hm
  refine ho b E env st σ vs H1 _ v vb y g1 ey fun z H2 g2 => ?_
  obtain ⟨F2, w2, g2⟩ := g2
  obtain ⟨w3, g3⟩ := g2.store hi
  exact hk y st vs _ H2 D ⟨F2, w3, g3⟩ hm
/-- x op= e, e with effects -/
theorem bk_augE {i : Nat} {T : Ty α} {W : Ty τ} {x : α} {S : δ → SP} {e1 : δ → En} {m : R ε δ} {tip : TIp} {mc : δ → Option τ} {k : δ → τ → R ε γ} (h : env[i]? = some (some (val T x))) (he : EX X E env te m S e1) (ho : ∀ b, O2 tip (val T x) (S b) (mc b) (val W)) (hi : ∀ b, Nat.ble (i + 1) (e1 b).length = true := by intro _; rfl)
    (hk : ∀ b y, BK X E ((e1 b).set i (some (val W y))) u (k b y) post) : BK X E env (tSeq (tAug i te tip) u) (m.bind fun b => (R.of (mc b)).bind (k b)) post := by
  intro st vs σ H D gg hm
  rw [wp_bind] at hm
  obtain ⟨F, w, g0⟩ := id gg
  obtain ⟨v, e1', e2⟩ := g0.env.2 i _ h
  refine ⟨v, e1', he _ _ σ H _ ⟨F, w, g0.pushV e2⟩ (wp_mono hm (fun b hm vb H1 g1 => ?_) fun e h => xcl_push e (h σ))⟩
  rw [wp_bind] at hm
  obtain ⟨y, ey, hm⟩ := wp_of hm
  refine ho b E _ st σ vs H1 _ v vb y g1 ey fun z H2 g2 => ?_
  obtain ⟨F2, w2, g2⟩ := g2
  obtain ⟨w3, g3⟩ := g2.store (Nat.le_of_ble_eq_true (hi b))
  exact hk b y st vs _ H2 D ⟨F2, w3, g3⟩ hm
/-! ### slices -/
def TO1 (X : Xc ε) (E : Ent) (env : En) (t : TO) (m : R ε (Option Int)) : Prop :=
  ∀ (st : List SP) (vs : List V) (σ : L2.St) (H : Hp) (Q : Option Int → Hp → Prop), G E env st σ vs H → wp m (fun b => ∀ H', G E env st σ vs H' → Q b H') (xcl X E st vs σ) → t σ H Q
theorem to_none : TO1 X E env tNoPart (.ok none) := fun st vs σ H Q g hq => hq H g
theorem to_some {m : R ε Int} (h : EV X E env te m (val tInt)) : TO1 X E env (tPart te) (m.bind fun x => .ok (some x)) := by
  intro st vs σ H Q g hm
  rw [wp_bind] at hm
  exact h st vs σ H _ g (wp_mono hm (fun x hq v H1 ⟨F, w, g1⟩ => ⟨x, g1.top, hq H1 ⟨F, w, g1.pop⟩⟩) fun e h => h)
theorem ex_slL {K : PySem.W.Frag} {T : Ty α} {tl th : TO} {m : R ε (List α)} {ml mh : R ε (Option Int)} (h : EV X E env te m (val (tL T))) (hl : TO1 X E env tl ml) (hh : TO1 X E env th mh) : EV X E env (tSl (rSlL K) te tl th) (m.bind fun xs => ml.bind fun l => mh.bind fun h => .ok (cutL xs l h)) (own T) := by
  intro st vs σ H Q g hm
  rw [wp_bind] at hm
  refine h st vs σ H _ g (wp_mono hm (fun xs hm v H1 g1 => ?_) fun e h => h)
  rw [wp_bind] at hm
  refine hl _ _ σ H1 _ g1 (wp_mono hm (fun l hm H2 g2 => ?_) xcl_push)
  rw [wp_bind] at hm
  refine hh _ _ σ H2 _ g2 (wp_mono hm (fun u hq H3 g3 => ?_) xcl_push)
  obtain ⟨F, w, g3⟩ := g3
  obtain ⟨a, us, e, h', p⟩ := g3.top
  refine ⟨a, us, e, .of (g3.ext.s _ _ h'), fun p' hp => hq _ _ ⟨F, _, g3.pop.pushO hp ⟨p', _, rfl, trivial, fun b => Iff.rfl, upd_same, ?_⟩⟩⟩
  unfold cutV cutL
  rw [p.length]
  exact ML.Paired.take _ (ML.Paired.drop _ p)
theorem ex_revL {K : PySem.W.Frag} {T : Ty α} {m : R ε (List α)} (h : EV X E env te m (val (tL T))) : EV X E env (tRevL K te) (m.bind fun xs => .ok xs.reverse) (own T) := by
  intro st vs σ H Q g hm
  rw [wp_bind] at hm
  refine h st vs σ H _ g (wp_mono hm (fun xs hq v H1 g1 => ?_) fun e h => h)
  obtain ⟨F, w, g1⟩ := g1
  obtain ⟨a, us, e, h', p⟩ := g1.top
  exact ⟨a, us, e, .of (g1.ext.s _ _ h'), fun p' hp => hq _ _ ⟨F, _, g1.pop.pushO hp ⟨p', _, rfl, trivial, fun b => Iff.rfl, upd_same, Paired.rev p⟩⟩⟩
/-! ### comprehensions -/
def mapR {ε α β : Type} : List α → (α → R ε β) → R ε (List β)
  | [], _ => .ok []
  | x :: xs, f => (f x).bind fun y => (mapR xs f).bind fun ys => .ok (y :: ys)
def filR {ε α β : Type} : List α → (α → R ε Bool) → (α → R ε β) → R ε (List β)
  | [], _, _ => .ok []
  | x :: xs, t, f => (t x).bind fun b => if b = true then (f x).bind fun y => (filR xs t f).bind fun ys => .ok (y :: ys) else filR xs t f
def mapS {ε α β σs : Type} : List α → σs → (α → σs → R ε (β × σs)) → R ε (List β × σs)
  | [], s, _ => .ok ([], s)
  | x :: xs, s, f => (f x s).bind fun y => (mapS xs y.2 f).bind fun ys => .ok (y.1 :: ys.1, ys.2)
@[simp] theorem mapR_nil {ε α β : Type} (f : α → R ε β) : mapR [] f = .ok [] := rfl
@[simp] theorem mapR_cons {ε α β : Type} (x : α) (xs : List α) (f : α → R ε β) : mapR (x :: xs) f = (f x).bind fun y => (mapR xs f).bind fun ys => .ok (y :: ys) := rfl
@[simp] theorem mapS_nil {ε α β σs : Type} (s : σs) (f : α → σs → R ε (β × σs)) : mapS [] s f = .ok ([], s) := rfl
@[simp] theorem mapS_cons {ε α β σs : Type} (x : α) (xs : List α) (s : σs) (f : α → σs → R ε (β × σs)) : mapS (x :: xs) s f = (f x s).bind fun y => (mapS xs y.2 f).bind fun ys => .ok (y.1 :: ys.1, ys.2) := rfl
@[simp] theorem filR_nil {ε α β : Type} (t : α → R ε Bool) (f : α → R ε β) : filR [] t f = .ok [] := rfl
@[simp] theorem filR_cons {ε α β : Type} (x : α) (xs : List α) (t : α → R ε Bool) (f : α → R ε β) : filR (x :: xs) t f = (t x).bind fun b => if b = true then (f x).bind fun y => (filR xs t f).bind fun ys => .ok (y :: ys) else filR xs t f := rfl
/-- the general one: a state, a test -/
def lcR {ε α β σs : Type} : List α → σs → (α → σs → R ε (Option β × σs)) → R ε (List β × σs)
  | [], s, _ => .ok ([], s)
  | x :: xs, s, f => (f x s).bind fun y => (lcR xs y.2 f).bind fun ys => .ok ((match y.1 with | some b => b :: ys.1 | none => ys.1), ys.2)
/-- nothing is let out (within a comprehension) -/
def Xc.nv (ε : Type) : Xc ε := ⟨fun _ _ _ _ => False, fun _ _ _ _ => False, fun _ => []⟩
theorem xcl_nv {st : List SP} {vs : List V} {σ : L2.St} (e : ε) : xcl (Xc.nv ε) E st vs σ e := fun _ _ _ _ _ _ k => k.elim
def lcB {ε α β σs : Type} (ft : α → σs → R ε Bool) (f : α → σs → R ε (β × σs)) (x : α) (s : σs) : R ε (Option β × σs) := (ft x s).bind fun b => if b = true then (f x s).bind fun r => .ok (some r.1, r.2) else .ok (none, s)
theorem ex_lcG {wi : TI} {g : TG} {ws : List Nat} {mx : R ε δ} {xs : δ → List α} {S : α → SP} {e' : δ → En} {eL : δ → σs → En} {eX : δ → α → σs → En} {T : Ty β} {s0 : δ → σs} {ft : δ → α → σs → R ε Bool} {f : δ → α → σs → R ε (β × σs)} (hi : IX X E env wi mx xs S e') (h0 : ∀ c, Fgt (e' c) (eL c (s0 c)))
    (hw : ∀ c s, NoW (eL c s) ws) (hg : ∀ c x s, AC E (eL c s) ws g (S x) (eX c x s)) (hX : ∀ c x s, Fgt (eX c x s) (eL c s)) (ht : ∀ c x s, TP (Xc.nv ε) E (eX c x s) tt (ft c x s)) (he : ∀ c x s, EX (Xc.nv ε) E (eX c x s) te (f c x s) (fun r => val T r.1) (fun r => eX c x r.2)) :
    EX X E env (tLc wi g tt te ws) (mx.bind fun c => gR ((xs c).length ≤ 16777216) ((lcR (xs c) (s0 c) (lcB (ft c) (f c))).bind fun r => .ok (r, c))) (fun r => own T r.1.1) fun r => eL r.2 r.1.2 := by
  intro st vs σ H Q gg hm
  rw [wp_bind] at hm
  refine hi st vs σ H _ gg (wp_mono hm (fun c hm J Z v H1 wk g1 => ?_) fun e h => h)
  obtain ⟨hlen, hm⟩ := wp_gR hm
  rw [wp_bind] at hm
  obtain ⟨F1, w1, g1⟩ := g1.fgt (h0 c)
  intro D hD
  have g0 : G E (eL c (s0 c)) (own T [] :: Z :: st) σ (.ref D :: v :: vs) (upd H1 D (.lst [])) := ⟨F1, _, g1.pushO hD ⟨D, [], rfl, trivial, fun b => Iff.rfl, upd_same, .nil⟩⟩
  let fb : α → σs → R ε (Option β × σs) := lcB (ft c) (f c)
  let Φ : List β × σs → Prop := fun r => ∀ v H', G E (eL c r.2) (own T r.1 :: st) σ (v :: vs) H' → Q v H'
  let Ξ : ε → Prop := xcl X E st vs σ
  have hm' : wp (lcR (xs c) (s0 c) fb) (fun r => Φ ([] ++ r.1, r.2)) Ξ := hm
  have stepR : ∀ x r s, lcR (x :: r) s fb = (ft c x s).bind fun b => if b = true then (f c x s).bind fun y => (lcR r y.2 fb).bind fun ys => .ok (y.1 :: ys.1, ys.2) else lcR r s fb := fun x r s => by
    show (lcB (ft c) (f c) x s).bind (fun y => (lcR r y.2 fb).bind fun ys => .ok ((match y.1 with | some b => b :: ys.1 | none => ys.1), ys.2)) = _
    unfold lcB
    rw [R.bind_assoc]
    congr 1
    funext b
    cases b with
    | true => rw [if_pos rfl, if_pos rfl, R.bind_assoc]; rfl
    | false =>
      rw [if_neg Bool.false_ne_true, if_neg Bool.false_ne_true]
      exact R.bind_ok' _
  refine ⟨fun i m H' => m = (xs c).length - i ∧ ∃ acc s, G E (eL c s) (own T acc :: Z :: st) σ (.ref D :: v :: vs) H' ∧ acc.length ≤ i ∧ wp (lcR ((xs c).drop i) s fb) (fun r => Φ (acc ++ r.1, r.2)) Ξ, ⟨_, rfl, [], s0 c, g0, Nat.le_refl _, by simpa using hm'⟩, ?_⟩
  rintro i m H' ⟨rfl, acc, s, g2, hacc, e⟩
  obtain ⟨k1, k2⟩ := wk E (eL c s) [own T acc] st σ [.ref D] vs H' i rfl g2
  cases hd : (xs c).drop i with
  | nil =>
    rw [hd] at e
    have e' : Φ (acc ++ [], s) := e
    rw [List.append_nil] at e'
    exact .inl ⟨k2 (drop_nil hd), e' _ _ g2.nip⟩
  | cons x r =>
    rw [hd, stepR, wp_bind] at e
    obtain ⟨d1, d2⟩ := drop_cons hd
    have hlt : i < (xs c).length := (List.getElem?_eq_some_iff.mp d1).1
    obtain ⟨k3, k4⟩ := k1 x d1
    refine .inr ⟨k3, fun H'' => ∃ m', m' < (xs c).length - i ∧ m' = (xs c).length - (i + 1) ∧ ∃ acc s, G E (eL c s) (own T acc :: Z :: st) σ (.ref D :: v :: vs) H'' ∧ acc.length ≤ i + 1 ∧ wp (lcR ((xs c).drop (i + 1)) s fb) (fun r => Φ (acc ++ r.1, r.2)) Ξ, fun H'' ⟨m', h1, h2, h3⟩ => ⟨m', h1, h2, h3⟩, fun xv H'' hy => ?_⟩
    have g3 := k4 xv H'' hy
    refine hg c x s _ _ _ H'' _ xv ((G.wiped (hw c s)).mp g3) fun σ2 H2 hσ g4 => ⟨by rw [hσ, wipe_wipe fun i hi => hi], ?_⟩
    have back : ∀ {st' : List SP} {vs' : List V} {H' : Hp} {s : σs}, G E (eX c x s) st' σ2 vs' H' → G E (eL c s) st' σ vs' H' := fun {st' vs' H' s} g => (G.wiped (hw c s)).mpr (by
      have z := (G.wiped (hw c s)).mp (g.fgt (hX c x s))
      rw [hσ, wipe_wipe fun i hi => hi] at z
      exact z)
    refine ht c x s _ _ σ2 H2 _ g4 (wp_mono e (fun b e4 H3 g5 => ?_) fun e h => xcl_nv e)
    cases b with
    | false => exact ⟨_, by omega, rfl, acc, s, back g5, by omega, by rw [d2]; exact e4⟩
    | true =>
      rw [if_pos rfl, wp_bind] at e4
      show te σ2 H3 _
      refine he c x s _ _ σ2 H3 _ g5 (wp_mono e4 (fun y e5 yv H4 g6 => ?_) fun e h => xcl_nv e)
      rw [wp_bind] at e5
      obtain ⟨F6, w6, g6⟩ := back g6
      have hy := g6.top
      obtain ⟨a, us, ea, hf, ho, hh, p⟩ := g6.pop.st.1
      cases ea
      refine ⟨us, hh, by rw [p.length, sizeLine_eq]; omega, ?_⟩
      have wD : w6 D = some (.s (Z :: st).length) := (ho D).mpr rfl
      obtain ⟨q1, q2, q3⟩ := g6.own D _ wD
      have u := Ext.chg (o := .lst (us ++ [yv])) g6.ext.s q1
      refine ⟨_, by omega, rfl, acc ++ [y.1], y.2, ⟨F6, w6, g6.step u (fun b hb => ⟨.s (Z :: st).length, by rw [hb]; exact wD⟩) (fun b l e => .inl ⟨l, e⟩) (g6.env.step u fun k S _ b => ⟨Iff.rfl, fun e => ⟨fun z => ?_, (g6.own b _ e).2.1⟩⟩) ⟨⟨D, us ++ [yv], rfl, hf, ho, upd_same, Paired.snoc p hy⟩, ?_⟩⟩, by simp; omega, ?_⟩
      · rw [z, wD] at e; cases e
      · exact g6.pop.pop.st.step u fun k hk b => ⟨Iff.rfl, fun e => ⟨fun z => by rw [z, wD] at e; injection e with e; injection e with e; have e2 : (Z :: st).length = k := e; have hk2 : k < (Z :: st).length := hk; omega, (g6.own b _ e).2.1⟩⟩
      · rw [d2]
        refine wp_mono e5 (fun r h => ?_) fun e h => h
        have h' : Φ (acc ++ y.1 :: r.1, r.2) := h
        show Φ (acc ++ [y.1] ++ r.1, r.2)
        rw [List.append_assoc]
        exact h'
theorem lcR_fil {ε α β : Type} (t : α → R ε Bool) (f : α → R ε β) : ∀ xs : List α, lcR xs () (lcB (fun x _ => t x) fun x _ => (f x).bind fun y => .ok (y, ())) = (filR xs t f).bind fun ys => .ok (ys, ())
  | [] => rfl
  | x :: xs => by
    unfold lcR filR
    rw [R.bind_assoc]
    unfold lcB
    rw [R.bind_assoc]
    congr 1
    funext b
    cases b with
    | true =>
      rw [if_pos rfl, if_pos rfl]
      simp only [R.bind_assoc, R.bind_ok]
      congr 1
      funext y
      have ih := lcR_fil t f xs
      unfold lcB at ih
      simp only [R.bind_assoc, R.bind_ok] at ih
      rw [ih, R.bind_assoc]
      rfl
    | false =>
      rw [if_neg Bool.false_ne_true, if_neg Bool.false_ne_true]
      have ih := lcR_fil t f xs
      unfold lcB at ih
      simp only [R.bind_assoc, R.bind_ok] at ih ⊢
      rw [ih, R.bind_assoc]
      rfl
theorem filR_map {ε α β : Type} (f : α → R ε β) : ∀ xs : List α, filR xs (fun _ => .ok true) f = mapR xs f
  | [] => rfl
  | x :: xs => by
    unfold filR mapR
    rw [filR_map f xs]
    rfl
theorem lcR_S {ε α β σs : Type} (f : α → σs → R ε (β × σs)) : ∀ (xs : List α) (s : σs), lcR xs s (lcB (fun _ _ => .ok true) f) = mapS xs s f
  | [], _ => rfl
  | x :: xs, s => by
    have ih := lcR_S f xs
    unfold lcB at ih
    simp only [R.bind_ok, if_true] at ih
    unfold lcR mapS lcB
    simp only [R.bind_ok, if_true, R.bind_assoc]
    congr 1
    funext y
    rw [ih]
/-- no state -/
theorem ex_lc {wi : TI} {g : TG} {ws : List Nat} {mx : R ε (List α)} {S : α → SP} {eX : α → En} {T : Ty β} {t : α → R ε Bool} {f : α → R ε β} (hi : IX X E env wi mx id S fun _ => env) (hw : NoW env ws) (hg : ∀ x, AC E env ws g (S x) (eX x)) (hX : ∀ x, Fgt (eX x) env) (ht : ∀ x, TP (Xc.nv ε) E (eX x) tt (t x)) (he : ∀ x, EV (Xc.nv ε) E (eX x) te (f x) (val T)) :
    EV X E env (tLc wi g tt te ws) (mx.bind fun xs => gR (xs.length ≤ 16777216) (filR xs t f)) (own T) := by
  have h := ex_lcG (σs := Unit) (eL := fun _ _ => env) (eX := fun _ x _ => eX x) (s0 := fun _ => ()) (ft := fun _ x _ => t x) (f := fun _ x _ => (f x).bind fun y => .ok (y, ())) (T := T) (tt := tt) (te := te) (ws := ws) (g := g) hi (fun _ => Fgt.refl _) (fun _ _ => hw) (fun _ x _ => hg x) (fun _ x _ => hX x) (fun _ x _ => ht x)
    (fun _ x _ => ex_ev (fun y => (y, ())) (he x))
  have h2 := ex_out (S2 := own T) (e2 := fun _ => env) (fun r => r.1.1) h
  refine ex_eq h2 ?_
  rw [R.bind_assoc]
  congr 1
  funext xs
  unfold gR
  by_cases hl : xs.length ≤ 16777216
  · rw [if_pos (show (id xs).length ≤ 16777216 from hl), if_pos hl, lcR_fil, R.bind_assoc, R.bind_assoc]
    exact R.bind_ok' _
  · rw [if_neg (show ¬ (id xs).length ≤ 16777216 from hl), if_neg hl]
    rfl
theorem ex_lc1 {wi : TI} {g : TG} {ws : List Nat} {mx : R ε (List α)} {S : α → SP} {eX : α → En} {T : Ty β} {f : α → R ε β} (hi : IX X E env wi mx id S fun _ => env) (hw : NoW env ws) (hg : ∀ x, AC E env ws g (S x) (eX x)) (hX : ∀ x, Fgt (eX x) env) (he : ∀ x, EV (Xc.nv ε) E (eX x) te (f x) (val T)) :
    EV X E env (tLc wi g tYes te ws) (mx.bind fun xs => gR (xs.length ≤ 16777216) (mapR xs f)) (own T) := by
  have h := ex_lc (tt := tYes) (t := fun _ => .ok true) hi hw hg hX (fun x => fun st vs σ H Q gg hq => hq H gg) he
  have e : (fun xs : List α => gR (xs.length ≤ 16777216) (filR xs (fun _ => (.ok true : R ε Bool)) f)) = fun xs => gR (xs.length ≤ 16777216) (mapR xs f) := funext fun xs => by rw [filR_map]
  rw [e] at h
  exact h
/-- a state, no test -/
theorem ex_lcS {wi : TI} {g : TG} {ws : List Nat} {mx : R ε δ} {xs : δ → List α} {S : α → SP} {e' : δ → En} {eL : δ → σs → En} {eX : δ → α → σs → En} {T : Ty β} {s0 : δ → σs} {f : δ → α → σs → R ε (β × σs)} (hi : IX X E env wi mx xs S e') (h0 : ∀ c, Fgt (e' c) (eL c (s0 c)))
    (hw : ∀ c s, NoW (eL c s) ws) (hg : ∀ c x s, AC E (eL c s) ws g (S x) (eX c x s)) (hX : ∀ c x s, Fgt (eX c x s) (eL c s)) (he : ∀ c x s, EX (Xc.nv ε) E (eX c x s) te (f c x s) (fun r => val T r.1) (fun r => eX c x r.2)) :
    EX X E env (tLc wi g tYes te ws) (mx.bind fun c => gR ((xs c).length ≤ 16777216) ((mapS (xs c) (s0 c) (f c)).bind fun r => .ok (r, c))) (fun r => own T r.1.1) fun r => eL r.2 r.1.2 := by
  have h := ex_lcG (tt := tYes) (ft := fun _ _ _ => .ok true) hi h0 hw hg hX (fun c x s => fun st vs σ H Q gg hq => hq H gg) he
  refine ex_eq h ?_
  congr 1
  funext c
  rw [lcR_S]
end
end NL

set_option Elab.async false
set_option linter.all false
set_option maxRecDepth 100000
set_option maxHeartbeats 4000000
/-! NL: facts of the top; small rules -/
namespace NL
open PySem PySem.Spec PyProof.Rows L2 ML
/-! ### facts -/
abbrev FaX : Type := PySem.W.Frag → Bool
def faOf (f : He.Fa) : FaX := fun K => f.ok K
/-- a property: the place of the property object, of its getter -/
def ppA (K : PySem.W.Frag) (C : Addr) (f : Str) : Addr := match PySem.W.findIn K (.ref C) f with
  | some (some (.ref p)) => p
  | _ => 0
def pgA (K : PySem.W.Frag) (C : Addr) (f : Str) : Addr := match PySem.W.recIn K (ppA K C f) "property" with
  | some (.ref g :: _) => g
  | _ => 0
def propB (x f : Str) : FaX := fun K => He.eqO (PySem.W.findIn K (.ref (He.ga K x)) f) (some (some (.ref (ppA K (He.ga K x) f)))) &&
  (He.eqO (PySem.W.specialIn K (.ref (ppA K (He.ga K x) f)) "__get__") (some (some (.builtin "property.__get__"))) && (decide (PySem.W.takesIn K (.ref (ppA K (He.ga K x) f)) = some true) &&
  (match PySem.W.recIn K (ppA K (He.ga K x) f) "property" with
    | some (.ref g :: _) => true
    | _ => false)))
theorem prop_ok {K : PySem.W.Frag} {x f : Str} (h : propB x f K = true) : PropOf K (He.ga K x) f (ppA K (He.ga K x) f) (pgA K (He.ga K x) f) := by
  obtain ⟨h1, h⟩ := He.ba h
  obtain ⟨h2, h⟩ := He.ba h
  obtain ⟨h3, h4⟩ := He.ba h
  refine ⟨He.eqO_ok h1, He.eqO_ok h2, of_decide_eq_true h3, ?_⟩
  unfold pgA
  cases q : PySem.W.recIn K (ppA K (He.ga K x) f) "property" with
  | none => rw [q] at h4; cases h4
  | some l =>
    rw [q] at h4
    cases l with
    | nil => cases h4
    | cons v r =>
      cases v with
      | ref g => exact ⟨r, rfl⟩
      | _ => cases h4
/-- two names stand for the same def -/
def sameB (a b : PySem.W.Frag → Addr) : FaX := fun K => decide (a K = b K)
/-- an empty tuple, a constant -/
def tup0B (a : PySem.W.Frag → Addr) : FaX := fun K => match K.lookup (a K) with
  | some ⟨.type c, _, .seq its _, _⟩ => decide (c = "tuple") && decide (its.size = 0)
  | _ => false
theorem tup0_ok {K : PySem.W.Frag} {a : PySem.W.Frag → Addr} (h : tup0B a K = true) (H : Hp) : SqT K H (a K) [] := by
  unfold tup0B at h
  cases q : K.lookup (a K) with
  | none =>
    rw [q] at h
    cases h
  | some o =>
    obtain ⟨oc, od, dt, osl⟩ := o
    rw [q] at h
    cases oc with
    | type c =>
      cases dt with
      | seq its n =>
        obtain ⟨h1, h2⟩ := He.ba (show (decide (c = "tuple") && decide (its.size = 0)) = true from h)
        have hz : its.size = 0 := of_decide_eq_true h2
        have hl : its.toList = [] := by
          cases its with
          | mk l => simpa using hz
        refine .inr ⟨_, its, n, q, congrArg Value.type (of_decide_eq_true h1), rfl, by rw [hz]; exact Nat.zero_le _, ?_⟩
        rw [hl]
        exact .nil
      | _ => cases h
    | _ => cases dt <;> cases h
def kwdAt (ad : PySem.W.Frag → Addr) (x : Str) (K : PySem.W.Frag) : Addr := match K.lookup (ad K) with
  | some ⟨_, _, .func fd, _⟩ => (match fd.kwdefaults with
    | .ref D => (match PySem.W.nsIn K D x with
      | some (some (.ref a)) => a
      | _ => 0)
    | _ => 0)
  | _ => 0
def dflAtA (ad : PySem.W.Frag → Addr) (i : Nat) (K : PySem.W.Frag) : Addr := match K.lookup (ad K) with
  | some ⟨_, _, .func fd, _⟩ => (match fd.defaults with
    | .ref T => (match K.lookup T with
      | some ⟨_, _, .seq its _, _⟩ => (match its.toList[i]? with
        | some (.ref a) => a
        | _ => 0)
      | _ => 0)
    | _ => 0)
  | _ => 0
/-! ### defs, by their places -/
structure DefX where
  ad : PySem.W.Frag → Addr
  name : Str
  qual : Str
  params : Arguments
  body : List Stmt
  scope : Scope
  dfl : List He.Dv := []
  kwd : List (Str × He.Dv) := []
def fnX (K : PySem.W.Frag) (a : Addr) : He.FnW := match K.lookup a with
  | some ⟨_, _, .func fd, _⟩ => some (fd.name, fd.qualname, fd.params, fd.body, fd.scope, fd.globals, fd.closure, fd.builtins)
  | _ => none
def DefX.val (d : DefX) : He.FnW := some (d.name, d.qual, d.params, .stmts d.body, d.scope, mainGlobals, [], builtinsNs)
def DefX.dvs (K : PySem.W.Frag) (d : DefX) : List V := d.dfl.map (He.Dv.v K)
def DefX.kws (K : PySem.W.Frag) (d : DefX) : List (Str × V) := d.kwd.map fun q => (q.1, q.2.v K)
def DefX.ok (K : PySem.W.Frag) (d : DefX) : Bool := PySem.W.keepIn K (.ref (d.ad K)) && (match K.lookup (d.ad K) with
  | some ⟨_, _, .func fd, _⟩ => PySem.W.codeIn K fd.code d.qual && (He.dflB K fd.defaults (d.dvs K) && He.kwdB K fd.kwdefaults (d.kws K))
  | _ => false)
theorem DefX.funD {K : PySem.W.Frag} {d : DefX} (e : fnX K (d.ad K) = d.val) (c : d.ok K = true) : ∃ fd, FunD K d.name d.qual d.params d.body d.scope (d.dvs K) (d.kws K) (d.ad K) fd := by
  obtain ⟨kp, c2⟩ := He.ba c
  unfold fnX at e
  cases q : K.lookup (d.ad K) with
  | none =>
    rw [q] at c2
    cases c2
  | some o =>
    obtain ⟨oc, od, dt, osl⟩ := o
    rw [q] at c2 e
    cases dt with
    | func fd =>
      obtain ⟨n1, n2, n3, n4, n5, n6, n7, n8, n9, n10, n11, n12, n13, n14, n15⟩ := fd
      have e2 : (some (n1, n2, n3, n4, n5, n6, n7, n15) : He.FnW) = some (d.name, d.qual, d.params, .stmts d.body, d.scope, mainGlobals, [], builtinsNs) := e
      simp only [Option.some.injEq, Prod.mk.injEq] at e2
      obtain ⟨h1, h2, h3, h4, h5, h6, h7, h8⟩ := e2
      subst h1 h2 h3 h4 h5 h6 h7 h8
      have c3 : (PySem.W.codeIn K n13 d.qual && (He.dflB K n8 (d.dvs K) && He.kwdB K n9 (d.kws K))) = true := c2
      obtain ⟨k1, k2⟩ := He.ba c3
      obtain ⟨k3, k4⟩ := He.ba k2
      exact ⟨_, ⟨oc, od, n8, n9, n10, n11, n12, n13, n14, osl, rfl, q, k1, He.dflB_ok k3, He.kwdB_ok k4⟩, kp⟩
    | _ => cases c2
/-! ### the Hook -/
def obsX (fa : List FaX) (fn : List DefX) (K : PySem.W.Frag) : He.AlD := ((fa.all fun f => f K) && fn.all fun d => d.ok K, fn.map fun d => fnX K (d.ad K))
def valX (fn : List DefX) : He.AlD := (true, fn.map DefX.val)
def SaysX (fa : List FaX) (fn : List DefX) (K : PySem.W.Frag) : Prop := obsX fa fn K = valX fn
def obsXG (n : Nat) (fa : List FaX) (fn : List DefX) (g : Addr → Option Obj) : He.AlD := obsX fa fn (He.frG g (He.asD g n))
def hookX (n : Nat) (fa : List FaX) (fn : List DefX) : PySem.W.Hook where
  α := He.AlD
  obs := fun s => obsXG n fa fn s.heap.get?
  val := fun _ => valX fn
  says := fun _ h => ∃ K : PySem.W.Frag, K.In h ∧ SaysX fa fn K
  of := fun _ _ e => ⟨_, He.frG_in, e⟩
  keeps := fun _ _ _ ⟨K, hK, c⟩ k => ⟨K, PySem.W.Frag.In.keeps hK k, c⟩
theorem obsXG_eq {n : Nat} {fa : List FaX} {fn : List DefX} {g : Addr → Option Obj} {s : Shared} (h : ∀ a, g a = s.heap.get? a) : obsXG n fa fn g = (hookX n fa fn).obs s := by
  have e : g = s.heap.get? := funext h
  rw [e] <;> rfl
section
variable {fa : List FaX} {fn : List DefX} {K : PySem.W.Frag}
theorem SaysX.fact (c : SaysX fa fn K) (i : Nat) {f : FaX} (h : fa[i]? = some f := by rfl) : f K = true := by
  have c1 := (He.ba (show ((fa.all fun f => f K) && fn.all fun d => d.ok K) = true from congrArg (fun z : He.AlD => z.1) c)).1
  exact List.all_eq_true.mp c1 f (List.mem_of_getElem? h)
theorem SaysX.def_ (c : SaysX fa fn K) (i : Nat) {d : DefX} (h : fn[i]? = some d := by rfl) : ∃ fd, FunD K d.name d.qual d.params d.body d.scope (d.dvs K) (d.kws K) (d.ad K) fd := by
  have c2 := (He.ba (show ((fa.all fun f => f K) && fn.all fun d => d.ok K) = true from congrArg (fun z : He.AlD => z.1) c)).2
  have e : fn.map (fun d => fnX K (d.ad K)) = fn.map DefX.val := congrArg (fun z : He.AlD => z.2) c
  have e2 : (fn.map fun d => fnX K (d.ad K))[i]? = (fn.map DefX.val)[i]? := by rw [e]
  rw [List.getElem?_map, List.getElem?_map, h] at e2
  exact DefX.funD (Option.some.inj e2) (List.all_eq_true.mp c2 d (List.mem_of_getElem? h))
end
/-! ### what a caller knows of a def at f -/
def CalB (P : Program) (w : World) (K : PySem.W.Frag) (mg : Str → Option Value) (base : Heap) (k : Nat) (f : Addr) (ps : List Str) (sp : Sp) (dvs : List V) : Prop := ∃ (fd : FuncData) (ds : List Value), Vals dvs ds ∧ Binds K fd ps ds ∧ FnOk P w K mg base (L2.CX P w) k f fd ps sp
def CalN (P : Program) (w : World) (K : PySem.W.Frag) (mg : Str → Option Value) (base : Heap) (k : Nat) (f : Addr) (ps : List Str) (sp : Sp) (n : Nat) (ks : List Str) (gV : List V → List V → List V) : Prop := ∃ (fd : FuncData) (g : List Value → List Value → List Value), KBn K fd ps n ks g gV ∧ FnOk P w K mg base (L2.CX P w) k f fd ps sp
theorem takesF {X : Cx} : Takes X (fun _ _ _ _ => False) := takes0
/-! ### small rules -/
section
variable {ε ε' α β γ δ ρ σs τ : Type} {X : Xc ε} {E : Ent} {env env' : En} {te ta tb tc ti to : TE} {tt tu : TT} {u t t1 t2 : TS} {post : Post γ}
theorem ex_pair {T : Ty α} {U : Ty β} {ma : R ε α} {mb : R ε β} (ha : EV X E env ta ma (val T)) (hb : EV X E env tb mb (val U)) : EV X E env (tTup (tCons ta (tCons tb tNil))) (ma.bind fun a => mb.bind fun b => .ok (a, b)) (val (tP T U)) := by
  intro st vs σ H Q g hm
  rw [wp_bind] at hm
  refine ha st vs σ H _ g (wp_mono hm (fun a hm va H1 g1 => ?_) fun e h => h)
  rw [wp_bind] at hm
  refine hb _ _ σ H1 _ g1 (wp_mono hm (fun b hq vb H2 g2 => ?_) xcl_push)
  obtain ⟨F, w, g2⟩ := g2
  refine ⟨by show 2 ≤ sizeLine; decide, fun p hp => ?_⟩
  have u := Ext.newF (F := F) (o := .tup [va, vb]) g2.ext.s hp
  exact hq _ _ ⟨_, w, (g2.pop.pop.grow u).pushV ⟨p, va, vb, rfl, upd_same, T.mono u.f g2.st.2.1, U.mono u.f g2.st.1⟩⟩
theorem ex_pairE {T : Ty α} {U : Ty β} {ma : R ε γ} {mb : γ → R ε τ} {Sa : γ → α} {Sb : γ → τ → β} {e1 : γ → En} {e2 : γ → τ → En} {S : δ → α × β} {e' : δ → En} (out : γ → τ → δ) (ha : EX X E env ta ma (fun x => val T (Sa x)) e1) (hb : ∀ a, EX X E (e1 a) tb (mb a) (fun x => val U (Sb a x)) (e2 a))
    (hS : ∀ a b, S (out a b) = (Sa a, Sb a b) := by intros; rfl) (he : ∀ a b, e' (out a b) = e2 a b := by intros; rfl) : EX X E env (tTup (tCons ta (tCons tb tNil))) (ma.bind fun a => (mb a).bind fun b => .ok (out a b)) (fun x => val (tP T U) (S x)) e' := by
  intro st vs σ H Q g hm
  rw [wp_bind] at hm
  refine ha st vs σ H _ g (wp_mono hm (fun a hm va H1 g1 => ?_) fun e h => h)
  rw [wp_bind] at hm
  refine hb a _ _ σ H1 _ g1 (wp_mono hm (fun b hq vb H2 g2 => ?_) xcl_push)
  obtain ⟨F, w, g2⟩ := g2
  refine ⟨by show 2 ≤ sizeLine; decide, fun p hp => ?_⟩
  have u := Ext.newF (F := F) (o := .tup [va, vb]) g2.ext.s hp
  exact hq _ _ ⟨_, w, by rw [he]; exact (g2.pop.pop.grow u).pushV ⟨p, va, vb, rfl, upd_same, by rw [hS]; exact T.mono u.f g2.st.2.1, by rw [hS]; exact U.mono u.f g2.st.1⟩⟩
/-- x.f = e, then the names as they are told -/
theorem bk_fldF {K : PySem.W.Frag} {φ : V → Prop} {C : Addr} {fs : List (Str × SP)} {i : Nat} {n : Str} {S0 : SP} {a : Addr} {plug : SP → SP} {m : R ε α} {q : α → VP} {e1 e2 : α → En} {k : α → R ε γ} (he : EX X E env te m (fun x => (q x).sp) e1) (ho : ∀ x, EV X E (e1 x) ta (.ok ()) (fun _ => (isVP (.ref a)).sp)) (h : ∀ x, (e1 x)[i]? = some (some S0)) (l : Lens S0 (ob φ C fs) (.ref a) plug) (c : Cls K C) (na : NoAttr K C n) (hlen : fs.length < 1000)
    (hf : ∀ x, Fgt ((e1 x).set i (some (plug (ob φ C (putS n (q x).sp fs))))) (e2 x)) (hk : ∀ x, BK X E (e2 x) u (k x) post) : BK X E env (tSeq (sFld K ta te n) u) (m.bind k) post := bk_fldV he ho h l c na hlen fun x => bk_from (hf x) (hk x)
theorem bk_fldG {K : PySem.W.Frag} {φ : V → Prop} {C : Addr} {fs : List (Str × SP)} {i : Nat} {n : Str} {m : R ε α} {S : α → SP} {e1 e2 : α → En} {k : α → R ε γ} (h : ∀ x, (e1 x)[i]? = some (some (ob φ C fs))) (c : Cls K C) (na : NoAttr K C n) (hlen : fs.length < 1000) (he : EX X E env te m S e1)
    (hf : ∀ x, Fgt ((e1 x).set i (some (ob φ C (putS n (S x) fs)))) (e2 x)) (hk : ∀ x, BK X E (e2 x) u (k x) post) : BK X E env (tSeq (sFld K (tVar i) te n) u) (m.bind k) post := bk_fldS h c na hlen he fun x => bk_from (hf x) (hk x)
theorem bk_fldAugF {K : PySem.W.Frag} {φ : V → Prop} {C : Addr} {fs : List (Str × SP)} {i : Nat} {n : Str} {S0 : SP} {a : Addr} {plug : SP → SP} {T : Ty α} {U : Ty β} {W : Ty δ} {x : α} {rd : V → V → Hp → VK → Prop} {m : R ε β} {mc : β → Option δ} {k : δ → R ε γ} {e2 : δ → En} (ho : EV X E env ta (.ok ()) (fun _ => (isVP (.ref a)).sp)) (h : env[i]? = some (some S0)) (l : Lens S0 (ob φ C fs) (.ref a) plug) (c : Cls K C) (na : NoAttr K C n) (hlen : fs.length < 1000) (hl : fs.lookup n = some (val T x))
    (he : EV X E env te m (val U)) (hr : ∀ b, O2 rd (val T x) (val U b) (mc b) (val W)) (hf : ∀ y, Fgt (env.set i (some (plug (ob φ C (putS n (val W y) fs))))) (e2 y)) (hk : ∀ y, BK X E (e2 y) u (k y) post) : BK X E env (tSeq (sFldAug K ta te rd n) u) (m.bind fun b => (R.of (mc b)).bind k) post := bk_fldAug ho h l c na hlen hl he hr fun y => bk_from (hf y) (hk y)
theorem o2_augI {f : Int → Int → Int} {a b : Int} : O2 (fun x y H Q => ∃ i j, x = V.int i ∧ y = V.int j ∧ Q (.int (f i j)) H) (val tInt a) (val tInt b) (some (f a b)) (val tInt) := o2_mk fun c hm F H Q va vb s ha hb hq => by
  cases hm
  exact ⟨a, b, ha, hb, hq _ rfl⟩
/-- a constant of the class, x.N -/
theorem ex_conI {K : PySem.W.Frag} {C : Addr} {n : Str} {v : V} {u' : Value} {T : Ty β} {y : β} {mr : R ε α} {S0 : α → SP} {e1 : α → En} (hr : EX X E env te mr S0 e1) (rec : ∀ x, RecOk (e1 x) (S0 x) C n) (c : Cls K C) (k : Con K C n v u') (hv : ∀ F, T.rp F v y) : EX X E env (tCon K te n) mr (fun _ => val T y) e1 := by
  intro st vs σ H Q gg hm
  refine hr st vs σ H _ gg (wp_mono hm (fun x hq v1 H1 g1 => ?_) fun e h => h)
  obtain ⟨F, w, g⟩ := g1
  obtain ⟨a, dx, fs, rfl, ea, el⟩ := rec x E st σ v1 vs H1 F w g
  exact ⟨a, C, dx, fs, v, u', rfl, ea, c, k, el, hq v H1 ⟨F, w, g.pop.pushV (hv F)⟩⟩
end
/-! ### the law's end -/
theorem spX_law {K : PySem.W.Frag} {mg : Str → Option Value} {f : List Int → R Empty Bool} {H : Hp} {a : Addr} {ns : List Int} (hS : SqL K H a (ns.map V.int)) (hf : f ns = .ok true) : spX mg (fun ns : List Int => [val (tS K tInt) ns]) f (fun _ r => val tBool r) (fun _ _ => []) (fun e : Empty => e.elim) (fun _ _ => []) [.ref a] H (fun v _ => v = .bl true) fun _ _ _ => False := by
  refine ⟨ns, H, fun _ => none, ⟨Same.refl H, rfl, fun k S e => ?_, fun b l e => by cases e⟩, (wp_ok hf).mpr fun v F' H' w' p => p.ret⟩
  cases k with
  | zero =>
    have e' : val (tS K tInt) ns = S := by simpa using e
    subst e'
    refine ⟨.ref a, rfl, a, _, rfl, hS, ?_⟩
    clear hS hf e
    induction ns with
    | nil => exact .nil
    | cons n ns ih => exact .cons rfl ih
  | succ k => simp at e
theorem cx_law {P : Program} {w : World} (H : Hp) (s : Shared) (e : Value) (s' : Shared) (h : L2.CX P w [] H s (fun _ _ _ => False) e s') : False := by
  obtain ⟨_, _, _, _, _, _, _, _, _, _, _, _, z⟩ := h
  exact z
end NL

set_option Elab.async false
set_option linter.all false
set_option maxRecDepth 100000
set_option maxHeartbeats 4000000
/-! NL: small things that the printed texts name -/
namespace NL
open PySem PySem.Spec PyProof.Rows L2 ML
section
variable {ε ε' α β γ δ ρ σs τ : Type} {X : Xc ε} {E : Ent} {env env' : En} {te ta tb tc ti to : TE} {tt tu : TT} {u t t1 t2 : TS} {post : Post γ}
theorem no_mem {α : Type} {P : Prop} {x : α} (h : x ∈ ([] : List α)) : P := by cases h
theorem lok00 : LOk env [] [] := ⟨fun _ h _ _ _ => no_mem h, fun _ h _ _ _ => no_mem h, fun _ h => no_mem h, fun _ h _ _ _ => no_mem h, fun _ h _ _ _ => no_mem h, fun _ h _ _ => no_mem h⟩
theorem lok10 {n : Nm} (h : env[n.i]? = some (some n.S)) (l : Lens n.S n.S1 n.v n.plug) : LOk env [n] [] :=
  ⟨fun a ha b hb _ => by rw [List.mem_singleton.mp ha, List.mem_singleton.mp hb], fun a ha b hb _ => by rw [List.mem_singleton.mp ha, List.mem_singleton.mp hb], fun a ha => by rw [List.mem_singleton.mp ha]; exact ⟨h, l⟩, fun _ h _ _ _ => no_mem h, fun _ h _ _ _ => no_mem h, fun _ _ _ h => no_mem h⟩
theorem lokm0 {C : Addr} (p : Addr) : LOk [some (ob (pinV p) C [])] [⟨0, 0, ob (pinV p) C [], ob (pinV p) C [], .ref p, id⟩] [] := lok10 rfl (lens_id pin_ob)
theorem all3 {α : Type} {p : α → Prop} {a b c : α} (h1 : p a) (h2 : p b) (h3 : p c) : ∀ x ∈ [a, b, c], p x := fun x hx => by
  rcases List.mem_cons.mp hx with e | hx
  · rw [e]; exact h1
  · rcases List.mem_cons.mp hx with e | hx
    · rw [e]; exact h2
    · rw [List.mem_singleton.mp hx]; exact h3
/-- an operator, its right side written, its left with effects -/
theorem ex_opEr {r : R2} {ma : R ε α} {b : β} {mc : α → Option γ} {Sa : α → SP} {Sb : β → SP} {Sc : α → γ → SP} {e1 : α → En} {S : δ → SP} {e' : δ → En} (out : α → γ → δ) (ha : EX X E env ta ma Sa e1) (hb : ∀ {env : En}, EV X E env tb (.ok b) Sb) (hr : ∀ a, O2 r (Sa a) (Sb b) (mc a) (Sc a)) (hS : ∀ a c, S (out a c) = Sc a c := by intros; rfl) (he : ∀ a c, e' (out a c) = e1 a := by intros; rfl) :
    EX X E env (tOp r ta tb) (ma.bind fun a => (R.of (mc a)).bind fun c => .ok (out a c)) S e' :=
  by
  intro st vs σ H Q g hm
  rw [wp_bind] at hm
  refine ha st vs σ H _ g (wp_mono hm (fun a hm v H1 g1 => ?_) fun e h => h)
  refine hb _ _ σ H1 _ g1 fun v2 H2 g2 => ?_
  rw [wp_bind] at hm
  obtain ⟨c, ec, hq⟩ := wp_of hm
  refine hr a E _ st σ vs H2 _ v v2 c g2 ec fun z H3 g3 => hq z H3 ?_
  rw [he, hS]
  exact g3
theorem ex_slS {K : PySem.W.Frag} {T : Ty α} {tl th : TO} {m : R ε (List α)} {ml mh : R ε (Option Int)} (h : EV X E env te m (val (tS K T))) (hl : TO1 X E env tl ml) (hh : TO1 X E env th mh) : EV X E env (tSl (rSlL K) te tl th) (m.bind fun xs => ml.bind fun l => mh.bind fun h => .ok (cutL xs l h)) (own T) := by
  intro st vs σ H Q g hm
  rw [wp_bind] at hm
  refine h st vs σ H _ g (wp_mono hm (fun xs hm v H1 g1 => ?_) fun e h => h)
  rw [wp_bind] at hm
  refine hl _ _ σ H1 _ g1 (wp_mono hm (fun l hm H2 g2 => ?_) xcl_push)
  rw [wp_bind] at hm
  refine hh _ _ σ H2 _ g2 (wp_mono hm (fun u hq H3 g3 => ?_) xcl_push)
  obtain ⟨F, w, g3⟩ := g3
  obtain ⟨a, us, e, h', p⟩ := g3.top
  refine ⟨a, us, e, g3.ext.s.seq h', fun p' hp => hq _ _ ⟨F, _, g3.pop.pushO hp ⟨p', _, rfl, trivial, fun b => Iff.rfl, upd_same, ?_⟩⟩⟩
  unfold cutV cutL
  rw [p.length]
  exact ML.Paired.take _ (ML.Paired.drop _ p)
/-! written values -/
theorem ex_opq {r : R2} {a : α} {b : β} {c : γ} {Sa : α → SP} {Sb : β → SP} {S : γ → SP} (ha : EV X E env ta (.ok a) Sa) (hb : EV X E env tb (.ok b) Sb) (hr : O2 r (Sa a) (Sb b) (some c) S) : EV X E env (tOp r ta tb) (.ok c) S := ex_opp ha hb hr
theorem ex_1q {t : TE} {r : V → Hp → VK → Prop} {a : α} {c : γ} {Sa : α → SP} {S : γ → SP} (ht : ∀ σ H Q, ta σ H (fun v H1 => r v H1 Q) → t σ H Q) (ha : EV X E env ta (.ok a) Sa) (hr : O1 r (Sa a) (some c) S) : EV X E env t (.ok c) S := fun st vs σ H Q g hq => ht σ H Q (ha st vs σ H _ g fun v H1 g1 => hr E env st σ vs H1 Q v c g1 rfl hq)
theorem ex_1r {t : TE} {r : V → Hp → VK → Prop} {a : α} {mc : Option γ} {Sa : α → SP} {S : γ → SP} (ht : ∀ σ H Q, ta σ H (fun v H1 => r v H1 Q) → t σ H Q) (ha : EV X E env ta (.ok a) Sa) (hr : O1 r (Sa a) mc S) : EV X E env t (R.of mc) S := by
  intro st vs σ H Q g hm
  obtain ⟨c, ec, hq⟩ := wp_of hm
  exact ht σ H Q (ha st vs σ H _ g fun v H1 g1 => hr E env st σ vs H1 Q v c g1 ec hq)
theorem ex_notp {b : Bool} (ha : EV X E env ta (.ok b) (val tBool)) : EV X E env (tNotV ta) (.ok (!b)) (val tBool) := ex_not ha
theorem tp_notp {b : Bool} (ha : TP X E env tt (.ok b)) : TP X E env (tNot tt) (.ok (!b)) := tp_not ha
theorem ex_somep {T : Ty α} {a : α} (h : EV X E env te (.ok a) (val T)) : EV X E env te (.ok (some a)) (val (tOpt T)) := ex_some h
/-- the names, as they are written -/
theorem bk_at (env' : En) {m : R ε γ} (h : BK X E env' t m post) (e : env = env' := by rfl) : BK X E env t m post := e ▸ h
theorem embN {post : Post γ} {eR : Empty → En} {R0 : Empty → SP} : Emb E post R0 eR Empty.elim := fun r => r.elim
end
/-- the law's end, what may be let out being told by the world -/
theorem walk_X {l : PySem.W.OpenLaw} {n k : Nat} {q : Program} {loose : List Str} {XP : (Str → Option Value) → Heap → Prop} {YP : World → Heap → Prop} {d : DefRec} {x : Str}
    (hn : l.most = some n) (hn2 : n ≤ sizeLine) (hdf : d.params.defaults = []) (hr : Room k callerA)
    (F : ∀ (w : World) (mg : Str → Option Value) (fa : Addr) (h : Heap), YP w h → h.Ns mainGlobals mg → mg d.name = some (.ref fa) →
      ∃ (K : PySem.W.Frag) (fd : FuncData) (sp : Sp), K.In h ∧ (∀ (s : Shared) (u : Value), BindsTo s fd ⟨[u], []⟩ [(x, u)]) ∧
        (∀ (H : Hp) (a : Addr) (ns : List Int), ns.length ≤ n → Only H → SqL K H a (ns.map V.int) → sp [.ref a] H (fun v _ => v = .bl true) fun _ _ _ => False) ∧
        ∀ base : Heap, K.In base → base.Ns mainGlobals mg → FnOk l.prog w K mg base (L2.CX l.prog w) k fa fd [x] sp) :
    PySem.W.WalkO q loose XP YP l.row.toRowW d [] (fun f vs => PySem.call f vs) := by
  refine Att.attach_call hn hdf fun w s₀ s₁ mg mb fa o pm cd doc a vs ns G Y ho hd hcd hmg hobj hints hlen hg => ?_
  obtain ⟨K, fd, sp, KX, hb, hsp, hF⟩ := F w mg fa _ Y G.T.g hmg
  exact law_call KX G.T.g G.T.b G.T.builtins G.T.nolimit hg hobj hints (Nat.le_trans hlen hn2) hr hF hb (fun H hO hS => hsp H a ns hlen hO hS) fun H e s' h => cx_law H s₁ e s' h
end NL

set_option Elab.async false
set_option linter.all false
set_option maxRecDepth 100000
set_option maxHeartbeats 4000000
/-! NL: plain laws of the mirrors' words -/
namespace NL
open PySem PySem.Spec PyProof.Rows L2 ML
theorem forL_inv {ε α σ ρ : Type} {f : α → σ → R ε (Out σ σ ρ)} {P : σ → Prop} : ∀ {xs : List α} {s : σ}, P s → (∀ x ∈ xs, ∀ s, P s → ∃ s', f x s = .ok (.nx s') ∧ P s') → ∃ s', forL xs s f = .ok (.inl s') ∧ P s'
  | [], s, h, _ => ⟨s, rfl, h⟩
  | x :: xs, s, h, k => by
    obtain ⟨s1, e1, h1⟩ := k x (List.mem_cons_self ..) s h
    obtain ⟨s2, e2, h2⟩ := forL_inv (xs := xs) h1 fun y hy => k y (List.mem_cons_of_mem _ hy)
    exact ⟨s2, by rw [forL_cons, e1]; exact e2, h2⟩
theorem forN_inv {ε α σ : Type} {f : α → σ → R ε σ} {P : σ → Prop} : ∀ {xs : List α} {s : σ}, P s → (∀ x ∈ xs, ∀ s, P s → ∃ s', f x s = .ok s' ∧ P s') → ∃ s', forN xs s f = .ok s' ∧ P s'
  | [], s, h, _ => ⟨s, rfl, h⟩
  | x :: xs, s, h, k => by
    obtain ⟨s1, e1, h1⟩ := k x (List.mem_cons_self ..) s h
    obtain ⟨s2, e2, h2⟩ := forN_inv (xs := xs) h1 fun y hy => k y (List.mem_cons_of_mem _ hy)
    exact ⟨s2, by rw [forN_cons, e1]; exact e2, h2⟩
/-- an invariant that counts -/
theorem forN_ix {ε α σ : Type} {f : α → σ → R ε σ} {P : Nat → σ → Prop} : ∀ {xs : List α} {s : σ} {i : Nat}, P i s → (∀ j x, xs[j]? = some x → ∀ s, P (i + j) s → ∃ s', f x s = .ok s' ∧ P (i + j + 1) s') → ∃ s', forN xs s f = .ok s' ∧ P (i + xs.length) s'
  | [], s, i, h, _ => ⟨s, rfl, h⟩
  | x :: xs, s, i, h, k => by
    obtain ⟨s1, e1, h1⟩ := k 0 x rfl s h
    obtain ⟨s2, e2, h2⟩ := forN_ix (xs := xs) (i := i + 1) h1 fun j y hy s hs => by
      obtain ⟨s', a, b⟩ := k (j + 1) y hy s (by rw [show i + (j + 1) = i + 1 + j by omega]; exact hs)
      exact ⟨s', a, by rw [show i + 1 + j + 1 = i + (j + 1) + 1 by omega]; exact b⟩
    exact ⟨s2, by rw [forN_cons, e1]; exact e2, by rw [List.length_cons, show i + (xs.length + 1) = i + 1 + xs.length by omega]; exact h2⟩
theorem forL_ix {ε α σ ρ : Type} {f : α → σ → R ε (Out σ σ ρ)} {P : Nat → σ → Prop} : ∀ {xs : List α} {s : σ} {i : Nat}, P i s → (∀ j x, xs[j]? = some x → ∀ s, P (i + j) s → ∃ s', f x s = .ok (.nx s') ∧ P (i + j + 1) s') → ∃ s', forL xs s f = .ok (.inl s') ∧ P (i + xs.length) s'
  | [], s, i, h, _ => ⟨s, rfl, h⟩
  | x :: xs, s, i, h, k => by
    obtain ⟨s1, e1, h1⟩ := k 0 x rfl s h
    obtain ⟨s2, e2, h2⟩ := forL_ix (xs := xs) (i := i + 1) h1 fun j y hy s hs => by
      obtain ⟨s', a, b⟩ := k (j + 1) y hy s (by rw [show i + (j + 1) = i + 1 + j by omega]; exact hs)
      exact ⟨s', a, by rw [show i + 1 + j + 1 = i + (j + 1) + 1 by omega]; exact b⟩
    exact ⟨s2, by rw [forL_cons, e1]; exact e2, by rw [List.length_cons, show i + (xs.length + 1) = i + 1 + xs.length by omega]; exact h2⟩
theorem thenS_inv {ε α σ ρ γ : Type} {f : α → σ → R ε (Out σ σ ρ)} {P : σ → Prop} {xs : List α} {s : σ} {k : σ → R ε γ} {h : ρ → γ} {r : R ε γ} (h0 : P s) (hs : ∀ x ∈ xs, ∀ s, P s → ∃ s', f x s = .ok (.nx s') ∧ P s') (hk : ∀ s, P s → k s = r) : thenS (forL xs s f) k h = r := by
  obtain ⟨s', e, hs'⟩ := forL_inv h0 hs
  rw [e]; exact hk s' hs'
theorem thenS_ix {ε α σ ρ γ : Type} {f : α → σ → R ε (Out σ σ ρ)} {P : Nat → σ → Prop} {xs : List α} {s : σ} {k : σ → R ε γ} {h : ρ → γ} {r : R ε γ} (h0 : P 0 s) (hs : ∀ j x, xs[j]? = some x → ∀ s, P j s → ∃ s', f x s = .ok (.nx s') ∧ P (j + 1) s') (hk : ∀ s, P xs.length s → k s = r) : thenS (forL xs s f) k h = r := by
  obtain ⟨s', e, hs'⟩ := forL_ix (i := 0) h0 (fun j x hx s hp => by simpa using hs j x hx s (by simpa using hp))
  rw [e]; exact hk s' (by simpa using hs')
theorem bindN_inv {ε α σ γ : Type} {f : α → σ → R ε σ} {P : σ → Prop} {xs : List α} {s : σ} {k : σ → R ε γ} {r : R ε γ} (h0 : P s) (hs : ∀ x ∈ xs, ∀ s, P s → ∃ s', f x s = .ok s' ∧ P s') (hk : ∀ s, P s → k s = r) : (forN xs s f).bind k = r := by
  obtain ⟨s', e, hs'⟩ := forN_inv h0 hs
  rw [e]; exact hk s' hs'
theorem bindN_ix {ε α σ γ : Type} {f : α → σ → R ε σ} {P : Nat → σ → Prop} {xs : List α} {s : σ} {k : σ → R ε γ} {r : R ε γ} (h0 : P 0 s) (hs : ∀ j x, xs[j]? = some x → ∀ s, P j s → ∃ s', f x s = .ok s' ∧ P (j + 1) s') (hk : ∀ s, P xs.length s → k s = r) : (forN xs s f).bind k = r := by
  obtain ⟨s', e, hs'⟩ := forN_ix (i := 0) h0 (fun j x hx s hp => by simpa using hs j x hx s (by simpa using hp))
  rw [e]; exact hk s' (by simpa using hs')
/-- the cell of a script: k, or 0 behind the end -/
theorem cell_ok {ε : Type} (ns : List Int) (k : Nat) : (if (decide ((k : Int) < (ns.length : Int))) = true then (R.of (atI ns (k : Int)) : R ε Int) else R.ok 0) = R.ok (ns.getD k 0) := by
  by_cases h : k < ns.length
  · have h2 : (k : Int) < (ns.length : Int) := by omega
    rw [decide_eq_true h2, if_pos rfl]
    have e : ns[k]? = some (ns.getD k 0) := by
      rw [List.getElem?_eq_getElem h, List.getD_eq_getElem?_getD, List.getElem?_eq_getElem h]; rfl
    rw [atI_nat e]
    rfl
  · have h2 : ¬ (k : Int) < (ns.length : Int) := by omega
    rw [decide_eq_false h2, if_neg (by simp)]
    have e : ns.getD k 0 = 0 := by
      rw [List.getD_eq_getElem?_getD, List.getElem?_eq_none (by omega)]; rfl
    rw [e]
theorem mapR_ok {ε α β : Type} {f : α → R ε β} {g : α → β} : ∀ {xs : List α}, (∀ x ∈ xs, f x = .ok (g x)) → mapR xs f = .ok (xs.map g)
  | [], _ => rfl
  | x :: xs, h => by rw [mapR_cons, h x (List.mem_cons_self ..), mapR_ok (xs := xs) fun y hy => h y (List.mem_cons_of_mem _ hy)]; rfl
theorem gR_ok {ε α : Type} {p : Prop} [Decidable p] {k : R ε α} (h : p) : gR p k = k := if_pos h
end NL

set_option Elab.async false
set_option linter.all false
set_option maxRecDepth 100000
set_option maxHeartbeats 4000000
/-! NL: defaults and keywords -/
namespace NL
open PySem PySem.Spec PyProof.Rows L2 ML
/-- where a parameter's value comes from: the written ones, the defaults, the lacking keyword-only ones, the keywords -/
inductive Sl where
  | u (i : Nat) | d (i : Nat) | m (i : Nat) | w (i : Nat)
def pick {α : Type} (us ds mz ws : List α) (sel : List Sl) : List α := sel.filterMap fun s => match s with
  | .u i => us[i]?
  | .d i => ds[i]?
  | .m i => mz[i]?
  | .w i => ws[i]?
theorem vals_get {vs : List V} {us : List Value} (h : Vals vs us) : ∀ i : Nat, (vs[i]? = none ∧ us[i]? = none) ∨ ∃ v u, vs[i]? = some v ∧ us[i]? = some u ∧ RelV v u := by
  induction h with
  | nil => exact fun i => .inl ⟨rfl, rfl⟩
  | cons r _ ih =>
    intro i
    cases i with
    | zero => exact .inr ⟨_, _, rfl, rfl, r⟩
    | succ i => exact ih i
theorem pick_rel {vs ds mz zs : List V} {us its mv ws : List Value} (r1 : Vals vs us) (r2 : Vals ds its) (r3 : Vals mz mv) (r4 : Vals zs ws) : ∀ sel, Vals (pick vs ds mz zs sel) (pick us its mv ws sel) := by
  intro sel
  unfold pick
  induction sel with
  | nil => exact .nil
  | cons s sel ih =>
    rw [List.filterMap_cons, List.filterMap_cons]
    cases s with
    | u i => rcases vals_get r1 i with ⟨e1, e2⟩ | ⟨v, u, e1, e2, r⟩ <;> simp only [e1, e2] <;> first | exact ih | exact .cons r ih
    | d i => rcases vals_get r2 i with ⟨e1, e2⟩ | ⟨v, u, e1, e2, r⟩ <;> simp only [e1, e2] <;> first | exact ih | exact .cons r ih
    | m i => rcases vals_get r3 i with ⟨e1, e2⟩ | ⟨v, u, e1, e2, r⟩ <;> simp only [e1, e2] <;> first | exact ih | exact .cons r ih
    | w i => rcases vals_get r4 i with ⟨e1, e2⟩ | ⟨v, u, e1, e2, r⟩ <;> simp only [e1, e2] <;> first | exact ih | exact .cons r ih
section
variable {P : Program} {w : World} {K : PySem.W.Frag} {mg : Str → Option Value} {base : Heap} {x qual : Str} {params : Arguments} {body : List Stmt} {scope : Scope} {dvs : List V} {kws : List (Str × V)} {f : Addr} {fd : FuncData} {ps : List Str} {sp : Sp} {k : Nat}
/-- keywords, no positional defaults -/
theorem calN_K (F : FunD K x qual params body scope [] kws f fd) (ok : FnOk P w K mg base (L2.CX P w) k f fd ps sp) (n : Nat) (ks : List Str) (ms : List (Str × V)) (sel : List Sl) (hk : kws ≠ []) (hms : ∀ q ∈ ms, q ∈ kws)
    (h : ∀ (D : Addr) (doc pm : Value) (an : Option Addr) (cdv ct : Value) (us mv ws : List Value), us.length = n → mv.length = ms.length → ws.length = ks.length →
      KwChain D ((ms.map (·.1)).zip mv) (bindArgs (PySem.W.fnOf x qual params body scope .none (.ref D) doc pm an cdv ct) ⟨us, ks.zip ws⟩) (ps.zip (pick us [] mv ws sel))) : CalN P w K mg base k f ps sp n ks (fun vs zs => pick vs [] (ms.map (·.2)) zs sel) := by
  obtain ⟨oc, od, dV, kV, doc, pm, an, cdv, ct, osl, rfl, lk, hcd, hD, hK⟩ := F.ex
  rcases hD with ⟨_, rfl⟩ | ⟨e, _⟩
  · rcases hK with e | ⟨D, rfl, hq⟩
    · exact absurd e hk
    · obtain ⟨mv, hl, rk, hks⟩ := kwd_vals (ms := ms) fun q hm => hq q (hms q hm)
      refine ⟨_, fun us ws => pick us [] mv ws sel, ⟨fun s us ws X l1 l2 => ?_, fun r1 r2 => pick_rel r1 .nil rk r2 sel⟩, ok⟩
      exact BindsTo.of_looks fun M => KwChain.looks X hks (h D doc pm an cdv ct us mv ws l1 hl l2)
  · exact absurd rfl e
/-- keywords, positional defaults too -/
theorem calN_DK (F : FunD K x qual params body scope dvs kws f fd) (ok : FnOk P w K mg base (L2.CX P w) k f fd ps sp) (n : Nat) (ks : List Str) (ms : List (Str × V)) (sel : List Sl) (hd : dvs ≠ []) (hk : kws ≠ []) (hms : ∀ q ∈ ms, q ∈ kws)
    (h : ∀ (T D : Addr) (doc pm : Value) (an : Option Addr) (cdv ct : Value) (us its mv ws : List Value), us.length = n → its.length = dvs.length → mv.length = ms.length → ws.length = ks.length →
      ∃ k, bindArgs (PySem.W.fnOf x qual params body scope (.ref T) (.ref D) doc pm an cdv ct) ⟨us, ks.zip ws⟩ = seqItems? (.ref T) >>= k ∧ KwChain D ((ms.map (·.1)).zip mv) (k (some its.toArray)) (ps.zip (pick us its mv ws sel))) : CalN P w K mg base k f ps sp n ks (fun vs zs => pick vs dvs (ms.map (·.2)) zs sel) := by
  obtain ⟨its, mv, b⟩ := F.kbinds n ks ms (fun us its mv ws => pick us its mv ws sel) hd hk hms (fun r1 r2 r3 r4 => pick_rel r1 r2 r3 r4 sel) h
  exact ⟨fd, _, b, ok⟩
/-- keywords, positional defaults alone -/
theorem calN_D (F : FunD K x qual params body scope dvs kws f fd) (ok : FnOk P w K mg base (L2.CX P w) k f fd ps sp) (n : Nat) (ks : List Str) (sel : List Sl) (hd : dvs ≠ [])
    (h : ∀ (T : Addr) (kV doc pm : Value) (an : Option Addr) (cdv ct : Value) (us its ws : List Value), us.length = n → its.length = dvs.length → ws.length = ks.length →
      ∃ k, bindArgs (PySem.W.fnOf x qual params body scope (.ref T) kV doc pm an cdv ct) ⟨us, ks.zip ws⟩ = seqItems? (.ref T) >>= k ∧ k (some its.toArray) = pure (ps.zip (pick us its [] ws sel))) : CalN P w K mg base k f ps sp n ks (fun vs zs => pick vs dvs [] zs sel) := by
  obtain ⟨oc, od, dV, kV, doc, pm, an, cdv, ct, osl, rfl, lk, hcd, hD, hK⟩ := F.ex
  rcases hD with ⟨e, _⟩ | ⟨_, T, o, its, m, rfl, lT, oT, rT⟩
  · exact absurd e hd
  · refine ⟨_, fun us ws => pick us its [] ws sel, ⟨fun s us ws X l1 l2 => ?_, fun r1 r2 => pick_rel r1 rT .nil r2 sel⟩, ok⟩
    obtain ⟨k, e1, e2⟩ := h T kV doc pm an cdv ct us its ws l1 rT.length.symm l2
    refine BindsTo.of_looks fun M => ?_
    rw [e1]
    exact looks_items X lT oT (.of_pure e2)
/-- keywords, no defaults -/
theorem calN_N (F : FunD K x qual params body scope [] kws f fd) (ok : FnOk P w K mg base (L2.CX P w) k f fd ps sp) (n : Nat) (ks : List Str) (sel : List Sl)
    (h : ∀ (kV doc pm : Value) (an : Option Addr) (cdv ct : Value) (us ws : List Value), us.length = n → ws.length = ks.length → bindArgs (PySem.W.fnOf x qual params body scope .none kV doc pm an cdv ct) ⟨us, ks.zip ws⟩ = pure (ps.zip (pick us [] [] ws sel))) : CalN P w K mg base k f ps sp n ks (fun vs zs => pick vs [] [] zs sel) := by
  obtain ⟨oc, od, dV, kV, doc, pm, an, cdv, ct, osl, rfl, lk, hcd, hD, hK⟩ := F.ex
  rcases hD with ⟨_, rfl⟩ | ⟨e, _⟩
  · exact ⟨_, _, ⟨fun s us ws X l1 l2 => .of_eq (h kV doc pm an cdv ct us ws l1 l2), fun r1 r2 => pick_rel r1 .nil .nil r2 sel⟩, ok⟩
  · exact absurd rfl e
/-- no keywords: keyword-only defaults alone -/
theorem calB_0 (F : FunD K x qual params body scope [] kws f fd) (ok : FnOk P w K mg base (L2.CX P w) k f fd ps sp) (n : Nat) (hk : kws ≠ []) (hn : n + kws.length = ps.length)
    (h : ∀ (D : Addr) (doc pm : Value) (an : Option Addr) (cdv ct : Value) (us ks : List Value), us.length = n → ks.length = kws.length →
      KwChain D ((kws.map (·.1)).zip ks) (bindArgs (PySem.W.fnOf x qual params body scope .none (.ref D) doc pm an cdv ct) ⟨us, []⟩) (ps.zip (us ++ ks))) : CalB P w K mg base k f ps sp (kws.map (·.2)) := by
  obtain ⟨ds, r, b⟩ := F.binds0 (ps := ps) n hk hn h
  exact ⟨fd, ds, r, b, ok⟩
end
/-! ### a op b op c op d -/
def tChain3 (r1 r2 r3 : R2) (ta tb tc td : TE) : TE := fun σ H Q => ta σ H fun x H1 => tb σ H1 fun y H2 => r1 x y H2 fun z H3 => ∃ k, z = .bl k ∧
  (if k = true then tc σ H3 fun x2 H4 => r2 y x2 H4 fun z2 H5 => ∃ k2, z2 = .bl k2 ∧ (if k2 = true then td σ H5 fun x3 H6 => r3 x2 x3 H6 Q else Q (.bl false) H5) else Q (.bl false) H3)
section
variable {X : Cx} {a b c d : Expr} {pos : Pos} {ta tb tc td : TE} {op1 op2 op3 : CmpOp} {r1 r2 r3 : R2}
theorem pe_chain3 (h1 : OpR X (compareOp op1) r1) (h2 : OpR X (compareOp op2) r2) (h3 : OpR X (compareOp op3) r3) (ha : PE X a ta) (hb : PE X b tb) (hc : PE X c tc) (hd : PE X d td)
    (hm : lastMarks [op1, op2, op3] [b, c, d] = false := by with_unfolding_all rfl) : PE X (.Compare a [op1, op2, op3] [b, c, d] pos) (tChain3 r1 r2 r3 ta tb tc td) := by
  refine ⟨fun pins s σ H Q I h => ?_⟩
  refine Compare_chain (thn (ha.run pins s σ H _ I h) fun v s1 ⟨x, H1, I1, q1, h1'⟩ => chain_link (thn (hb.run pins s1 σ H1 _ I1 h1') fun u s2 ⟨y, H2, I2, q2, h2'⟩ =>
    thn (h1 pins s2 σ H2 x y v u _ I2 q1 q2 h2') fun e s3 ⟨z, H3, I3, q3, k, ez, h3'⟩ => ?_)) hm
  subst ez
  cases q3
  refine wpAny_truthy_bool ?_
  cases k with
  | false => exact ite_ff ⟨.bl false, H3, I3, rfl, h3'⟩
  | true =>
    refine ite_tt (chain_link (thn (hc.run pins s3 σ H3 _ I3 h3') fun u2 s4 ⟨x2, H4, I4, q4, h4'⟩ => thn (h2 pins s4 σ H4 y x2 u u2 _ I4 q2 q4 h4') fun e2 s5 ⟨z2, H5, I5, q5, k2, ez2, h5'⟩ => ?_))
    subst ez2
    cases q5
    refine wpAny_truthy_bool ?_
    cases k2 with
    | false => exact ite_ff ⟨.bl false, H5, I5, rfl, h5'⟩
    | true => exact ite_tt (chain_last (thn (hd.run pins s5 σ H5 _ I5 h5') fun u3 s6 ⟨x3, H6, I6, q6, h6'⟩ => h3 pins s6 σ H6 x2 x3 u2 u3 Q I6 q4 q6 h6'))
theorem pt_chain3 (h1 : OpR X (compareOp op1) r1) (h2 : OpR X (compareOp op2) r2) (h3 : OpR X (compareOp op3) r3) (ha : PE X a ta) (hb : PE X b tb) (hc : PE X c tc) (hd : PE X d td)
    (hm : lastMarks [op1, op2, op3] [b, c, d] = false := by with_unfolding_all rfl) : PT X (.Compare a [op1, op2, op3] [b, c, d] pos) (tTest (tChain3 r1 r2 r3 ta tb tc td)) := by
  refine ⟨fun pins s σ H Q I h => ?_⟩
  refine isTrue_chain (thn (ha.run pins s σ H _ I h) fun v s1 ⟨x, H1, I1, q1, h1'⟩ => test_link (thn (hb.run pins s1 σ H1 _ I1 h1') fun u s2 ⟨y, H2, I2, q2, h2'⟩ =>
    thn (h1 pins s2 σ H2 x y v u _ I2 q1 q2 h2') fun e s3 ⟨z, H3, I3, q3, k, ez, h3'⟩ => ?_)) hm
  subst ez
  cases q3
  refine wpAny_truthy_bool ?_
  cases k with
  | false =>
    obtain ⟨k', e', q'⟩ := h3'
    cases e'
    exact ite_ff ⟨H3, I3, q'⟩
  | true =>
    refine ite_tt (test_link (thn (hc.run pins s3 σ H3 _ I3 h3') fun u2 s4 ⟨x2, H4, I4, q4, h4'⟩ => thn (h2 pins s4 σ H4 y x2 u u2 _ I4 q2 q4 h4') fun e2 s5 ⟨z2, H5, I5, q5, k2, ez2, h5'⟩ => ?_))
    subst ez2
    cases q5
    refine wpAny_truthy_bool ?_
    cases k2 with
    | false =>
      obtain ⟨k', e', q'⟩ := h5'
      cases e'
      exact ite_ff ⟨H5, I5, q'⟩
    | true =>
      refine ite_tt (test_last (thn (hd.run pins s5 σ H5 _ I5 h5') fun u3 s6 ⟨x3, H6, I6, q6, h6'⟩ => thn (h3 pins s6 σ H6 x2 x3 u2 u3 _ I6 q4 q6 h6') fun d' s7 ⟨z3, H7, I7, q7, k3, e3, h7'⟩ => ?_))
      subst e3
      cases q7
      exact wpAny_truthy_bool ⟨H7, I7, h7'⟩
end
section
variable {ε α β γ δ : Type} {X : Xc ε} {E : Ent} {env : En} {ta tb tc td : TE}
theorem ex_chain3 {r1 r2 r3 : R2} {ma : R ε α} {mb : R ε β} {mc : R ε γ} {md : R ε δ} {m1 : α → β → Bool} {m2 : β → γ → Bool} {m3 : γ → δ → Bool} {T : Ty α} {U : Ty β} {W : Ty γ} {Z : Ty δ} (ha : EV X E env ta ma (val T)) (hb : EV X E env tb mb (val U)) (hc : EV X E env tc mc (val W)) (hd : EV X E env td md (val Z))
    (h1 : ∀ a b, O2 r1 (val T a) (val U b) (some (m1 a b)) (val tBool)) (h2 : ∀ b c, O2 r2 (val U b) (val W c) (some (m2 b c)) (val tBool)) (h3 : ∀ c d, O2 r3 (val W c) (val Z d) (some (m3 c d)) (val tBool)) :
    EV X E env (tChain3 r1 r2 r3 ta tb tc td) (ma.bind fun a => mb.bind fun b => if m1 a b = true then (mc.bind fun c => if m2 b c = true then md.bind fun d => .ok (m3 c d) else .ok false) else .ok false) (val tBool) := by
  intro st vs σ H Q g hm
  rw [wp_bind] at hm
  refine ha st vs σ H _ g (wp_mono hm (fun a hm va H1 g1 => ?_) fun e h => h)
  rw [wp_bind] at hm
  refine hb _ _ σ H1 _ g1 (wp_mono hm (fun b hm vb H2 g2 => ?_) xcl_push)
  obtain ⟨F2, w2, g2⟩ := g2
  have gb : U.rp F2 vb b := g2.top
  have g2' : GG E env (val U b :: val T a :: val U b :: st) σ (vb :: va :: vb :: vs) H2 F2 w2 := g2.re (fun a l e => ⟨l, e⟩) g2.env ⟨g2.st.1, g2.st.2.1, gb, g2.st.2.2⟩
  refine h1 a b E env _ σ _ H2 _ va vb _ ⟨F2, w2, g2'⟩ rfl fun v H3 ⟨F3, w3, g3⟩ => ⟨m1 a b, g3.top, ?_⟩
  cases hk : m1 a b with
  | true =>
    rw [hk, if_pos rfl] at hm
    rw [if_pos rfl]
    rw [wp_bind] at hm
    refine hc _ _ σ H3 _ ⟨F3, w3, g3.pop⟩ (wp_mono hm (fun c hm vc H4 g4 => ?_) xcl_push)
    obtain ⟨F4, w4, g4⟩ := g4
    have gc : W.rp F4 vc c := g4.top
    have g4' : GG E env (val W c :: val U b :: val W c :: st) σ (vc :: vb :: vc :: vs) H4 F4 w4 := g4.re (fun a l e => ⟨l, e⟩) g4.env ⟨g4.st.1, g4.st.2.1, gc, g4.st.2.2⟩
    refine h2 b c E env _ σ _ H4 _ vb vc _ ⟨F4, w4, g4'⟩ rfl fun v5 H5 ⟨F5, w5, g5⟩ => ⟨m2 b c, g5.top, ?_⟩
    cases hk2 : m2 b c with
    | true =>
      rw [hk2, if_pos rfl] at hm
      rw [if_pos rfl]
      rw [wp_bind] at hm
      exact hd _ _ σ H5 _ ⟨F5, w5, g5.pop⟩ (wp_mono hm (fun d hm vd H6 g6 => h3 c d E env st σ vs H6 Q vc vd _ g6 rfl hm) xcl_push)
    | false =>
      rw [hk2, if_neg Bool.false_ne_true] at hm
      rw [if_neg Bool.false_ne_true]
      exact hm _ _ ⟨F5, w5, g5.pop.pop.pushV rfl⟩
  | false =>
    rw [hk, if_neg Bool.false_ne_true] at hm
    rw [if_neg Bool.false_ne_true]
    exact hm _ _ ⟨F3, w3, g3.pop.pop.pushV rfl⟩
end
end NL

set_option Elab.async false
set_option linter.all false
set_option maxRecDepth 100000
set_option maxHeartbeats 4000000
/-! NL: min of some ints; small lemmas -/
namespace NL
open PySem PySem.Spec PyProof.Rows L2 ML
open PySem.Sem (wp)
section
variable {prog : Program} {w : World} {A : Around} {E : Value → Shared → Prop} {s : Shared}
theorem args_min5 (a b c d e : Value) : argsOk "min" ⟨[a, b, c, d, e], []⟩ := by unfold argsOk; kernel_rfl
theorem call_min_five {a b c d e : Value} {Q : Value → Shared → Prop}
    (h : wpAny (model prog w) A.in1 (pyIter (.ref s.heap.objs.size)) (fun it s₂ => ∃ I fp wr n P St bt, it = .ref I ∧ Walks prog w A.in1 I fp wr n P St ∧ St 0 s₂.heap ∧ (∀ b ∈ fp, b < s₂.heap.objs.size) ∧ 0 < n ∧ CmpOf prog w A.in1 .Lt P bt ∧
      ∀ v h' tk, P (argBest bt (n - 1)) v → (∀ b o, b ∉ wr → s₂.heap.get? b = some o → h'.get? b = some o) → Q v { s₂ with heap := h', toks := tk }) E
      { s with heap := s.heap.push { cls := .type "tuple", data := .seq #[a, b, c, d, e] } }) :
    wpAny (model prog w) A (call (.builtin "min") [a, b, c, d, e]) Q E s := by
  have hname : (toString "min" ++ toString ".loop" : String) = "min.loop" := by decide
  refine call_function_tree F.kind_min F.plain_min F.entry_min (args_min5 _ _ _ _ _) ?_
  show wpAny _ A.in1 (Builtin.Builtins.bindParams "min" ["key", "default"] 0 ⟨[], []⟩ >>= _) _ _ s
  refine wpAny_bind (wpAny_of_eq (show Builtin.Builtins.bindParams "min" ["key", "default"] 0 ⟨[], []⟩ = pure [none, none] from rfl) ?_)
  show wpAny _ A.in1 (newTuple [a, b, c, d, e] >>= _) _ _ s
  refine wpAny_bind (wpAny_newObj_type ?_)
  refine wpAny_bind (wpAny_mono h (fun it s₂ h₂ => ?_) fun _ _ e => e)
  obtain ⟨I, fp, wr, n, P, St, bt, rfl, W, hst, hfp, hn, hcmp, hQ⟩ := h₂
  refine wpAny_bind (wpAny_newObj_type ?_)
  have hSf : s₂.heap.objs.size ∉ fp := fun hm => Nat.lt_irrefl _ (hfp _ hm)
  rw [hname]
  refine wpAny_pure ⟨plainId_quiet F.plain_min_loop _, codeAny_min_loop_first W bt hcmp s₂.heap.objs.size hSf hn (W.frame _ _ _ hst fun b _ o e => Heap.get?_push_of_some _ e) (Heap.get?_push_size _ rfl) fun v h' tk hP hk => ?_⟩
  exact hQ v h' tk hP fun b o hbw e => hk b o hbw (Nat.ne_of_lt (Heap.lt_size e)) (Heap.get?_push_of_some _ e)
theorem argBest_min (f : Nat → Int) : ∀ k, argBest (fun i j => decide (f i < f j)) k ≤ k ∧ ∀ j, j ≤ k → f (argBest (fun i j => decide (f i < f j)) k) ≤ f j
  | 0 => ⟨Nat.le_refl _, fun j hj => by obtain rfl := Nat.le_zero.mp hj; exact Int.le_refl _⟩
  | k + 1 => by
    obtain ⟨h1, h2⟩ := argBest_min f k
    unfold argBest
    by_cases c : f (k + 1) < f (argBest (fun i j => decide (f i < f j)) k)
    · simp only [c, decide_true, if_true]
      refine ⟨Nat.le_refl _, fun j hj => ?_⟩
      rcases Nat.lt_or_ge j (k + 1) with h | h
      · exact Int.le_of_lt (Int.lt_of_lt_of_le c (h2 j (by omega)))
      · rw [show j = k + 1 by omega]; exact Int.le_refl _
    · simp only [c, decide_false, Bool.false_eq_true, if_false]
      refine ⟨by omega, fun j hj => ?_⟩
      rcases Nat.lt_or_ge j (k + 1) with h | h
      · exact h2 j (by omega)
      · rw [show j = k + 1 by omega]; exact Int.not_lt.mp c
theorem min_ints_of {xs : Array (Int × Tok)} {us : List Value} {Q : Value → Shared → Prop} (hu : us.toArray = intItems xs) (hne : 0 < xs.size) (hh : A.handled = none)
    (hc : wpAny (model prog w) A.in1 (pyIter (.ref s.heap.objs.size)) (fun it s₂ => ∃ I fp wr n P St bt, it = .ref I ∧ Walks prog w A.in1 I fp wr n P St ∧ St 0 s₂.heap ∧ (∀ b ∈ fp, b < s₂.heap.objs.size) ∧ 0 < n ∧ CmpOf prog w A.in1 .Lt P bt ∧
      ∀ v h' tk, P (argBest bt (n - 1)) v → (∀ b o, b ∉ wr → s₂.heap.get? b = some o → h'.get? b = some o) → Q v { s₂ with heap := h', toks := tk }) E
      { s with heap := s.heap.push { cls := .type "tuple", data := .seq us.toArray } } → wpAny (model prog w) A (call (.builtin "min") us) Q E s)
    (h : ∀ h' tk (m : Int) (t : Tok), (∀ d o, s.heap.get? d = some o → h'.get? d = some o) → m ∈ xs.toList.map (·.1) → (∀ y ∈ xs.toList.map (·.1), m ≤ y) → Q (.int m t) { s with heap := h', toks := tk }) :
    wpAny (model prog w) A (call (.builtin "min") us) Q E s := by
  rw [hu] at hc
  have hT : (s.heap.push { cls := .type "tuple", data := .seq (intItems xs) }).IsTuple s.heap.objs.size (intItems xs) := ⟨_, Heap.get?_push_size _ rfl, rfl, 0, rfl⟩
  refine hc (wpAny_pyIter_tuple hT ?_)
  have hsz : (s.heap.push { cls := .type "tuple", data := .seq (intItems xs) }).objs.size = s.heap.objs.size + 1 := Heap.size_push ..
  refine ⟨_, [_, s.heap.objs.size], [_], _, _, _, _, rfl, Walks.tuple (A := A.in1) hh _ s.heap.objs.size (by rw [hsz]; exact Nat.ne_of_lt (Nat.lt_succ_self _)) (intItems xs),
    ⟨⟨_, Heap.get?_push_size _ rfl, rfl, rfl⟩, hT.push _⟩, fun d hd => ?_, by simpa [intItems] using hne, CmpOf.ints_lt (numAt xs) (fun _ _ => intItems_at), fun v h' tk hP hk => ?_⟩
  · show d < ((s.heap.push _).push _).objs.size
    rw [Heap.size_push, hsz]
    rcases List.mem_cons.mp hd with rfl | hd
    · rw [hsz]; exact Nat.lt_succ_self _
    · rcases List.mem_cons.mp hd with rfl | hd
      · exact Nat.lt_succ_of_lt (Nat.lt_succ_self _)
      · cases hd
  · have hold : ∀ d o, s.heap.get? d = some o → h'.get? d = some o := fun d o e => by
      refine hk d o (fun hm => ?_) (Heap.get?_push_of_some _ (Heap.get?_push_of_some _ e))
      rcases List.mem_cons.mp hm with e1 | hm
      · have := Heap.lt_size e; rw [e1, hsz] at this; exact Nat.lt_irrefl _ (Nat.lt_of_succ_lt this)
      · cases hm
    obtain ⟨h1, h2⟩ := argBest_min (numAt xs) ((intItems xs).size - 1)
    have hs : (intItems xs).size = xs.size := by simp [intItems]
    rw [hs] at h1 h2 hP
    have hP' : (intItems xs)[argBest (fun i j => decide (numAt xs i < numAt xs j)) (xs.size - 1)]? = some v := hP
    generalize argBest (fun i j => decide (numAt xs i < numAt xs j)) (xs.size - 1) = i at h1 h2 hP'
    have hi : i < xs.size := by omega
    have e1 : v = .int (xs[i]).1 (xs[i]).2 := by
      have : (intItems xs)[i]? = some (.int (xs[i]).1 (xs[i]).2) := by simp [intItems, hi]
      rw [this] at hP'
      exact (Option.some.inj hP').symm
    have en : ∀ j (hj : j < xs.size), numAt xs j = (xs[j]).1 := fun j hj => by simp [numAt, Array.getD_eq_getD_getElem?, hj]
    rw [e1]
    refine h h' tk _ _ hold (List.mem_map.mpr ⟨xs[i], by simp, rfl⟩) fun y hy => ?_
    obtain ⟨p, hp, rfl⟩ := List.mem_map.mp hy
    obtain ⟨j, hj, rfl⟩ := List.mem_iff_getElem.mp hp
    have hj' : j < xs.size := by simpa using hj
    have := h2 j (by omega)
    rw [en i hi, en j hj'] at this
    simpa using this
end
section
variable {X : Cx}
def rMinA (n : Nat) : List V → Hp → VK → Prop := fun vs H Q => ∃ ns : List Int, vs = ns.map V.int ∧ ns.length = n ∧ ∀ m, m ∈ ns → (∀ y, y ∈ ns → m ≤ y) → Q (.int m) H
theorem ints_of {ns : List Int} {us : List Value} (h : Vals (ns.map V.int) us) : ∃ xs : List (Int × Tok), us = xs.map (fun p => Value.int p.1 p.2) ∧ xs.map (·.1) = ns := by
  induction ns generalizing us with
  | nil => cases h; exact ⟨[], rfl, rfl⟩
  | cons n ns ih =>
    cases h with
    | cons r t =>
      obtain ⟨tk, rfl⟩ := r
      obtain ⟨xs, rfl, e⟩ := ih t
      exact ⟨(n, tk) :: xs, rfl, by simp [e]⟩
theorem call_min5 (hc : X.calm = true) : CallR X (.builtin "min") (rMinA 5) := by
  intro pins s σ H xs us Q I r h
  obtain ⟨ns, rfl, hl, q⟩ := h
  obtain ⟨ys, rfl, e⟩ := ints_of r
  subst e
  match ys, hl with
  | [a, b, c, d, f], hl =>
    exact min_ints_of (xs := #[a, b, c, d, f]) (by simp [intItems]) (Nat.succ_pos _) (I.ok.hd hc) (fun h => call_min_five h) fun h' tk m t hk h1 h2 => ⟨.int m, H, I.kept hk, ⟨_, rfl⟩, q m (by simpa using h1) (by simpa using h2)⟩
theorem call_min3 (hc : X.calm = true) : CallR X (.builtin "min") (rMinA 3) := by
  intro pins s σ H xs us Q I r h
  obtain ⟨ns, rfl, hl, q⟩ := h
  obtain ⟨ys, rfl, e⟩ := ints_of r
  subst e
  match ys, hl with
  | [a, b, c], hl =>
    exact min_ints_of (xs := #[a, b, c]) (by simp [intItems]) (Nat.succ_pos _) (I.ok.hd hc) (fun h => call_min_three h) fun h' tk m t hk h1 h2 => ⟨.int m, H, I.kept hk, ⟨_, rfl⟩, q m (by simpa using h1) (by simpa using h2)⟩
end
/-- the least of a row -/
def minA : List Int → Int
  | [] => 0
  | [a] => a
  | a :: l => min a (minA l)
theorem minA_mem : ∀ {ns : List Int}, ns ≠ [] → minA ns ∈ ns
  | [], h => absurd rfl h
  | [a], _ => by simp [minA]
  | a :: b :: l, _ => by
    have := minA_mem (ns := b :: l) (by simp)
    unfold minA
    rcases Int.le_total a (minA (b :: l)) with h | h
    · rw [Int.min_eq_left h]; simp
    · rw [Int.min_eq_right h]; exact List.mem_cons_of_mem _ this
theorem minA_le : ∀ {ns : List Int}, ∀ y ∈ ns, minA ns ≤ y
  | [a], y, h => by simp at h; subst h; simp [minA]
  | a :: b :: l, y, h => by
    unfold minA
    rcases List.mem_cons.mp h with rfl | h
    · exact Int.min_le_left _ _
    · exact Int.le_trans (Int.min_le_right _ _) (minA_le (ns := b :: l) y h)
section
variable {ε α β γ δ : Type} {X : Xc ε} {E : Ent} {env : En} {te ta tb : TE}
theorem ex_minA {n : Nat} (hn : n ≠ 0) {t : TA} {m : R ε δ} {S : δ → SP} {e' : δ → En} (h : AX X E env t [] m fun m' Ss e => ∃ c l, m' = .ok c ∧ Ss = (l.map (val tInt)).reverse ∧ l.length = n ∧ S c = val tInt (minA l) ∧ e = e' c) : EX X E env (tCB (rMinA n) t) m S e' := by
  intro st vs σ H Q g hm
  refine h st vs [] σ H _ _ g rfl hm fun us H' Ss e m' hh hl gg hq => ?_
  obtain ⟨c, l, rfl, hs, hc, hS, he⟩ := hh
  obtain ⟨F, w, g'⟩ := gg
  subst hs he
  rw [← List.map_reverse] at g'
  have hlen : us.length = l.length := by simpa using hl.symm
  obtain ⟨p, q⟩ := vals_of (xs := l.reverse) (us := us.reverse) (by simpa using g'.st) (by simp [hlen])
  have p2 : Paired (tInt.rp F) us l := by simpa using Paired.rev p
  have eu : us = l.map V.int := by
    clear hm hq g' hlen q p hl hS hc
    induction p2 with
    | nil => rfl
    | cons h _ ih => rw [show _ = V.int _ from h, ih]; rfl
  have g0 : GG E (e' c) st σ vs H' F w := g'.re (fun a l e => ⟨l, e⟩) g'.env q
  refine ⟨l, eu, hc, fun m hm1 hm2 => ?_⟩
  have : m = minA l := by
    have h0 : l ≠ [] := fun e => by rw [e] at hm1; cases hm1
    exact Int.le_antisymm (hm2 _ (minA_mem h0)) (minA_le m hm1)
  subst this
  refine hq _ _ ⟨F, w, ?_⟩
  rw [hS]
  exact g0.pushV rfl
theorem ex_opEl {r : R2} {a : α} {mb : R ε β} {mc : β → Option γ} {Sa : α → SP} {Sb : β → SP} {Sc : β → γ → SP} {e1 : β → En} {S : δ → SP} {e' : δ → En} (out : β → γ → δ) (ha : EV X E env ta (.ok a) Sa) (hb : EX X E env tb mb Sb e1) (hr : ∀ b, O2 r (Sa a) (Sb b) (mc b) (Sc b)) (hS : ∀ b c, S (out b c) = Sc b c := by intros; rfl) (he : ∀ b c, e' (out b c) = e1 b := by intros; rfl) : EX X E env (tOp r ta tb) (mb.bind fun b => (R.of (mc b)).bind fun c => .ok (out b c)) S e' := by
  intro st vs σ H Q g hm
  rw [wp_bind] at hm
  refine ha st vs σ H _ g fun v H1 g1 => ?_
  refine hb _ _ σ H1 _ g1 (wp_mono hm (fun b hm v2 H2 g2 => ?_) fun e h => xcl_push e h)
  rw [wp_bind] at hm
  obtain ⟨c, ec, hq⟩ := wp_of hm
  refine hr b E _ st σ vs H2 _ v v2 c g2 ec fun z H3 g3 => hq z H3 ?_
  rw [he, hS]
  exact g3
theorem ax_consq {tr : TA} {acc : List SP} {a : α} {m : R ε δ} {S : α → SP} {Pc : R ε δ → List SP → En → Prop} (h1 : EV X E env te (.ok a) S) (h2 : AX X E env tr (S a :: acc) m Pc) : AX X E env (tCons te tr) acc m Pc := ax_cons (m1 := .ok a) (m2 := fun _ => m) (S := fun _ => S a) (e1 := fun _ => env) h1 fun _ => h2
theorem o1_listU {K : PySem.W.Frag} {T : Ty α} {xs : List α} : O1 (fun v H Q => ∃ p ys, [v] = [V.ref p] ∧ (SqL K H p ys ∨ SqT K H p ys) ∧ ∀ l, H l = none → Q (.ref l) (upd H l (.lst ys))) (val (tU T) xs) (some xs) (own T) := by
  intro E env st σ vs H Q va c ⟨F, w, g⟩ hm hq
  cases hm
  obtain ⟨a, us, e, h, p⟩ := g.top
  exact ⟨a, us, by rw [e], .inr (.of (g.ext.s _ _ h)), fun l hl => hq _ _ ⟨F, _, g.pop.pushO hl ⟨l, us, rfl, trivial, fun b => Iff.rfl, upd_same, p⟩⟩⟩
theorem sqt_same {K : PySem.W.Frag} {H H' : Hp} {a : Addr} {xs : List V} (h : SqT K H a xs) (e : ∀ b o, H b = some o → H' b = some o) : SqT K H' a xs := by
  rcases h with h | h
  · rcases h with h | ⟨o, h⟩
    · exact .inl (.inl (e _ _ h))
    · exact .inl (.inr ⟨o, e _ _ h⟩)
  · exact .inr h
/-- a tuple that may stand in the written part (a default) -/
def tSU {α : Type} (K : PySem.W.Frag) (T : Ty α) : Ty (List α) := ⟨fun F v xs => ∃ a vs, v = .ref a ∧ SqT K F a vs ∧ Paired (T.rp F) vs xs, fun s ⟨a, vs, e, h, p⟩ => ⟨a, vs, e, sqt_same h s, Paired.mono p fun _ _ => T.mono s⟩⟩
theorem su_of {K : PySem.W.Frag} {T : Ty α} : ∀ (x : List α) (F H : Hp) (o : Addr → Prop) (v : V), (val (tU T) x).ok F H o v → (val (tSU K T) x).ok F H o v := fun x F H o v h => by
  obtain ⟨a, vs, e, h, p⟩ := h
  exact ⟨a, vs, e, .of h, p⟩
theorem o1_listSU {K : PySem.W.Frag} {T : Ty α} {xs : List α} : O1 (fun v H Q => ∃ p ys, [v] = [V.ref p] ∧ (SqL K H p ys ∨ SqT K H p ys) ∧ ∀ l, H l = none → Q (.ref l) (upd H l (.lst ys))) (val (tSU K T) xs) (some xs) (own T) := by
  intro E env st σ vs H Q va c ⟨F, w, g⟩ hm hq
  cases hm
  obtain ⟨a, us, e, h, p⟩ := g.top
  exact ⟨a, us, by rw [e], .inr (sqt_same h g.ext.s), fun l hl => hq _ _ ⟨F, _, g.pop.pushO hl ⟨l, us, rfl, trivial, fun b => Iff.rfl, upd_same, p⟩⟩⟩
theorem ms_nil {β : Type} {kws : List β} : ∀ q ∈ ([] : List β), q ∈ kws := fun _ h => no_mem h
theorem ms_cons {β : Type} {kws ms : List β} {q : β} (i : Nat) (h : kws[i]? = some q) (t : ∀ q ∈ ms, q ∈ kws) : ∀ r ∈ q :: ms, r ∈ kws := fun r hr => by
  rcases List.mem_cons.mp hr with rfl | hr
  · exact List.mem_of_getElem? h
  · exact t r hr
theorem nn_bool : ∀ (F : Hp) (y : Bool), ¬ tBool.rp F .non y := fun _ _ h => by cases h
theorem nn_U {T : Ty α} : ∀ (F : Hp) (y : List α), ¬ (tU T).rp F .non y := fun _ _ ⟨_, _, h, _⟩ => by cases h
theorem nn_T {view : α → List VP} : ∀ (F : Hp) (y : α), ¬ (tT view).rp F .non y := fun _ _ ⟨_, _, h, _⟩ => by cases h
theorem nn_I {C : Addr} {view : α → List (Str × VP)} : ∀ (F : Hp) (y : α), ¬ (tI C view).rp F .non y := fun _ _ ⟨_, _, _, h, _⟩ => by cases h
theorem o2_isNv {T : Ty α} {x : α} (hn : ∀ F y, ¬ T.rp F .non y) : O2 (fun x y H Q => y = .non ∧ Q (.bl (decide (x = .non))) H) (val T x) (val tNon ()) (some false) (val tBool) := o2_mk fun c hm F H Q va vb s ha hb hq => by
  cases hm
  have : va ≠ .non := fun e => hn F x (e ▸ ha)
  exact ⟨hb, hq _ (by show V.bl _ = V.bl _; simp [this])⟩
theorem o2_notNv {T : Ty α} {x : α} (hn : ∀ F y, ¬ T.rp F .non y) : O2 (fun x y H Q => y = .non ∧ Q (.bl (!decide (x = .non))) H) (val T x) (val tNon ()) (some true) (val tBool) := o2_mk fun c hm F H Q va vb s ha hb hq => by
  cases hm
  have : va ≠ .non := fun e => hn F x (e ▸ ha)
  exact ⟨hb, hq _ (by show V.bl _ = V.bl _; simp [this])⟩
theorem o2_isNN : O2 (fun x y H Q => y = .non ∧ Q (.bl (decide (x = .non))) H) (val tNon ()) (val tNon ()) (some true) (val tBool) := o2_mk fun c hm F H Q va vb s ha hb hq => by
  cases hm
  have e : va = .non := ha
  exact ⟨hb, hq _ (by show V.bl _ = V.bl _; simp [e])⟩
theorem o2_notNN : O2 (fun x y H Q => y = .non ∧ Q (.bl (!decide (x = .non))) H) (val tNon ()) (val tNon ()) (some false) (val tBool) := o2_mk fun c hm F H Q va vb s ha hb hq => by
  cases hm
  have e : va = .non := ha
  exact ⟨hb, hq _ (by show V.bl _ = V.bl _; simp [e])⟩
theorem ty_non {K : PySem.W.Frag} {x : Unit} : ∀ F v, tNon.rp F v x → TyX K F v (.type "NoneType") := fun F v h => by rw [show v = V.non from h]; exact .base .non
theorem ty_T {K : PySem.W.Frag} {view : α → List VP} {x : α} : ∀ F v, (tT view).rp F v x → TyX K F v (.type "tuple") := fun F v ⟨a, us, e, h, _⟩ => by rw [e]; exact .base (.tup h)
end
end NL

set_option Elab.async false
set_option linter.all false
set_option maxRecDepth 100000
set_option maxHeartbeats 4000000
/-! NL: what a mirror gives (a small logic over R) -/
namespace NL
open PySem PySem.Spec PyProof.Rows L2 ML
def Ok {ε α : Type} (m : R ε α) (Q : α → Prop) : Prop := ∃ a, m = .ok a ∧ Q a
section
variable {ε α β γ σ ρ : Type}
theorem Ok.ok {a : α} {Q : α → Prop} (h : Q a) : Ok (.ok a : R ε α) Q := ⟨a, rfl, h⟩
theorem Ok.bind {m : R ε α} {k : α → R ε β} {Q : β → Prop} (h : Ok m fun a => Ok (k a) Q) : Ok (m.bind k) Q := by
  obtain ⟨a, rfl, b, e, hb⟩ := h
  exact ⟨b, e, hb⟩
theorem Ok.mono {m : R ε α} {P Q : α → Prop} (h : Ok m P) (k : ∀ a, P a → Q a) : Ok m Q := by
  obtain ⟨a, e, ha⟩ := h
  exact ⟨a, e, k a ha⟩
theorem Ok.call {m : R ε α} {P : α → Prop} {k : α → R ε β} {Q : β → Prop} (h : Ok m P) (hk : ∀ a, P a → Ok (k a) Q) : Ok (m.bind k) Q := Ok.bind (h.mono hk)
theorem Ok.ite {b : Bool} {m n : R ε α} {Q : α → Prop} (h1 : b = true → Ok m Q) (h2 : b = false → Ok n Q) : Ok (if b = true then m else n) Q := by
  cases b with
  | true => rw [if_pos rfl]; exact h1 rfl
  | false => rw [if_neg (by simp)]; exact h2 rfl
theorem Ok.dec {p : Prop} [Decidable p] {m n : R ε α} {Q : α → Prop} (h1 : p → Ok m Q) (h2 : ¬ p → Ok n Q) : Ok (if decide p = true then m else n) Q := Ok.ite (fun h => h1 (of_decide_eq_true h)) fun h => h2 (of_decide_eq_false h)
theorem Ok.ndec {p : Prop} [Decidable p] {m n : R ε α} {Q : α → Prop} (h1 : ¬ p → Ok m Q) (h2 : p → Ok n Q) : Ok (if (!decide p) = true then m else n) Q := Ok.ite (fun h => h1 (by simpa using h)) fun h => h2 (by simpa using h)
theorem Ok.not {b : Bool} {m n : R ε α} {Q : α → Prop} (h1 : b = false → Ok m Q) (h2 : b = true → Ok n Q) : Ok (if (!b) = true then m else n) Q := Ok.ite (fun h => h1 (by simpa using h)) fun h => h2 (by simpa using h)
theorem Ok.ofs {a : α} {Q : α → Prop} (h : Q a) : Ok (R.of (some a) : R ε α) Q := ⟨a, rfl, h⟩
theorem Ok.grd {p : Prop} [Decidable p] {a : α} {Q : α → Prop} (hp : p) (h : Q a) : Ok (R.of (grd p (some a)) : R ε α) Q := ⟨a, by rw [grd_pos hp]; rfl, h⟩
theorem Ok.gr {p : Prop} [Decidable p] {m : R ε α} {Q : α → Prop} (hp : p) (h : Ok m Q) : Ok (gR p m) Q := by rw [gR_ok hp]; exact h
theorem Ok.at {xs : List α} {i : Int} {Q : α → Prop} (h0 : 0 ≤ i) (h1 : i < (xs.length : Int)) (h : ∀ x, xs[i.toNat]? = some x → x ∈ xs → Q x) : Ok (R.of (atI xs i) : R ε α) Q := by
  have hi : i.toNat < xs.length := by omega
  have e : xs[i.toNat]? = some xs[i.toNat] := List.getElem?_eq_getElem hi
  have : atI xs ((i.toNat : Nat) : Int) = some xs[i.toNat] := atI_nat e
  rw [show ((i.toNat : Nat) : Int) = i by omega] at this
  exact ⟨_, by rw [this]; rfl, h _ e (List.getElem_mem hi)⟩
theorem Ok.r1 {n : Int} {Q : List Int → Prop} (h0 : 0 ≤ n) (h1 : n ≤ 1000000000) (h : Q (rangeL 0 n.toNat)) : Ok (R.of (range1 n) : R ε (List Int)) Q := ⟨_, by rw [range1_int h0 h1]; rfl, h⟩
theorem Ok.r2 {a b : Int} {Q : List Int → Prop} (h0 : -1000000000 ≤ a) (h1 : a ≤ 1000000000) (h2 : -1000000000 ≤ b) (h3 : b ≤ 1000000000) (h : Q (rangeL a (b - a).toNat)) : Ok (R.of (range2 a b) : R ε (List Int)) Q := ⟨_, by rw [range2_int h0 h1 h2 h3]; rfl, h⟩
theorem Ok.osome {x : Option α} {a : α} {Q : α → Prop} (e : x = some a) (h : Q a) : Ok (R.of x : R ε α) Q := by subst e; exact ⟨a, rfl, h⟩
theorem Ok.eq {m n : R ε α} {Q : α → Prop} (e : m = n) (h : Ok n Q) : Ok m Q := e ▸ h
theorem Ok.forN {f : α → σ → R ε σ} (P : Nat → σ → Prop) {xs : List α} {s : σ} {Q : σ → Prop} (h0 : P 0 s) (hs : ∀ j x s, xs[j]? = some x → P j s → Ok (f x s) (P (j + 1))) (hq : ∀ s, P xs.length s → Q s) : Ok (forN xs s f) Q := by
  obtain ⟨s', e, h⟩ := forN_ix (f := f) (P := P) (xs := xs) (s := s) (i := 0) h0 fun j x hx s hp => by
    obtain ⟨a, e, h⟩ := hs j x s hx (by simpa using hp)
    exact ⟨a, e, by simpa using h⟩
  exact ⟨s', e, hq s' (by simpa using h)⟩
def OutP (P B : σ → Prop) (Rt : ρ → Prop) : Out σ σ ρ → Prop
  | .nx s => P s
  | .ct s => P s
  | .brk s => B s
  | .ret r => Rt r
def SumP (P : σ → Prop) (Rt : ρ → Prop) : Sum σ ρ → Prop
  | .inl s => P s
  | .inr r => Rt r
theorem forL_okx {f : α → σ → R ε (Out σ σ ρ)} {P : Nat → σ → Prop} {B : σ → Prop} {Rt : ρ → Prop} : ∀ {xs : List α} {s : σ} {i : Nat}, P i s → (∀ j x s, xs[j]? = some x → P (i + j) s → Ok (f x s) (OutP (P (i + j + 1)) B Rt)) → Ok (forL xs s f) (SumP (fun s => P (i + xs.length) s ∨ B s) Rt)
  | [], s, i, h, _ => ⟨.inl s, rfl, .inl h⟩
  | x :: xs, s, i, h, k => by
    obtain ⟨o, e1, h1⟩ := k 0 x s rfl h
    have ih : ∀ s1, P (i + 0 + 1) s1 → Ok (forL xs s1 f) (SumP (fun s => P (i + (xs.length + 1)) s ∨ B s) Rt) := fun s1 hp => by
      have := forL_okx (xs := xs) (s := s1) (i := i + 1) hp fun j y s hy hs => by
        have := k (j + 1) y s hy (by rw [show i + (j + 1) = i + 1 + j by omega]; exact hs)
        rwa [show i + (j + 1) + 1 = i + 1 + j + 1 by omega] at this
      rwa [show i + 1 + xs.length = i + (xs.length + 1) by omega] at this
    cases o with
    | nx s1 => obtain ⟨a, e, q⟩ := ih s1 h1; exact ⟨a, by rw [forL_cons, e1]; exact e, q⟩
    | ct s1 => obtain ⟨a, e, q⟩ := ih s1 h1; exact ⟨a, by rw [forL_cons, e1]; exact e, q⟩
    | brk s1 => exact ⟨.inl s1, by rw [forL_cons, e1]; rfl, .inr h1⟩
    | ret r => exact ⟨.inr r, by rw [forL_cons, e1]; rfl, h1⟩
/-- a loop with break, continue, return, then what stands behind it -/
theorem Ok.forL {f : α → σ → R ε (Out σ σ ρ)} (P : Nat → σ → Prop) (B : σ → Prop) {xs : List α} {s : σ} {k : σ → R ε γ} {h : ρ → γ} {Q : γ → Prop} (h0 : P 0 s) (hs : ∀ j x s, xs[j]? = some x → P j s → Ok (f x s) (OutP (P (j + 1)) B fun r => Q (h r)))
    (hk : ∀ s, P xs.length s ∨ B s → Ok (k s) Q) : Ok (thenS (forL xs s f) k h) Q := by
  obtain ⟨o, e, q⟩ := forL_okx (f := f) (P := P) (B := B) (Rt := fun r => Q (h r)) (xs := xs) (s := s) (i := 0) h0 fun j x s hx hp => by
    have := hs j x s hx (by simpa using hp)
    simpa using this
  rw [e]
  cases o with
  | inl s1 => exact hk s1 (by simpa [SumP] using q)
  | inr r => exact ⟨h r, rfl, q⟩
/-- without break -/
theorem Ok.forR {f : α → σ → R ε (Out σ σ ρ)} (P : Nat → σ → Prop) {xs : List α} {s : σ} {k : σ → R ε γ} {h : ρ → γ} {Q : γ → Prop} (h0 : P 0 s) (hs : ∀ j x s, xs[j]? = some x → P j s → Ok (f x s) (OutP (P (j + 1)) (fun _ => False) fun r => Q (h r)))
    (hk : ∀ s, P xs.length s → Ok (k s) Q) : Ok (thenS (NL.forL xs s f) k h) Q := Ok.forL P (fun _ => False) h0 hs fun s hp => hp.elim (hk s) False.elim
theorem Ok.whileN {c : σ → R ε γ} {b : γ → Bool} {f : γ → R ε σ} (P : σ → Prop) (mu : σ → Nat) {Q : γ → Prop} (hc : ∀ s, P s → Ok (c s) fun d => (b d = true → Ok (f d) fun s' => P s' ∧ mu s' < mu s) ∧ (b d = false → Q d)) : ∀ {n : Nat} {s : σ}, P s → mu s < n → Ok (NL.whileN n s c b f) Q
  | 0, s, _, h => absurd h (Nat.not_lt_zero _)
  | n + 1, s, h0, h => by
    unfold NL.whileN
    refine Ok.bind ((hc s h0).mono fun d hd => Ok.ite (fun e => ?_) fun e => Ok.ok (hd.2 e))
    exact Ok.bind ((hd.1 e).mono fun s' hs => Ok.whileN P mu hc hs.1 (by omega))
/-- the fork of a mixed if -/
theorem Ok.thenO {o : R ε (Out α σ ρ)} {k : α → R ε γ} {hb hc : σ → γ} {hr : ρ → γ} {Q : γ → Prop} (h : Ok o fun o => match o with | .nx a => Ok (k a) Q | .brk b => Q (hb b) | .ct b => Q (hc b) | .ret r => Q (hr r)) : Ok (thenO o k hb hc hr) Q := by
  obtain ⟨o, rfl, q⟩ := h
  cases o with
  | nx a => exact q
  | brk b => exact ⟨_, rfl, q⟩
  | ct b => exact ⟨_, rfl, q⟩
  | ret r => exact ⟨_, rfl, q⟩
theorem Ok.mapR {f : α → R ε β} {g : α → β} {xs : List α} {Q : List β → Prop} (h : ∀ x ∈ xs, f x = .ok (g x)) (hq : Q (xs.map g)) : Ok (mapR xs f) Q := ⟨_, mapR_ok h, hq⟩
theorem Ok.mapRP {f : α → R ε β} {P : β → Prop} : ∀ {xs : List α} {Q : List β → Prop}, (∀ x ∈ xs, Ok (f x) P) → (∀ l, l.length = xs.length → (∀ y ∈ l, P y) → Q l) → Ok (NL.mapR xs f) Q
  | [], Q, _, hq => ⟨[], rfl, hq [] rfl fun _ h => no_mem h⟩
  | x :: xs, Q, h, hq => by
    obtain ⟨y, e, hy⟩ := h x (List.mem_cons_self ..)
    rw [mapR_cons, e]
    refine Ok.bind (Ok.ok ?_)
    refine Ok.bind (Ok.mapRP (xs := xs) (fun z hz => h z (List.mem_cons_of_mem _ hz)) fun l hl hP => Ok.ok (hq _ (by simp [hl]) fun z hz => ?_))
    rcases List.mem_cons.mp hz with rfl | hz
    · exact hy
    · exact hP z hz
theorem filR_ok {p : α → R ε Bool} {f : α → R ε β} {q : α → Bool} {g : α → β} : ∀ {xs : List α}, (∀ x ∈ xs, p x = .ok (q x)) → (∀ x ∈ xs, f x = .ok (g x)) → filR xs p f = .ok ((xs.filter q).map g)
  | [], _, _ => rfl
  | x :: xs, h, k => by
    have ih := filR_ok (xs := xs) (fun y hy => h y (List.mem_cons_of_mem _ hy)) fun y hy => k y (List.mem_cons_of_mem _ hy)
    unfold filR
    rw [h x (List.mem_cons_self ..)]
    cases e : q x with
    | true => simp only [R.bind_ok, if_true, k x (List.mem_cons_self ..), ih, List.filter_cons, e, List.map_cons]
    | false => simp [ih, List.filter_cons, e]
theorem Ok.filR {p : α → R ε Bool} {f : α → R ε β} {q : α → Bool} {g : α → β} {xs : List α} {Q : List β → Prop} (h : ∀ x ∈ xs, p x = .ok (q x)) (k : ∀ x ∈ xs, f x = .ok (g x)) (hq : Q ((xs.filter q).map g)) : Ok (filR xs p f) Q := ⟨_, filR_ok h k, hq⟩
theorem Ok.fin {m : R ε Bool} (h : Ok m fun b => b = true) : m = .ok true := by
  obtain ⟨a, e, rfl⟩ := h
  exact e
theorem Ok.get {m : R ε α} {Q : α → Prop} (h : Ok m Q) : ∃ a, m = .ok a ∧ Q a := h
end
theorem ite_max {a b : Int} : (if b > a then b else a) = max a b := by rw [Int.max_def]; split <;> split <;> omega
theorem ite_max' {a b : Int} : (if a < b then b else a) = max a b := by rw [Int.max_def]; split <;> split <;> omega
theorem ite_min {a b : Int} : (if b < a then b else a) = min a b := by rw [Int.min_def]; split <;> split <;> omega
/-! numbers that differ -/
theorem nodup_drop1 (y : Int) : ∀ {l : List Int}, l.Nodup → l.length ≤ (l.filter fun x => !decide (x = y)).length + 1
  | [], _ => Nat.zero_le _
  | x :: l, h => by
    obtain ⟨h1, h2⟩ := List.nodup_cons.mp h
    rw [List.filter_cons]
    by_cases c : x = y
    · subst c
      have e : l.filter (fun z => !decide (z = x)) = l := List.filter_eq_self.mpr fun z hz => by
        have : z ≠ x := fun e => h1 (e ▸ hz)
        simp [this]
      simp [e]
    · have := nodup_drop1 y h2
      simp [c]; omega
theorem nodup_len : ∀ (n : Nat) (a : Int) (l : List Int), l.Nodup → (∀ x ∈ l, a ≤ x ∧ x < a + (n : Int)) → l.length ≤ n
  | 0, a, l, _, h => by
    cases l with
    | nil => exact Nat.le_refl _
    | cons x l => have := h x (List.mem_cons_self ..); omega
  | n + 1, a, l, hn, h => by
    have h1 := nodup_drop1 (a + (n : Int)) hn
    have h2 := nodup_len n a (l.filter fun x => !decide (x = a + (n : Int))) (hn.filter _) fun x hx => by
      obtain ⟨m, hm⟩ := List.mem_filter.mp hx
      have := h x m
      have : x ≠ a + (n : Int) := by simpa using hm
      omega
    omega
theorem nodup_int {l : List Int} {a b : Int} (hn : l.Nodup) (h : ∀ x ∈ l, a ≤ x ∧ x < b) (hab : a ≤ b) : (l.length : Int) ≤ b - a := by
  have := nodup_len (b - a).toNat a l hn fun x hx => by have := h x hx; omega
  omega
/-! lists cut -/
theorem cutL_hi {α : Type} {xs : List α} {n : Int} (h : 0 ≤ n) : cutL xs none (some n) = xs.take n.toNat := by
  obtain ⟨k, rfl⟩ := Int.eq_ofNat_of_zero_le h
  unfold cutL
  rw [HT.sIx_nat, HT.sIx_none, List.drop_zero, Nat.sub_zero, Int.toNat_natCast]
  rcases Nat.le_total k xs.length with c | c
  · rw [Nat.min_eq_left c]
  · rw [Nat.min_eq_right c, List.take_of_length_le (Nat.le_refl _), List.take_of_length_le c]
theorem cutL_lo {α : Type} {xs : List α} {n : Int} (h : 0 ≤ n) : cutL xs (some n) none = xs.drop n.toNat := by
  obtain ⟨k, rfl⟩ := Int.eq_ofNat_of_zero_le h
  unfold cutL
  rw [HT.sIx_nat, HT.sIx_none, Int.toNat_natCast]
  rcases Nat.le_total k xs.length with c | c
  · rw [Nat.min_eq_left c, List.take_of_length_le (by simp)]
  · rw [Nat.min_eq_right c, List.drop_eq_nil_of_le (Nat.le_refl _), List.drop_eq_nil_of_le c, List.take_nil]
theorem cutL_mid {α : Type} {xs : List α} {a b : Int} (h : 0 ≤ a) (h2 : 0 ≤ b) : cutL xs (some a) (some b) = (xs.drop a.toNat).take (b.toNat - a.toNat) := by
  obtain ⟨k, rfl⟩ := Int.eq_ofNat_of_zero_le h
  obtain ⟨l, rfl⟩ := Int.eq_ofNat_of_zero_le h2
  unfold cutL
  rw [HT.sIx_nat, HT.sIx_nat, Int.toNat_natCast, Int.toNat_natCast]
  rcases Nat.le_total k xs.length with c | c
  · rw [Nat.min_eq_left c]
    rcases Nat.le_total l xs.length with d | d
    · rw [Nat.min_eq_left d]
    · rw [Nat.min_eq_right d, List.take_of_length_le (by simp), List.take_of_length_le (by simp; omega)]
  · rw [Nat.min_eq_right c, List.drop_eq_nil_of_le (Nat.le_refl _), List.drop_eq_nil_of_le c, List.take_nil, List.take_nil]
end NL

set_option Elab.async false
set_option linter.all false
set_option maxRecDepth 100000
set_option maxHeartbeats 4000000
/-! NL: an own ==, the != that rests on it, isinstance of own classes -/
namespace NL
open PySem PySem.Spec PyProof.Rows L2 ML
open PySem.Sem (wp)
section
variable {prog : Program} {w : World} {A : Around} {E : Value → Shared → Prop} {s : Shared} {K : PySem.W.Frag} {h₀ : Heap} {L : Addr} {x C f : Addr} {ox : Obj} {od : Option Obj} {b tb : Value} {m : Str → Option Value}
open PySem.W in
theorem ifBound_B {M : Model} {name : Str} {id T : String} {args : List Value} {Q : Option Value → Shared → Prop} (X : K.In s.heap) (I : PySem.W.InstAt s.heap x ox C od) (hs : findIn K (.ref C) name = some (some (.builtin id))) (S : Slot T name id)
    (h : wpAny M A (call (.builtin id) (.ref x :: args)) (fun v => Q (some v)) E s) : wpAny M A (callSpecialIfBound? (.ref x) name args) Q E s := by
  simp only [callSpecialIfBound?, bindSpecialIfBound?]
  refine wpAny_holding (wpAny_bind (wpAny_bind (wpAny_bind (I.type.here ((looks_findIn X hs).here ?_)))))
  simp only [S.bind]
  refine wpAny_bind (wpAny_askSetting (wpAny_ite ?_))
  have fin : wpAny M A (call (.builtin id) ([.ref x] ++ args) >>= fun v => pure (some v)) Q E s := wpAny_bind (wpAny_mono h (fun v s' h' => wpAny_pure h') fun _ _ h' => h')
  split
  · exact wpAny_bind (wpAny_pure (wpAny_pure fin))
  · exact wpAny_tryCatch (wpAny_bind (wpAny_pure (wpAny_pure fin)))
open PySem.W in
theorem check_ne {M : Model} {Q : Unit → Shared → Prop} (X : K.In s.heap) (I : PySem.W.InstAt s.heap x ox C od) (ho : subIn K (.ref C) (.type "object") = some true) (hq : Q () s) : wpAny M A (checkBuiltinCall "object.__ne__" ⟨[.ref x, b], []⟩) Q E s := by
  simp only [checkBuiltinCall, F.cmpKind_ne, F.cmpSplit_ne]
  refine wpAny_bind ?_
  unfold isInstance
  refine wpAny_bind (I.type.here ?_)
  have ha := F.cmpArgs_ne (.ref x) b
  have done : ∀ s1 : Shared, Q () s1 → wpAny M A ((match Manifest.signature? "object.__ne__" with
      | some sig => Bind.checkArgs "object.__ne__" sig ⟨[.ref x, b], []⟩
      | none => pure ())) Q E s1 := fun s1 hq => by
    cases hsig : Manifest.signature? "object.__ne__" with
    | none => exact wpAny_pure hq
    | some sig =>
      simp only [argsOk, hsig] at ha
      have h2 : Bind.checkArgs "object.__ne__" sig ⟨[.ref x, b], []⟩ = pure () := ha
      show wpAny M A (Bind.checkArgs "object.__ne__" sig ⟨[.ref x, b], []⟩) Q E _
      rw [h2]; exact wpAny_pure hq
  refine (looks_subIn X ho).here ?_
  simp only [Bool.not_true, Bool.false_eq_true, if_false]
  exact done _ hq
open PySem.W in
theorem ne_K {Q : Value → Shared → Prop} (hu : A.units + 1 < cLine) (X₀ : K.In h₀) (Fr0 : Fr h₀ L s.heap m) (I : PySem.W.InstAt s.heap x ox C od) (hb : Looks (model prog w) s.heap (typeOf b) tb) (hn : notFirst K C tb = true)
    (hne : findIn K (.ref C) "__ne__" = some (some (.builtin "object.__ne__"))) (ho : subIn K (.ref C) (.type "object") = some true) (hs : findIn K (.ref C) "__eq__" = some (some (.ref f))) (hf : isFn K (.ref f) = true)
    (h : wpAny (model prog w) A.in1 (call (.ref f) [.ref x, b]) (fun v s' => ∃ r, v = .bool r ∧ Q (.bool (!r)) s') E s) : wpAny (model prog w) A (richCompare .NotEq (.ref x) b) Q E s := by
  have X := X₀.keeps Fr0.keep
  have entry : wpAny (model prog w) A.in1 (Builtin.«object.__ne__» ⟨[.ref x, b], []⟩) (fun fin s' => ∃ r, fin = .done (.ret (.bool (!r))) ∧ Q (.bool (!r)) s') E s := by
    have hu1 : A.in1.units < cLine := by show A.units + 1 < cLine; omega
    unfold Builtin.«object.__ne__»
    repeat (first
      | with_reducible refine wpAny_cRoomFor hu1 ?_
      | (refine wpAny_bind (m := callSpecialIfBound? (.ref x) (Str.ofString "__eq__") [b])
          (ifBound_K X I hs hf (wpAny_mono h (fun r s' hr => by
            obtain ⟨b, rfl, hq⟩ := hr
            repeat (first | exact ⟨_, rfl, hq⟩ | exact wpAny_pure ⟨_, rfl, hq⟩ | (refine wpAny_truthy_bool ?_) | (refine wpAny_bind (m := truthy (.bool _)) (wpAny_truthy_bool ?_)) | wp_step)) fun _ _ e => e)))
      | wp_step)
  have one : wpAny (model prog w) A (tryCompare (.ref x) "__ne__" b) (fun r s' => ∃ v, r = some v ∧ Q v s') E s := by
    unfold tryCompare
    refine wpAny_bind (ifBound_B X I hne F.cmp_object.ne (wpAny_call (codeAny_call_builtin F.cmp_object.ne.plain F.cmpEntry_ne (check_ne X I ho (wpAny_mono entry (fun fin s' hr => ?_) fun _ _ e => e)))))
    obtain ⟨r, rfl, hq⟩ := hr
    exact wpAny_pure ⟨_, rfl, hq⟩
  unfold richCompare
  simp only [oneThing_ref]
  refine wpAny_holding (wpAny_bind (wpAny_cRoomFor (by omega) ?_))
  refine wpAny_bind (I.type.here (wpAny_bind (hb.here ?_)))
  split
  · rename_i q
    have e : subIn K tb (.ref C) = some false := by
      rcases Bool.or_eq_true_iff.mp hn with e | e
      · rw [beq_iff_eq.mp e] at q; simp at q
      · exact beq_iff_eq.mp e
    refine wpAny_bind ((looks_subIn X e).here ?_)
    simp only [Bool.false_eq_true, if_false]
    refine wpAny_bind (wpAny_mono one (fun r s' z => ?_) fun _ _ e => e)
    obtain ⟨v, rfl, hq⟩ := z
    exact wpAny_pure hq
  · refine wpAny_bind (wpAny_pure ?_)
    simp only [Bool.false_eq_true, if_false]
    refine wpAny_bind (wpAny_mono one (fun r s' z => ?_) fun _ _ e => e)
    obtain ⟨v, rfl, hq⟩ := z
    exact wpAny_pure hq
end
/-- the two are instances of the class at C -/
def Ins2 (C : Addr) (sp : Sp) : Prop := ∀ vs H Q W, sp vs H Q W → ∃ a b dx dy fs gs, vs = [.ref a, .ref b] ∧ H a = some (.ins C dx fs) ∧ H b = some (.ins C dy gs)
/-- what the facts of the class say: its own ==, the != of object -/
structure EqOf (K : PySem.W.Frag) (C f : Addr) : Prop where
  eq : PySem.W.findIn K (.ref C) "__eq__" = some (some (.ref f))
  fn : PySem.W.isFn K (.ref f) = true
  ne : PySem.W.findIn K (.ref C) "__ne__" = some (some (.builtin "object.__ne__"))
  ob : PySem.W.subIn K (.ref C) (.type "object") = some true
def rEqX (neg : Bool → Bool) (sp : Sp) : R2 := fun x y H Q => sp [x, y] H (fun v H' => ∃ r, v = .bl r ∧ Q (.bl (neg r)) H') fun _ _ _ => False
section
variable {X : Cx} {k : Nat} {C f : Addr} {fd : FuncData} {ps : List Str} {sp : Sp}
theorem own_call (F : FnOk X.prog X.w X.K X.mg X.base (L2.CX X.prog X.w) k f fd ps sp) (hb : Binds X.K fd ps []) {A : Around} (hr : Room k A) (hfr : A.frames = X.A.frames) {pins : List (Addr × Obj)} {s : Shared} {σ : L2.St} {H : Hp} {a b : Addr} (I : L2.Inv X pins σ H s) {Q : VK}
    (hsp : sp [.ref a, .ref b] H Q fun _ _ _ => False) : wpAny (model X.prog X.w) A (call (.ref f) [.ref a, .ref b]) (EP X pins σ Q) X.xe s := by
  have e0 : Env0 X.prog X.w X.K X.mg X.base A X.stack s H := by
    have e := I.env0
    exact ⟨by rw [hfr]; exact e.frames, e.mod, e.bs, e.bsz, e.funs, e.frf, e.hok, e.bare⟩
  have hl := F.len _ _ _ _ hsp
  have r2 : Vals [V.ref a, V.ref b] [Value.ref a, Value.ref b] := .cons rfl (.cons rfl .nil)
  refine wpAny_call (codeAny_mono (F.run A X.stack s H ⟨[.ref a, .ref b], []⟩ [.ref a, .ref b] [.ref a, .ref b] _ (fun _ _ _ => False) hr e0 (by
    have := hb s [.ref a, .ref b] I.kIn (by simpa using hl)
    simpa using this) r2 hsp) fun r s' hq => ?_)
  cases r with
  | error e => exact passAt (W := fun _ _ _ _ => False) takesF σ pins H s e s' I hq
  | ok fl =>
    cases fl with
    | ret w =>
      obtain ⟨z, H', I', rz, ez⟩ := I.after hq
      exact ⟨z, H', I', rz, ez⟩
    | next => exact False.elim hq
    | brk => exact False.elim hq
    | cont => exact False.elim hq
theorem op_eqX {ds : List Value} (F : FnOk X.prog X.w X.K X.mg X.base (L2.CX X.prog X.w) k f fd ps sp) (hr : Room k X.A) (e : EqOf X.K C f) (hi : Ins2 C sp) (hd : Vals [] ds) (hb : Binds X.K fd ps ds) : OpR X (compareOp .Eq) (rEqX id sp) := by
  cases hd
  intro pins s σ H x y v u Q I rx ry hq
  obtain ⟨a, b, dx, dy, fs, gs, e1, ha, hb'⟩ := hi _ _ _ _ hq
  cases e1
  cases rx
  cases ry
  obtain ⟨mA, J, _⟩ := ins_get I.hok ha
  obtain ⟨mB, J', _⟩ := ins_get I.hok hb'
  obtain ⟨od, J, _⟩ := J.look
  obtain ⟨od', J', _⟩ := J'.look
  obtain ⟨m, hF⟩ := I.fr
  show wpAny (model X.prog X.w) X.A (richCompare .Eq (.ref a) (.ref b)) (EP X pins σ Q) X.xe s
  refine PySem.W.cmp_K (op := .Eq) (tb := .ref C) hr.units0 hF I.ok.mod.kin J J'.type (by simp [PySem.W.notFirst]) e.eq e.fn ?_
  refine wpAny_mono (own_call F hb hr rfl I hq) (fun r s' z => ?_) fun _ _ x => x
  obtain ⟨z, H', I', rz, r, rfl, q⟩ := z
  cases rz
  exact ⟨.bl r, H', I', rfl, q⟩
theorem op_neX {ds : List Value} (F : FnOk X.prog X.w X.K X.mg X.base (L2.CX X.prog X.w) k f fd ps sp) (hr : Room (k + 1) X.A) (e : EqOf X.K C f) (hi : Ins2 C sp) (hd : Vals [] ds) (hb : Binds X.K fd ps ds) : OpR X (compareOp .NotEq) (rEqX not sp) := by
  cases hd
  intro pins s σ H x y v u Q I rx ry hq
  obtain ⟨a, b, dx, dy, fs, gs, e1, ha, hb'⟩ := hi _ _ _ _ hq
  cases e1
  cases rx
  cases ry
  obtain ⟨mA, J, _⟩ := ins_get I.hok ha
  obtain ⟨mB, J', _⟩ := ins_get I.hok hb'
  obtain ⟨od, J, _⟩ := J.look
  obtain ⟨od', J', _⟩ := J'.look
  obtain ⟨m, hF⟩ := I.fr
  show wpAny (model X.prog X.w) X.A (richCompare .NotEq (.ref a) (.ref b)) (EP X pins σ Q) X.xe s
  refine ne_K (tb := .ref C) (by have := hr.un; omega) I.ok.mod.kin hF J J'.type (by simp [PySem.W.notFirst]) e.ne e.ob e.eq e.fn ?_
  refine wpAny_mono (own_call F hb hr.in1 rfl I hq) (fun r s' z => ?_) fun _ _ x => x
  obtain ⟨z, H', I', rz, r, rfl, q⟩ := z
  cases rz
  exact ⟨r, rfl, .bl (!r), H', I', rfl, q⟩
end
section
variable {ε α β γ δ : Type} {X : Xc ε} {E : Ent} {env : En} {te ta tb : TE}
theorem ins2_X {ρ : Type} {mg : Str → Option Value} {C : Addr} {view : α → List (Str × VP)} {f : α × α → R ε' ρ} {Rr : α × α → ρ → SP} {Bs : α × α → ρ → List (Option SP)} {ex : ε' → Exn} {Xs : α × α → ε' → List (Option SP)} : Ins2 C (spX mg (fun a : α × α => [val (tI C view) a.1, val (tI C view) a.2]) f Rr Bs ex Xs) := fun vs H Q W h => by
  obtain ⟨a, F, w, p, _⟩ := h
  obtain ⟨v1, e1, a1, d1, w1, q1, h1, _⟩ := p.ok 0 _ rfl
  obtain ⟨v2, e2, a2, d2, w2, q2, h2, _⟩ := p.ok 1 _ rfl
  have hl := p.len
  subst q1 q2
  match vs, hl, e1, e2 with
  | [x, y], _, e1, e2 =>
    cases e1
    cases e2
    exact ⟨a1, a2, d1, d2, w1, w2, rfl, p.s _ _ h1, p.s _ _ h2⟩
theorem ex_eqX {mg : Str → Option Value} {T : Ty α} {f : α × α → R Empty Bool} {ex : Empty → Exn} {Xs : α × α → Empty → List (Option SP)} (neg : Bool → Bool) {ma mb : R ε α} (ha : EV X E env ta ma (val T)) (hb : EV X E env tb mb (val T)) :
    EV X E env (tOp (rEqX neg (spX mg (fun a : α × α => [val T a.1, val T a.2]) f (fun _ r => val tBool r) (fun _ _ => []) ex Xs)) ta tb) (ma.bind fun a => mb.bind fun b => (R.mapE Empty.elim (f (a, b))).bind fun r => .ok (neg r)) (val tBool) := by
  intro st vs σ H Q g hm
  rw [wp_bind] at hm
  refine ha st vs σ H _ g (wp_mono hm (fun a hm v H1 g1 => ?_) fun e h => h)
  rw [wp_bind] at hm
  refine hb _ _ σ H1 _ g1 (wp_mono hm (fun b hm u H2 g2 => ?_) fun e h => xcl_push e h)
  rw [wp_bind, wp_mapE] at hm
  have c : CallOk (Xc.nv Empty) mg (fun a : α × α => [val T a.1, val T a.2]) f (fun _ r => val tBool r) (fun _ _ => []) ex Xs [.arg 0, .arg 1] 2 (fun x => val tBool x) (fun _ => env) (f (a, b)) [val T b, val T a] env :=
    ⟨rfl, (a, b), [], [], id, id, lok00, ⟨.inl ⟨_, rfl, rfl⟩, .inl ⟨_, rfl, rfl⟩, trivial⟩, (fun n hn => nomatch hn), wc_id, (fun _ _ _ _ _ h => h), (fun _ => ⟨Nat.le_refl _, fun i S e => ⟨S, e, fun _ _ _ _ h => h⟩⟩), (fun e => e.elim), fun e => e.elim⟩
  have := c.sp (us := [v, u]) (st := st) (vs := vs) (σ := σ) (H := H2) (E := E) (Q := fun v H' => ∃ r, v = .bl r ∧ Q (.bl (neg r)) H') (Φ := fun r => ∀ v H', G E env (val tBool r :: st) σ (v :: vs) H' → ∃ r, v = .bl r ∧ Q (.bl (neg r)) H') rfl g2 (wp_mono hm (fun r hq v H' ⟨F, w, g'⟩ => ⟨r, g'.top, hq _ _ ⟨F, w, g'.pop.pushV rfl⟩⟩) fun e => e.elim) fun x k => k
  exact this
end
theorem R.mapE_E {α : Type} (m : R Empty α) : R.mapE (fun e : Empty => (Empty.elim e : Empty)) m = m := by
  cases m with
  | er e => exact e.elim
  | _ => rfl
/-! isinstance of an own class -/
structure TyF (K : PySem.W.Frag) (C : Addr) : Prop where
  cl : Cls K C
  ha : PySem.W.findIn K (.ref C) "__class__" = some (some (.builtin "object.__class__"))
  hn : PySem.W.specialIn K (.builtin "object.__class__") "__get__" = some (some (.builtin "getset_descriptor.__get__"))
  ht : PySem.W.takesIn K (.builtin "object.__class__") = some true
  hm : PySem.W.mroIn K C (.type "object") = some true
def tyfB (x : Str) : FaX := fun K => He.Fa.ok K (.cls x) && (He.eqO (PySem.W.findIn K (.ref (He.ga K x)) "__class__") (some (some (.builtin "object.__class__"))) && (He.eqO (PySem.W.specialIn K (.builtin "object.__class__") "__get__") (some (some (.builtin "getset_descriptor.__get__"))) &&
  (decide (PySem.W.takesIn K (.builtin "object.__class__") = some true) && decide (PySem.W.mroIn K (He.ga K x) (.type "object") = some true))))
theorem tyf_ok {K : PySem.W.Frag} {x : Str} (h : tyfB x K = true) : TyF K (He.ga K x) := by
  obtain ⟨h1, h⟩ := He.ba h
  obtain ⟨h2, h⟩ := He.ba h
  obtain ⟨h3, h⟩ := He.ba h
  obtain ⟨h4, h5⟩ := He.ba h
  exact ⟨He.cls_ok (x := x) h1, He.eqO_ok h2, He.eqO_ok h3, of_decide_eq_true h4, of_decide_eq_true h5⟩
def eqfB (x : Str) : FaX := fun K => He.eqO (PySem.W.findIn K (.ref (He.ga K x)) "__eq__") (some (some (.ref (He.ma K (He.ga K x) "__eq__")))) && (PySem.W.isFn K (.ref (He.ma K (He.ga K x) "__eq__")) && (He.eqO (PySem.W.findIn K (.ref (He.ga K x)) "__ne__") (some (some (.builtin "object.__ne__"))) &&
  decide (PySem.W.subIn K (.ref (He.ga K x)) (.type "object") = some true)))
theorem eqf_ok {K : PySem.W.Frag} {x : Str} (h : eqfB x K = true) : EqOf K (He.ga K x) (He.ma K (He.ga K x) "__eq__") := by
  obtain ⟨h1, h⟩ := He.ba h
  obtain ⟨h2, h⟩ := He.ba h
  obtain ⟨h3, h4⟩ := He.ba h
  exact ⟨He.eqO_ok h1, h2, He.eqO_ok h3, of_decide_eq_true h4⟩
/-- kitOne's answer: x a built-in type's name or an own class -/
def kitfB (t : PySem.W.Frag → Value) (c : Str) (b : Bool) : FaX := fun K => decide (PySem.W.kitOne K (t K) (.ref (He.ga K c)) = some b)
theorem kitf_ok {K : PySem.W.Frag} {t : PySem.W.Frag → Value} {c : Str} {b : Bool} (h : kitfB t c b K = true) : PySem.W.kitOne K (t K) (.ref (He.ga K c)) = some b := of_decide_eq_true h
theorem ty_I {α : Type} {K : PySem.W.Frag} {C : Addr} {view : α → List (Str × VP)} {x : α} (t : TyF K C) : ∀ F v, (tI C view).rp F v x → TyX K F v (.ref C) := fun F v ⟨a, dx, ws, e, h, _⟩ => by rw [e]; exact .base (.ins h t.cl t.ha t.hn t.ht t.hm)
/-- a class object as a value -/
def tOC (C : Addr) : Ty Unit := ⟨fun _ v _ => v = .ref C, fun _ h => h⟩
theorem ex_oc {ε : Type} {X : Xc ε} {E : Ent} {env : En} {C : Addr} : EV X E env (tC (.ref C)) (.ok ()) (val (tOC C)) := ex_c fun _ => rfl
theorem o2_isK {α : Type} {K : PySem.W.Frag} {T : Ty α} {x : α} {C : Addr} {t : Value} {b : Bool} (ht : ∀ F v, T.rp F v x → TyX K F v t) (hk : PySem.W.kitOne K t (.ref C) = some b) : O2 (fun v u H Q => rIsi K [v, u] H Q) (val T x) (val (tOC C) ()) (some b) (val tBool) := o2_mk fun c hc F H Q va vb s ha hb hq => by
  cases hc
  refine ⟨va, vb, t, .ref C, b, rfl, ?_, isi_mono s (ht F va ha), hk, hq _ rfl⟩
  rw [show vb = V.ref C from hb]
  exact .own C
end NL

set_option Elab.async false
set_option linter.all false
set_option maxRecDepth 100000
set_option maxHeartbeats 4000000
/-! NL: dicts -/
namespace NL
open PySem PySem.Spec PyProof.Rows L2 ML
open PySem.Sem (wp)
structure KeyT (κ : Type) where
  f : κ → Key
  T : Ty κ
  inj : ∀ a b, f a = f b → a = b
  val : ∀ F v k, T.rp F v k → v = kV (f k)
def kInt : KeyT Int := ⟨.inl, tInt, fun _ _ e => Sum.inl.inj e, fun _ _ _ h => h⟩
def kStr : KeyT Str := ⟨.inr, tStr, fun _ _ e => Sum.inr.inj e, fun _ _ _ h => h⟩
section
variable {κ α : Type} [DecidableEq κ]
def lookX (xs : List (κ × α)) (k : κ) : Option α := (xs.find? fun p => decide (p.1 = k)).map (·.2)
def putX (xs : List (κ × α)) (k : κ) (v : α) : List (κ × α) := if (xs.any fun p => decide (p.1 = k)) = true then xs.map (fun p => if p.1 = k then (p.1, v) else p) else xs ++ [(k, v)]
def dropX (xs : List (κ × α)) (k : κ) : List (κ × α) := xs.filter fun p => decide (p.1 ≠ k)
theorem look_mem {xs : List (κ × α)} {k : κ} {y : α} (h : lookX xs k = some y) : (k, y) ∈ xs := by
  unfold lookX at h
  obtain ⟨p, hp, rfl⟩ := Option.map_eq_some_iff.mp h
  have h1 := List.mem_of_find?_eq_some hp
  have h2 := List.find?_some hp
  have h3 : p.1 = k := by simpa using h2
  rw [← h3]; exact h1
theorem look_none {xs : List (κ × α)} {k : κ} (h : lookX xs k = none) : ∀ p ∈ xs, p.1 ≠ k := fun p hp e => by
  unfold lookX at h
  have h1 := List.find?_eq_none.mp (Option.map_eq_none_iff.mp h) p hp
  simp [e] at h1
theorem put_new {xs : List (κ × α)} {k : κ} {v : α} (h : lookX xs k = none) : putX xs k v = xs ++ [(k, v)] := by
  unfold putX
  rw [if_neg]
  intro z
  obtain ⟨p, hp, e⟩ := List.any_eq_true.mp z
  exact look_none h p hp (of_decide_eq_true e)
theorem drop_mem {xs : List (κ × α)} {k : κ} {p : κ × α} (h : p ∈ dropX xs k) : p ∈ xs ∧ p.1 ≠ k := by
  unfold dropX at h
  obtain ⟨h1, h2⟩ := List.mem_filter.mp h
  exact ⟨h1, by simpa using h2⟩
theorem drop_lt {xs : List (κ × α)} {k : κ} {y : α} (h : lookX xs k = some y) : (dropX xs k).length < xs.length := by
  unfold dropX
  have hm := look_mem h
  rcases Nat.lt_or_ge (xs.filter fun p => decide (p.1 ≠ k)).length xs.length with c | c
  · exact c
  · have e : (xs.filter fun p => decide (p.1 ≠ k)).length = xs.length := Nat.le_antisymm (List.length_filter_le _ _) c
    have := List.length_filter_eq_length_iff.mp e _ hm
    simp at this
theorem drop_nodup {xs : List (κ × α)} {k : κ} (h : (xs.map (·.1)).Nodup) : ((dropX xs k).map (·.1)).Nodup := by
  unfold dropX
  exact List.Nodup.sublist (List.Sublist.map _ List.filter_sublist) h
def PK (kt : KeyT κ) (T : Ty α) (F : Hp) : Key × V → κ × α → Prop := fun p x => p.1 = kt.f x.1 ∧ T.rp F p.2 x.2
theorem pk_mono {kt : KeyT κ} {T : Ty α} {F F' : Hp} (s : Same F F') {us : List (Key × V)} {xs : List (κ × α)} (p : Paired (PK kt T F) us xs) : Paired (PK kt T F') us xs := Paired.mono p fun _ _ h => ⟨h.1, T.mono s h.2⟩
theorem key_dec {kt : KeyT κ} {a : Key} {x k : κ} (h : a = kt.f x) : decide (a = kt.f k) = decide (x = k) := by
  subst h
  by_cases c : x = k
  · subst c; simp
  · rw [decide_eq_false c, decide_eq_false fun z => c (kt.inj _ _ z)]
theorem pk_look {kt : KeyT κ} {T : Ty α} {F : Hp} {us : List (Key × V)} {xs : List (κ × α)} (p : Paired (PK kt T F) us xs) (k : κ) : (lookX xs k = none ∧ valV us (kt.f k) = none) ∨ ∃ x v, lookX xs k = some x ∧ valV us (kt.f k) = some v ∧ T.rp F v x := by
  induction p with
  | nil => exact .inl ⟨rfl, rfl⟩
  | @cons u x us xs h _ ih =>
    unfold lookX valV at ih ⊢
    rw [List.find?_cons, List.find?_cons, key_dec h.1]
    cases decide (x.1 = k) with
    | true => exact .inr ⟨x.2, u.2, rfl, rfl, h.2⟩
    | false => exact ih
theorem pk_some {kt : KeyT κ} {T : Ty α} {F : Hp} {us : List (Key × V)} {xs : List (κ × α)} (p : Paired (PK kt T F) us xs) (k : κ) : (valV us (kt.f k)).isSome = (lookX xs k).isSome := by
  rcases pk_look p k with ⟨e1, e2⟩ | ⟨x, v, e1, e2, _⟩ <;> rw [e1, e2] <;> rfl
theorem pk_any {kt : KeyT κ} {T : Ty α} {F : Hp} {us : List (Key × V)} {xs : List (κ × α)} (p : Paired (PK kt T F) us xs) (k : κ) : (us.any fun kv => decide (kv.1 = kt.f k)) = xs.any fun q => decide (q.1 = k) := by
  induction p with
  | nil => rfl
  | cons h _ ih => rw [List.any_cons, List.any_cons, key_dec h.1, ih]
theorem pk_put {kt : KeyT κ} {T : Ty α} {F : Hp} {us : List (Key × V)} {xs : List (κ × α)} (p : Paired (PK kt T F) us xs) (k : κ) {v : V} {x : α} (hv : T.rp F v x) : Paired (PK kt T F) (putK us (kt.f k) v) (putX xs k x) := by
  unfold putK putX
  rw [pk_any p k]
  split
  · rename_i hc
    clear hc
    induction p with
    | nil => exact .nil
    | @cons u y us xs h _ ih =>
      refine .cons ?_ ih
      have e := key_dec (k := k) h.1
      by_cases c : y.1 = k
      · have c2 : u.1 = kt.f k := by rw [h.1, c]
        simp only [c, c2, if_true]
        exact ⟨by show kt.f k = kt.f k; rfl, hv⟩
      · have c2 : ¬ u.1 = kt.f k := fun z => c (kt.inj _ _ (h.1.symm.trans z))
        simp only [c, c2, if_false]
        exact h
  · exact Paired.snoc p ⟨rfl, hv⟩
theorem pk_drop {kt : KeyT κ} {T : Ty α} {F : Hp} {us : List (Key × V)} {xs : List (κ × α)} (p : Paired (PK kt T F) us xs) (k : κ) : Paired (PK kt T F) (dropK us (kt.f k)) (dropX xs k) := by
  unfold dropK dropX
  induction p with
  | nil => exact .nil
  | @cons u y us xs h _ ih =>
    rw [List.filter_cons, List.filter_cons]
    by_cases c : y.1 = k
    · have c2 : u.1 = kt.f k := by rw [h.1, c]
      rw [if_neg (by simp [c2]), if_neg (by simp [c])]
      exact ih
    · have c2 : ¬ u.1 = kt.f k := fun z => c (kt.inj _ _ (h.1.symm.trans z))
      rw [if_pos (by simp [c2]), if_pos (by simp [c])]
      exact .cons h ih
/-- a dict of one's own -/
def muD (φ : V → Prop) (kt : KeyT κ) (T : Ty α) (xs : List (κ × α)) : SP := ⟨fun F H o v => ∃ a us, v = .ref a ∧ φ v ∧ (∀ b, o b ↔ b = a) ∧ H a = some (.dK us) ∧ Paired (PK kt T F) us xs,
  fun ⟨a, us, e, f, ho, h, p⟩ s k => ⟨a, us, e, f, ho, (k a ((ho a).mpr rfl)).trans h, pk_mono s p⟩⟩
abbrev ownD (kt : KeyT κ) (T : Ty α) (xs : List (κ × α)) : SP := muD yes kt T xs
/-- a dict that all may know -/
def tD (kt : KeyT κ) (T : Ty α) : Ty (List (κ × α)) := ⟨fun F v xs => ∃ a us, v = .ref a ∧ F a = some (.dK us) ∧ Paired (PK kt T F) us xs, fun s ⟨a, us, e, h, p⟩ => ⟨a, us, e, s _ _ h, pk_mono s p⟩⟩
theorem fz_muD {φ : V → Prop} {kt : KeyT κ} {T : Ty α} {xs : List (κ × α)} : Fz (muD φ kt T xs) (vp (tD kt T) xs) := fun F H o v ⟨a, us, e, f, ho, h, p⟩ _ F' s k => ⟨a, us, e, (k a ((ho a).mpr rfl)).trans h, pk_mono s p⟩
theorem pin_muD {kt : KeyT κ} {T : Ty α} {xs : List (κ × α)} {p : Addr} : Pin (muD (pinV p) kt T xs) (.ref p) := fun F H o u ⟨a, us, e, f, _⟩ => f
theorem pn_muD {φ : V → Prop} {kt : KeyT κ} {T : Ty α} {xs : List (κ × α)} : Pn (muD φ kt T xs) (fun p => muD (pinV p) kt T xs) := fun F H o u ⟨a, us, e, f, r⟩ => ⟨a, a, us, e, e, r⟩
theorem unpin_muD {φ : V → Prop} {kt : KeyT κ} {T : Ty α} {xs : List (κ × α)} : ∀ F H o v, (muD φ kt T xs).ok F H o v → (ownD kt T xs).ok F H o v := fun F H o u ⟨a, us, e, f, r⟩ => ⟨a, us, e, trivial, r⟩
end
section
variable {κ : Type} [DecidableEq κ] {ε α β γ δ τ : Type} {X : Xc ε} {E : Ent} {env : En} {te ta tb to ti : TE} {u : TS} {post : Post γ}
theorem GG.mutD {φ : V → Prop} {kt : KeyT κ} {T : Ty α} {xs : List (κ × α)} {i : Nat} {a : Addr} {S0 : SP} {plug : SP → SP} {st : List SP} {σ : L2.St} {vs : List V} {H F : Hp} {w : Ow} (g : GG E env st σ vs H F w) (h : env[i]? = some (some S0)) (l : Lens S0 (muD φ kt T xs) (.ref a) plug) :
    ∃ us, H a = some (.dK us) ∧ Paired (PK kt T F) us xs ∧ ∀ us' ys, Paired (PK kt T F) us' ys → GG E (env.set i (some (plug (muD φ kt T ys)))) st σ vs (upd H a (.dK us')) F w := by
  obtain ⟨o1, ⟨a', us, ea, f, ho, hh, p⟩, k1, k⟩ := GG.chgP g h l
  cases ea
  exact ⟨us, hh, p, fun us' ys p' => k _ _ ((ho a).mpr rfl) ⟨a, us', rfl, f, ho, upd_same, p'⟩⟩
/-- {} -/
theorem ex_dnew {kt : KeyT κ} {T : Ty α} : EV X E env tDNewK (.ok ([] : List (κ × α))) (ownD kt T) := fun st vs σ H Q ⟨F, w, g⟩ hm a ha =>
  hm _ _ ⟨F, _, g.pushO ha ⟨a, [], rfl, trivial, fun b => Iff.rfl, upd_same, .nil⟩⟩
theorem o1_lenD {kt : KeyT κ} {T : Ty α} {xs : List (κ × α)} : O1 (fun v H Q => ∃ a kvs, [v] = [V.ref a] ∧ H a = some (.dK kvs) ∧ Q (.int kvs.length) H) (val (tD kt T) xs) (some (xs.length : Int)) (val tInt) := o1_mk fun c hm F H Q va s ⟨a, vs, e, h, p⟩ hq => by
  cases hm
  exact ⟨a, vs, by rw [e], s _ _ h, hq _ (by show V.int _ = V.int _; rw [p.length])⟩
def rInD : R2 := fun y x H Q => ∃ a o, x = .ref a ∧ DGet H a y o ∧ Q (.bl o.isSome) H
def rNotInD : R2 := fun y x H Q => ∃ a o, x = .ref a ∧ DGet H a y o ∧ Q (.bl (!o.isSome)) H
theorem op_inD {X : Cx} (hu : X.A.units + 64 < cLine) : OpR X (compareOp .In) rInD := by
  intro pins s σ H x y v u Q I rx ry ⟨a, o, ea, g, q⟩
  subst ea
  obtain rfl : u = Value.ref a := ry
  exact d_in (by omega) I g rx fun s3 I3 => ⟨.bl o.isSome, H, I3, rfl, q⟩
theorem op_notInD {X : Cx} (hu : X.A.units + 64 < cLine) : OpR X (compareOp .NotIn) rNotInD := by
  intro pins s σ H x y v u Q I rx ry ⟨a, o, ea, g, q⟩
  subst ea
  obtain rfl : u = Value.ref a := ry
  exact d_notIn (by omega) I g rx fun s3 I3 => ⟨.bl (!o.isSome), H, I3, rfl, q⟩
theorem o2_inD {kt : KeyT κ} {T : Ty α} {k : κ} {xs : List (κ × α)} : O2 rInD (val kt.T k) (val (tD kt T) xs) (some (lookX xs k).isSome) (val tBool) := o2_mk fun c hm F H Q va vb s ha ⟨a, us, e, h, p⟩ hq => by
  cases hm
  have := kt.val F va k ha
  subst this
  refine ⟨a, _, e, DGet.k (s _ _ h), hq _ ?_⟩
  rw [pk_some p]
  rfl
theorem o2_notInD {kt : KeyT κ} {T : Ty α} {k : κ} {xs : List (κ × α)} : O2 rNotInD (val kt.T k) (val (tD kt T) xs) (some (!(lookX xs k).isSome)) (val tBool) := o2_mk fun c hm F H Q va vb s ha ⟨a, us, e, h, p⟩ hq => by
  cases hm
  have := kt.val F va k ha
  subst this
  refine ⟨a, _, e, DGet.k (s _ _ h), hq _ ?_⟩
  rw [pk_some p]
  rfl
/-- d[k] -/
theorem room_u1 {k : Nat} {A : Around} (r : Room k A) : A.units + 1 < cLine := by have := r.units; omega
theorem o2_getD {kt : KeyT κ} {T : Ty α} {k : κ} {xs : List (κ × α)} : O2 (fun x y H Q => ∃ a v, x = .ref a ∧ DGet H a y (some v) ∧ Q v H) (val (tD kt T) xs) (val kt.T k) (lookX xs k) (val T) := o2_mk fun c hm F H Q va vb s ⟨a, us, e, h, p⟩ hb hq => by
  have := kt.val F vb k hb
  subst this
  rcases pk_look p k with ⟨e1, _⟩ | ⟨x, v, e1, e2, r⟩
  · rw [e1] at hm; cases hm
  · rw [e1] at hm
    cases hm
    have := DGet.k (k := kt.f k) (s _ _ h)
    rw [e2] at this
    exact ⟨a, v, e, this, hq v r⟩
/-- own[k] = e -/
theorem bk_setD {φ : V → Prop} {kt : KeyT κ} {T : Ty α} {xs : List (κ × α)} {i : Nat} {a : Addr} {S0 : SP} {plug : SP → SP} {m : R ε α} {mi : R ε κ} {k : List (κ × α) → R ε γ} (hr : EV X E env to (.ok ()) (fun _ => (isVP (.ref a)).sp)) (h : env[i]? = some (some S0)) (l : Lens S0 (muD φ kt T xs) (.ref a) plug) (he : EV X E env te m (val T)) (hi : EV X E env ti mi (val kt.T))
    (hk : ∀ ys, BK X E (env.set i (some (plug (muD φ kt T ys)))) u (k ys) post) : BK X E env (tSeq (tAsg te (gSub to ti rSetD)) u) (m.bind fun x => mi.bind fun j => (gR (xs.length < 16777216) (.ok (putX xs j x))).bind k) post := by
  intro st vs σ H D gg hm
  rw [wp_bind] at hm
  refine he st vs σ H _ gg (wp_mono hm (fun x hm v H1 g1 => ?_) fun e h => h σ)
  refine hr _ _ σ H1 _ g1 fun v2 H2 g2 => ?_
  rw [wp_bind] at hm
  refine hi _ _ σ H2 _ g2 (wp_mono hm (fun j hm v3 H3 g3 => ?_) fun e h => xcl_push e (xcl_push e (h σ)))
  obtain ⟨F, w, g⟩ := g3
  rw [wp_bind] at hm
  obtain ⟨hlen, hm⟩ := wp_gR hm
  have ev : v2 = .ref a := g.st.2.1
  subst ev
  obtain ⟨us, hh, p, kk⟩ := GG.mutD g.pop.pop.pop h l
  have e3 := kt.val F v3 j g.top
  subst e3
  unfold rSetD
  refine ⟨a, _, rfl, DPut.k hh (by rw [p.length, sizeLine_eq]; exact hlen), ?_⟩
  exact hk _ st vs σ _ D ⟨F, w, kk _ _ (pk_put p j (show T.rp F v x from g.st.2.2.1))⟩ hm
/-- own.pop(k) -/
theorem ex_popD {φ : V → Prop} {kt : KeyT κ} {T : Ty α} {xs : List (κ × α)} {i : Nat} {a : Addr} {S0 : SP} {plug : SP → SP} {m : R ε κ} {S : τ → SP} {e' : τ → En} (out : κ → α → τ) (hr : EV X E env to (.ok ()) (fun _ => (isVP (.ref a)).sp)) (h : env[i]? = some (some S0)) (l : Lens S0 (muD φ kt T xs) (.ref a) plug) (he : EV X E env te m (val kt.T))
    (hS : ∀ k x, S (out k x) = val T x := by intros; rfl) (hf : ∀ k x, Fgt (env.set i (some (plug (muD φ kt T (dropX xs k))))) (e' (out k x))) : EX X E env (tDPop1 to te) (m.bind fun k => R.of ((lookX xs k).map (out k))) S e' := by
  intro st vs σ H Q gg hm
  rw [wp_bind] at hm
  refine hr st vs σ H _ gg fun v H1 g1 => ?_
  obtain ⟨F, w, g⟩ := id g1
  have ev : v = .ref a := g.st.1
  subst ev
  obtain ⟨us0, hh0, _, _⟩ := GG.mutD g h l
  refine ⟨a, rfl, .inl ⟨us0, .inl hh0⟩, he _ _ σ H1 _ g1 (wp_mono hm (fun k hm v2 H2 g2 => ?_) xcl_push)⟩
  obtain ⟨F2, w2, g2⟩ := g2
  obtain ⟨x, ex, hq⟩ := wp_of hm
  obtain ⟨y, ey, rfl⟩ := Option.map_eq_some_iff.mp ex
  obtain ⟨us, hh, p, kk⟩ := GG.mutD g2.pop.pop h l
  have e3 := kt.val F2 v2 k g2.top
  subst e3
  rcases pk_look p k with ⟨e1, _⟩ | ⟨x, v, e1, e2, r⟩
  · rw [e1] at ey; cases ey
  · rw [e1] at ey
    cases ey
    have g4 : GG E _ (val T y :: st) σ (v :: vs) _ F2 w2 := (kk (dropK us (kt.f k)) (dropX xs k) (pk_drop p k)).pushV r
    obtain ⟨F3, w3, g3⟩ := G.fgt ⟨F2, w2, g4⟩ (hf k y)
    exact ⟨us, kt.f k, v, hh, rfl, e2, hq _ _ ⟨F3, w3, by rw [hS]; exact g3⟩⟩
end
/-! max of a dict's keys -/
section
variable {X : Cx} {α : Type}
def maxA : List Int → Int
  | [] => 0
  | [a] => a
  | a :: l => max a (maxA l)
theorem maxA_mem : ∀ {ns : List Int}, ns ≠ [] → maxA ns ∈ ns
  | [], h => absurd rfl h
  | [a], _ => by simp [maxA]
  | a :: b :: l, _ => by
    have := maxA_mem (ns := b :: l) (by simp)
    unfold maxA
    rcases Int.le_total a (maxA (b :: l)) with h | h
    · rw [Int.max_eq_right h]; exact List.mem_cons_of_mem _ this
    · rw [Int.max_eq_left h]; simp
theorem le_maxA : ∀ {ns : List Int}, ∀ y ∈ ns, y ≤ maxA ns
  | [a], y, h => by simp at h; subst h; simp [maxA]
  | a :: b :: l, y, h => by
    unfold maxA
    rcases List.mem_cons.mp h with rfl | h
    · exact Int.le_max_left _ _
    · exact Int.le_trans (le_maxA (ns := b :: l) y h) (Int.le_max_right _ _)
def rMaxK : List V → Hp → VK → Prop := fun xs H Q => ∃ (a : Addr) (kvs : List (Key × V)) (ns : List Int), xs = [.ref a] ∧ H a = some (.dK kvs) ∧ kvs.map (·.1) = ns.map Sum.inl ∧ 0 < ns.length ∧ ∀ m, m ∈ ns → (∀ y, y ∈ ns → y ≤ m) → Q (.int m) H
theorem argBest_max (f : Nat → Int) : ∀ k, argBest (fun i j => decide (f i > f j)) k ≤ k ∧ ∀ j, j ≤ k → f j ≤ f (argBest (fun i j => decide (f i > f j)) k)
  | 0 => ⟨Nat.le_refl _, fun j hj => by obtain rfl := Nat.le_zero.mp hj; exact Int.le_refl _⟩
  | k + 1 => by
    obtain ⟨h1, h2⟩ := argBest_max f k
    unfold argBest
    by_cases c : f (k + 1) > f (argBest (fun i j => decide (f i > f j)) k)
    · simp only [c, decide_true, if_true]
      refine ⟨Nat.le_refl _, fun j hj => ?_⟩
      rcases Nat.lt_or_ge j (k + 1) with h | h
      · exact Int.le_of_lt (Int.lt_of_le_of_lt (h2 j (by omega)) c)
      · rw [show j = k + 1 by omega]; exact Int.le_refl _
    · simp only [c, decide_false, Bool.false_eq_true, if_false]
      refine ⟨by omega, fun j hj => ?_⟩
      rcases Nat.lt_or_ge j (k + 1) with h | h
      · exact h2 j (by omega)
      · rw [show j = k + 1 by omega]; exact Int.not_lt.mp c
theorem cr_maxK (hc : X.calm = true) : CallR X (.builtin "max") rMaxK := by
  intro pins s σ H xs us Q I rx h
  obtain ⟨a, kvs, ns, rfl, ha, hns, hne, q⟩ := h
  rw [Vals.ref1 rx]
  obtain ⟨hz, hd, vs, rel, dd⟩ := dk_of I.hok ha
  obtain ⟨ep, hm⟩ := dd.dictAt
  have hkn : kvs.length = ns.length := by
    have e := congrArg List.length hns
    rw [List.length_map, List.length_map] at e
    exact e
  have hvn : vs.length = ns.length := by rw [← rel.length]; exact hkn
  refine call_max_walk (wpAny_pyIter_dict hd hm ?_)
  have hlt : a < s.heap.objs.size := by
    obtain ⟨o, es, ho, _⟩ := hm
    exact Heap.lt_size ho
  have hP : ∀ i v, (∃ k x, vs[i]? = some (k, x) ∧ (mixKind X.prog X.w).is k v = true) → ∃ t, v = .int (ns.getD i 0) t := fun i v ⟨k, x, hv, hk⟩ => by
    have hi : i < vs.length := (List.getElem?_eq_some_iff.mp hv).1
    have hi2 : i < ns.length := by omega
    have hi3 : i < kvs.length := by omega
    have ek : kvs[i].1 = k := by
      obtain ⟨u, hu, _⟩ := kv_get rel (i := i) (k := kvs[i].1) (v := kvs[i].2) (List.getElem?_eq_getElem hi3)
      rw [hv] at hu
      exact (congrArg (·.1) (Option.some.inj hu)).symm
    have e2 : kvs[i].1 = Sum.inl ns[i] := by
      have z : (kvs.map (·.1))[i]? = (ns.map Sum.inl)[i]? := by rw [hns]
      rw [List.getElem?_map, List.getElem?_map, List.getElem?_eq_getElem hi3, List.getElem?_eq_getElem hi2] at z
      exact Option.some.inj z
    rw [ek] at e2
    subst e2
    rw [mixKind_is] at hk
    obtain ⟨i', t, e3, e4⟩ | ⟨_, _, e3, _⟩ := keyIs_shape hk
    · have e5 := Sum.inl.inj e3
      have e6 : ns.getD i 0 = ns[i] := by rw [List.getD_eq_getElem?_getD, List.getElem?_eq_getElem hi2] <;> rfl
      exact ⟨t, by rw [e4, e6, ← e5]⟩
    · cases e3
  refine ⟨s.heap.objs.size, [s.heap.objs.size, a], [s.heap.objs.size], vs.length, _, _, fun i j => decide (ns.getD i 0 > ns.getD j 0), rfl, Walks.dictKeys (knd := mixKind X.prog X.w) (show X.A.in1.handled = none from I.ok.hd hc) _ a (Nat.ne_of_lt hlt) vs ep, ⟨⟨_, Heap.get?_push_size _ rfl, rfl, rfl⟩, hm.keep fun b o e => Heap.get?_push_of_some _ e⟩, fun b hb => ?_, by omega, ?_, fun v h' tk hv' hk => ?_⟩
  · show b < (s.heap.push _).objs.size
    rw [Heap.size_push]
    rcases List.mem_cons.mp hb with z | z
    · rw [z]; exact Nat.lt_succ_self _
    · rw [List.mem_singleton.mp z]; exact Nat.lt_succ_of_lt hlt
  · intro i j vi vj s Q E hi hj h
    exact CmpOf.ints_gt (fun i => ns.getD i 0) (P := fun i v => ∃ t, v = .int (ns.getD i 0) t) (fun i v z => z) i j vi vj s Q E (hP i vi hi) (hP j vj hj) h
  · obtain ⟨t, rfl⟩ := hP _ _ hv'
    obtain ⟨m1, m2⟩ := argBest_max (fun i => ns.getD i 0) (vs.length - 1)
    have hk2 : ∀ b o, s.heap.get? b = some o → h'.get? b = some o := fun b o e => hk b o (fun z => by rw [List.mem_singleton.mp z] at e; exact absurd (Heap.lt_size e) (Nat.lt_irrefl _)) (Heap.get?_push_of_some _ e)
    refine ⟨.int _, H, I.kept (t' := tk) hk2, ⟨t, rfl⟩, q _ (PySem.getD_mem (by omega)) fun y hy => ?_⟩
    obtain ⟨j, hj, e⟩ := List.mem_iff_getElem.mp hy
    have z := m2 j (by omega)
    have e3 : ns.getD j 0 = y := by rw [List.getD_eq_getElem?_getD, List.getElem?_eq_getElem hj, ← e] <;> rfl
    simp only [e3] at z
    exact z
theorem keys_of {T : Ty α} {F : Hp} {us : List (Key × V)} {xs : List (Int × α)} (p : Paired (PK kInt T F) us xs) : us.map (·.1) = (xs.map (·.1)).map Sum.inl := by
  induction p with
  | nil => rfl
  | cons hh _ ih => rw [List.map_cons, List.map_cons, List.map_cons, hh.1, ih]; rfl
theorem o1_maxD {T : Ty α} {xs : List (Int × α)} : O1 (fun v H Q => rMaxK [v] H Q) (val (tD kInt T) xs) (if 0 < xs.length then some (maxA (xs.map (·.1))) else none) (val tInt) := o1_mk fun c hm F H Q va s ⟨a, us, e, h, p⟩ hq => by
  split at hm
  · rename_i hl
    cases hm
    refine ⟨a, us, xs.map (·.1), by rw [e], s _ _ h, ?_, by simpa using hl, fun m hm1 hm2 => ?_⟩
    · exact keys_of p
    · have h0 : xs.map (·.1) ≠ [] := fun e => by rw [e] at hm1; cases hm1
      have : m = maxA (xs.map (·.1)) := Int.le_antisymm (le_maxA m hm1) (hm2 _ (maxA_mem h0))
      subst this
      exact hq _ rfl
  · cases hm
end
end NL

set_option Elab.async false
set_option linter.all false
set_option maxRecDepth 100000
set_option maxHeartbeats 4000000
/-! NL: lists of fixed kinds (records), xs[i] += e -/
namespace NL
open PySem PySem.Spec PyProof.Rows L2 ML
section
variable {α : Type}
/-- a list of one's own whose places have kinds of their own -/
def muT (φ : V → Prop) (view : α → List VP) (x : α) : SP := ⟨fun F H o v => ∃ a vs, v = .ref a ∧ φ v ∧ (∀ b, o b ↔ b = a) ∧ H a = some (.lst vs) ∧ VPs F (view x) vs,
  fun ⟨a, vs, e, f, ho, h, p⟩ s k => ⟨a, vs, e, f, ho, (k a ((ho a).mpr rfl)).trans h, p.mono s⟩⟩
abbrev ownT (view : α → List VP) (x : α) : SP := muT yes view x
def tLT (view : α → List VP) : Ty α := ⟨fun F v x => ∃ a vs, v = .ref a ∧ F a = some (.lst vs) ∧ VPs F (view x) vs, fun s ⟨a, vs, e, h, p⟩ => ⟨a, vs, e, s _ _ h, p.mono s⟩⟩
theorem fz_muT {φ : V → Prop} {view : α → List VP} {x : α} : Fz (muT φ view x) (vp (tLT view) x) := fun F H o v ⟨a, us, e, f, ho, h, p⟩ _ F' s k => ⟨a, us, e, (k a ((ho a).mpr rfl)).trans h, p.mono s⟩
theorem pin_muT {view : α → List VP} {x : α} {p : Addr} : Pin (muT (pinV p) view x) (.ref p) := fun F H o u ⟨a, us, e, f, _⟩ => f
theorem pn_muT {φ : V → Prop} {view : α → List VP} {x : α} : Pn (muT φ view x) (fun p => muT (pinV p) view x) := fun F H o u ⟨a, us, e, f, r⟩ => ⟨a, a, us, e, e, r⟩
theorem unpin_muT {φ : V → Prop} {view : α → List VP} {x : α} : ∀ F H o v, (muT φ view x).ok F H o v → (ownT view x).ok F H o v := fun F H o u ⟨a, us, e, f, r⟩ => ⟨a, us, e, trivial, r⟩
theorem VPs.set {F : Hp} {q : VP} {v : V} (hq : q.p F v) : ∀ {qs : List VP} {vs : List V} (n : Nat), VPs F qs vs → VPs F (qs.set n q) (vs.set n v)
  | [], [], _, _ => trivial
  | _ :: _, _ :: _, 0, h => ⟨hq, h.2⟩
  | _ :: qs, _ :: vs, n + 1, h => ⟨h.1, VPs.set hq (qs := qs) (vs := vs) n h.2⟩
  | [], _ :: _, _, h => h.elim
  | _ :: _, [], _, h => h.elim
end
section
variable {ε α β γ δ τ : Type} {X : Xc ε} {E : Ent} {env : En} {te ta tb to ti : TE} {u : TS} {post : Post γ}
theorem GG.mutT {φ : V → Prop} {view : α → List VP} {x : α} {i : Nat} {a : Addr} {S0 : SP} {plug : SP → SP} {st : List SP} {σ : L2.St} {vs : List V} {H F : Hp} {w : Ow} (g : GG E env st σ vs H F w) (h : env[i]? = some (some S0)) (l : Lens S0 (muT φ view x) (.ref a) plug) :
    ∃ us, H a = some (.lst us) ∧ VPs F (view x) us ∧ ∀ us' y, VPs F (view y) us' → GG E (env.set i (some (plug (muT φ view y)))) st σ vs (upd H a (.lst us')) F w := by
  obtain ⟨o1, ⟨a', us, ea, f, ho, hh, p⟩, k1, k⟩ := GG.chgP g h l
  cases ea
  exact ⟨us, hh, p, fun us' ys p' => k _ _ ((ho a).mpr rfl) ⟨a, us', rfl, f, ho, upd_same, p'⟩⟩
theorem ex_lstT {view : α → List VP} {t : TA} {m : R ε δ} {S : δ → α} {e' : δ → En} (h : AX X E env t [] m fun m' Ss e => ∃ c, m' = .ok c ∧ Ss = ((view (S c)).map VP.sp).reverse ∧ (view (S c)).length ≤ 1000 ∧ e = e' c) : EX X E env (tLst t) m (fun c => ownT view (S c)) e' := by
  intro st vs σ H Q g hm
  refine h st vs [] σ H _ _ g rfl hm fun us H' Ss e m' hh hl gg hq => ?_
  obtain ⟨c, rfl, hs, hc, he⟩ := hh
  obtain ⟨F, w, g'⟩ := gg
  subst hs he
  rw [← List.map_reverse] at g'
  have hlen : us.length = (view (S c)).length := by simpa using hl.symm
  obtain ⟨p, q⟩ := vps_of (qs := (view (S c)).reverse) (us := us.reverse) (by simpa using g'.st) (by simp [hlen])
  have p2 : VPs F (view (S c)) us := by simpa using p.rev
  exact ⟨Nat.le_of_lt (small1000 (by omega)), fun a ha => hq _ _ ⟨F, _, (g'.re (fun a l e => ⟨l, e⟩) g'.env q : GG E (e' c) st σ vs H' F w).pushO ha ⟨a, us, rfl, trivial, fun b => Iff.rfl, upd_same, p2⟩⟩⟩
theorem o2_ixLT {K : PySem.W.Frag} {view : α → List VP} {x : α} {T : Ty β} {y : β} (n : Nat) (h : (view x)[n]? = some (vp T y)) (hn : n < 1000 := by decide) : O2 (rIxL K) (val (tLT view) x) (val tInt (n : Int)) (some y) (val T) := o2_mk fun c hm F H Q va vb s ⟨a, vs, e, hf, p⟩ hb hq => by
  cases hm
  obtain ⟨v, e1, e2⟩ := p.nth h
  exact ⟨a, vs, n, v, e, hb, .of (s _ _ hf), atI_nat e1, hq v e2⟩
/-- own[n] = e, n written -/
theorem bk_setLT {φ : V → Prop} {view : α → List VP} {x : α} {T : Ty β} {i : Nat} {a : Addr} {S0 : SP} {plug : SP → SP} {m : R ε β} {k : β → R ε γ} (n : Nat) (up : β → α) (hr : EV X E env to (.ok ()) (fun _ => (isVP (.ref a)).sp)) (h : env[i]? = some (some S0)) (l : Lens S0 (muT φ view x) (.ref a) plug) (he : EV X E env te m (val T)) (hi : EV X E env ti (.ok (n : Int)) (val tInt))
    (hu : ∀ y, view (up y) = (view x).set n (vp T y)) (hn : n < (view x).length)
    (hk : ∀ y, BK X E (env.set i (some (plug (muT φ view (up y))))) u (k y) post) : BK X E env (tSeq (tAsg te (gSub to ti rSetL)) u) (m.bind k) post := by
  intro st vs σ H D gg hm
  rw [wp_bind] at hm
  refine he st vs σ H _ gg (wp_mono hm (fun y hm v H1 g1 => ?_) fun e h => h σ)
  refine hr _ _ σ H1 _ g1 fun v2 H2 g2 => ?_
  refine hi _ _ σ H2 _ g2 fun v3 H3 g3 => ?_
  obtain ⟨F, w, g⟩ := g3
  have ev : v2 = .ref a := g.st.2.1
  subst ev
  obtain ⟨us, hh, p, kk⟩ := GG.mutT g.pop.pop.pop h l
  have hlen : us.length = (view x).length := p.len
  have hq : (vp T y).p F v := g.st.2.2.1
  refine ⟨a, us, (n : Int), n, rfl, g.top, hh, by unfold ixN; rw [if_pos (by omega), if_pos (by omega)]; simp, ?_⟩
  exact hk y st vs σ _ D ⟨F, w, kk _ _ (by rw [hu y]; exact p.set hq n)⟩ hm
/-- the same, e with effects -/
theorem bk_setLTE {φ : V → Prop} {view : α → List VP} {x : δ → α} {T : Ty β} {y : δ → β} {i : Nat} {a : Addr} {S0 : δ → SP} {plug : δ → SP → SP} {m : R ε δ} {e1 : δ → En} {k : δ → R ε γ} (n : Nat) (up : δ → α) (he : EX X E env te m (fun d => val T (y d)) e1) (hr : ∀ d, EV X E (e1 d) to (.ok ()) (fun _ => (isVP (.ref a)).sp)) (h : ∀ d, (e1 d)[i]? = some (some (S0 d))) (l : ∀ d, Lens (S0 d) (muT φ view (x d)) (.ref a) (plug d)) (hi : ∀ d, EV X E (e1 d) ti (.ok (n : Int)) (val tInt))
    (hu : ∀ d, view (up d) = (view (x d)).set n (vp T (y d))) (hn : ∀ d, n < (view (x d)).length)
    (hk : ∀ d, BK X E ((e1 d).set i (some (plug d (muT φ view (up d))))) u (k d) post) : BK X E env (tSeq (tAsg te (gSub to ti rSetL)) u) (m.bind k) post := by
  intro st vs σ H D gg hm
  rw [wp_bind] at hm
  refine he st vs σ H _ gg (wp_mono hm (fun d hm v H1 g1 => ?_) fun e h => h σ)
  refine hr d _ _ σ H1 _ g1 fun v2 H2 g2 => ?_
  refine hi d _ _ σ H2 _ g2 fun v3 H3 g3 => ?_
  obtain ⟨F, w, g⟩ := g3
  have ev : v2 = .ref a := g.st.2.1
  subst ev
  obtain ⟨us, hh, p, kk⟩ := GG.mutT g.pop.pop.pop (h d) (l d)
  have hlen : us.length = (view (x d)).length := p.len
  have hl2 := hn d
  have hq : (vp T (y d)).p F v := g.st.2.2.1
  refine ⟨a, us, (n : Int), n, rfl, g.top, hh, by unfold ixN; rw [if_pos (by omega), if_pos (by omega)]; simp, ?_⟩
  exact hk d st vs σ _ D ⟨F, w, kk _ _ (by rw [hu d]; exact p.set hq n)⟩ hm
/-- own[j] = e, e with effects -/
theorem bk_setIE {φ : V → Prop} {T : Ty α} {xs : δ → List α} {y : δ → α} {i : Nat} {a : Addr} {S0 : δ → SP} {plug : δ → SP → SP} {m : R ε δ} {mi : δ → R ε Int} {e1 : δ → En} {k : δ → List α → R ε γ} (he : EX X E env te m (fun d => val T (y d)) e1) (hr : ∀ d, EV X E (e1 d) to (.ok ()) (fun _ => (isVP (.ref a)).sp)) (h : ∀ d, (e1 d)[i]? = some (some (S0 d))) (l : ∀ d, Lens (S0 d) (muL φ T (xs d)) (.ref a) (plug d)) (hi : ∀ d, EV X E (e1 d) ti (mi d) (val tInt))
    (hk : ∀ d ys, BK X E ((e1 d).set i (some (plug d (muL φ T ys)))) u (k d ys) post) : BK X E env (tSeq (tAsg te (gSub to ti rSetL)) u) (m.bind fun d => (mi d).bind fun j => (R.of (setI (xs d) j (y d))).bind (k d)) post := by
  intro st vs σ H D gg hm
  rw [wp_bind] at hm
  refine he st vs σ H _ gg (wp_mono hm (fun d hm v H1 g1 => ?_) fun e h => h σ)
  refine hr d _ _ σ H1 _ g1 fun v2 H2 g2 => ?_
  rw [wp_bind] at hm
  refine hi d _ _ σ H2 _ g2 (wp_mono hm (fun j hm v3 H3 g3 => ?_) fun e h => xcl_push e (xcl_push e (h σ)))
  obtain ⟨F, w, g⟩ := g3
  rw [wp_bind] at hm
  obtain ⟨ys, ey, hm⟩ := wp_of hm
  obtain ⟨j', ej, rfl⟩ := Option.map_eq_some_iff.mp ey
  have ev : v2 = .ref a := g.st.2.1
  subst ev
  obtain ⟨us, hh, p, kk⟩ := GG.mutP g.pop.pop.pop (h d) (l d)
  refine ⟨a, us, j, j', rfl, g.top, hh, by rw [p.length]; exact ej, ?_⟩
  exact hk d _ st vs σ _ D ⟨F, w, kk _ _ (ML.Paired.set (f := T.rp F) (show T.rp F v (y d) from g.st.2.2.1) j' p)⟩ hm
theorem ex_orE {tb' : TE} {ma : R ε δ} {k : δ → Bool} {e1 : δ → En} {mb : δ → R ε τ} {S : τ → SP} {e' : τ → En} (yes : δ → τ) (ha : EX X E env ta ma (fun x => val tBool (k x)) e1) (hb : ∀ x, EX X E (e1 x) tb' (mb x) S e') (hS : ∀ x, S (yes x) = val tBool true := by intros; rfl) (he : ∀ x, e' (yes x) = e1 x := by intros; rfl) :
    EX X E env (tOrV ta tb') (ma.bind fun x => if k x = true then .ok (yes x) else mb x) S e' := by
  intro st vs σ H Q g hm
  rw [wp_bind] at hm
  refine ha st vs σ H _ g (wp_mono hm (fun x hm v H1 ⟨F, w, g1⟩ => ⟨k x, g1.top, ?_⟩) fun e h => h)
  cases hk : k x with
  | false =>
    rw [hk, if_neg Bool.false_ne_true] at hm
    exact hb x st vs σ H1 Q ⟨F, w, g1.pop⟩ hm
  | true =>
    rw [hk, if_pos rfl] at hm
    exact hm _ _ ⟨F, w, by rw [hS, he]; exact g1.pop.pushV rfl⟩
theorem ex_as2E {m : R ε δ} {S : δ → SP} {e1 : δ → En} {S' : τ → SP} {e' : τ → En} (out : δ → τ) (h : EX X E env te m S e1) (hS : ∀ x F H o v, (S x).ok F H o v → (S' (out x)).ok F H o v) (he : ∀ x, e' (out x) = e1 x := by intros; rfl) : EX X E env te (m.bind fun x => .ok (out x)) S' e' := by
  intro st vs σ H Q g hm
  rw [wp_bind] at hm
  exact h st vs σ H Q g (wp_mono hm (fun x hq v H1 ⟨F, w, g1⟩ => hq v H1 ⟨F, w, by rw [he]; exact g1.re (fun b l e => ⟨l, e⟩) g1.env ⟨hS x _ _ _ _ g1.st.1, g1.st.2⟩⟩) fun e h => h)
/-- list(own) -/
theorem ex_listO {K : PySem.W.Frag} {φ : V → Prop} {T : Ty α} {xs : List α} {i : Nat} {a : Addr} {S0 : SP} {plug : SP → SP} (hr : EV X E env to (.ok ()) (fun _ => (isVP (.ref a)).sp)) (h : env[i]? = some (some S0)) (l : Lens S0 (muL φ T xs) (.ref a) plug) :
    EV X E env (tCB (fun vs H Q => ∃ p ys, vs = [V.ref p] ∧ (SqL K H p ys ∨ SqT K H p ys) ∧ ∀ l, H l = none → Q (.ref l) (upd H l (.lst ys))) (tCons to tNil)) (.ok xs) (own T) := by
  intro st vs σ H Q gg hm
  refine hr st vs σ H _ gg fun v H1 g1 => ?_
  obtain ⟨F, w, g⟩ := g1
  have ev : v = .ref a := g.st.1
  subst ev
  obtain ⟨u0, e1', e2⟩ := g.env.2 i _ h
  obtain ⟨o1, _, ⟨a', us, ea, f, ho, hh, pp⟩, _⟩ := l F H1 _ u0 e2
  cases ea
  exact ⟨a, us, rfl, .inl (.of hh), fun l hl => hm _ _ ⟨F, _, g.pop.pushO hl ⟨l, us, rfl, trivial, fun b => Iff.rfl, upd_same, pp⟩⟩⟩
/-- own[j] op= e, whole numbers -/
theorem bk_augI {K : PySem.W.Frag} {f : Int → Int → Int} {φ : V → Prop} {xs : List Int} {i : Nat} {a : Addr} {S0 : SP} {plug : SP → SP} {m mi : R ε Int} {k : List Int → R ε γ} (hr : EV X E env to (.ok ()) (fun _ => (isVP (.ref a)).sp)) (h : env[i]? = some (some S0)) (l : Lens S0 (muL φ tInt xs) (.ref a) plug) (hi : EV X E env ti mi (val tInt)) (he : EV X E env te m (val tInt))
    (hk : ∀ ys, BK X E (env.set i (some (plug (muL φ tInt ys)))) u (k ys) post) : BK X E env (tSeq (tAugS to ti te (rIxL K) (ipI f) rSetL) u) (mi.bind fun j => (R.of (atI xs j)).bind fun x => m.bind fun y => (R.of (setI xs j (f x y))).bind k) post := by
  intro st vs σ H D gg hm
  refine hr st vs σ H _ gg fun v2 H2 g2 => ?_
  rw [wp_bind] at hm
  refine hi _ _ σ H2 _ g2 (wp_mono hm (fun j hm v3 H3 g3 => ?_) fun e h => xcl_push e (h σ))
  rw [wp_bind] at hm
  obtain ⟨x, ex, hm⟩ := wp_of hm
  rw [wp_bind] at hm
  obtain ⟨F, w, g⟩ := g3
  have ev : v2 = .ref a := g.st.2.1
  subst ev
  have e3 : v3 = .int j := g.top
  subst e3
  obtain ⟨us, hh, p, kk⟩ := GG.mutP g.pop.pop h l
  obtain ⟨xv, ev1, ev2⟩ := atI_paired p ex
  have e4 : xv = .int x := ev2
  subst e4
  refine ⟨a, us, j, .int x, rfl, rfl, .of hh, ev1, ?_⟩
  have g5 : G E env (val tInt x :: val tInt j :: (isVP (.ref a)).sp :: st) σ (.int x :: .int j :: .ref a :: vs) H3 := ⟨F, w, g.pushV rfl⟩
  refine he _ _ σ H3 _ g5 (wp_mono hm (fun y hm v6 H6 g6 => ?_) fun e h => xcl_push e (xcl_push e (xcl_push e (h σ))))
  rw [wp_bind] at hm
  obtain ⟨ys, ey, hm⟩ := wp_of hm
  obtain ⟨j', ej, rfl⟩ := Option.map_eq_some_iff.mp ey
  obtain ⟨F6, w6, g6⟩ := g6
  have e6 : v6 = .int y := g6.top
  subst e6
  refine ⟨x, y, rfl, rfl, ?_⟩
  obtain ⟨us6, hh6, p6, kk6⟩ := GG.mutP g6.pop.pop.pop.pop h l
  refine ⟨a, us6, j, j', rfl, rfl, hh6, by rw [p6.length]; exact ej, ?_⟩
  exact hk _ st vs σ _ D ⟨F6, w6, kk6 _ _ (ML.Paired.set (f := tInt.rp F6) (show tInt.rp F6 (V.int (f x y)) (f x y) from rfl) j' p6)⟩ hm
theorem get_list {X : Cx} : PGet X (rIxL X.K) := by
  intro pins s σ H o i ov iv Q I ro ri h
  obtain ⟨p, xs, k, z, rfl, rfl, hq, he, q⟩ := h
  cases ro
  obtain ⟨t, rfl⟩ := ri
  obtain ⟨its, r, pl, hz⟩ := I.list hq
  obtain ⟨j, h1, h2, h3, h4, h5⟩ := atI_get he
  obtain ⟨w, ew, rw'⟩ := r.get h2
  have hl := r.length
  have hn := line63
  have fin : EP X pins σ Q w s := ⟨z, H, I, rw', q⟩
  by_cases h0 : 0 ≤ k
  · have hj : k.toNat = j := by
      rw [seqIndex_of h0 h5] at h1
      exact Option.some.inj h1
    exact wpAny_getItem_list pl.isList h0 (by omega) (by rw [hj]; simpa using ew) fin
  · have hj : (k + (its.toArray.size : Int)).toNat = j := by
      rw [seqIndex_neg (by omega) h4] at h1
      rw [List.size_toArray, ← hl]
      exact Option.some.inj h1
    exact wpAny_getItem_list_neg pl.isList (by omega) (by rw [List.size_toArray] <;> omega) (by omega) (by rw [hj]; simpa using ew) fin
end
theorem map_inj_of {α β : Type} {f : α → β} : ∀ {l : List α}, (l.map f).Nodup → ∀ a ∈ l, ∀ b ∈ l, f a = f b → a = b
  | [], _, a, ha, _, _, _ => no_mem ha
  | x :: l, h, a, ha, b, hb, e => by
    rw [List.map_cons, List.nodup_cons] at h
    obtain ⟨h1, h2⟩ := h
    rcases List.mem_cons.mp ha with qa | qa <;> rcases List.mem_cons.mp hb with qb | qb
    · rw [qa, qb]
    · refine absurd (List.mem_map.mpr ⟨b, qb, ?_⟩) h1
      rw [← e, qa]
    · refine absurd (List.mem_map.mpr ⟨a, qa, ?_⟩) h1
      rw [e, qb]
    · exact map_inj_of h2 a qa b qb e
theorem nd0 : ([] : List Nat).Nodup := List.nodup_nil
theorem nd1 {a : Nat} : [a].Nodup := List.nodup_cons.mpr ⟨fun h => no_mem h, nd0⟩
theorem nd2 {a b : Nat} (h : Nat.beq a b = false) : [a, b].Nodup := List.nodup_cons.mpr ⟨fun z => by
  rcases List.mem_cons.mp z with e | e
  · subst e; rw [Nat.beq_refl] at h; cases h
  · exact no_mem e, nd1⟩
theorem nd3 {a b c : Nat} (h : Nat.beq a b = false) (h2 : Nat.beq a c = false) (h3 : Nat.beq b c = false) : [a, b, c].Nodup := List.nodup_cons.mpr ⟨fun z => by
  rcases List.mem_cons.mp z with e | z
  · subst e; rw [Nat.beq_refl] at h; cases h
  · rcases List.mem_cons.mp z with e | e
    · subst e; rw [Nat.beq_refl] at h2; cases h2
    · exact no_mem e, nd2 h3⟩
theorem lokG {env : En} {L : List Nm} {M : List (Nat × Nat)} (hi : (L.map Nm.i).Nodup) (hk : (L.map Nm.k).Nodup) (hs : ∀ n ∈ L, env[n.i]? = some (some n.S) ∧ Lens n.S n.S1 n.v n.plug) (m1 : (M.map (·.1)).Nodup) (m2 : (M.map (·.2)).Nodup) (hx : ∀ a ∈ L.map Nm.k, ∀ b ∈ M.map (·.1), a ≠ b) : LOk env L M :=
  ⟨fun n hn m hm e => map_inj_of hi n hn m hm e, fun n hn m hm e => map_inj_of hk n hn m hm e, hs, fun p hp q hq e => map_inj_of m1 p hp q hq e, fun p hp q hq e => map_inj_of m2 p hp q hq e, fun n hn p hp => hx _ (List.mem_map.mpr ⟨n, hn, rfl⟩) _ (List.mem_map.mpr ⟨p, hp, rfl⟩)⟩
theorem lok20 {env : En} {n1 n2 : Nm} (hi : Nat.beq n1.i n2.i = false) (hk : Nat.beq n1.k n2.k = false) (h1 : env[n1.i]? = some (some n1.S)) (l1 : Lens n1.S n1.S1 n1.v n1.plug) (h2 : env[n2.i]? = some (some n2.S)) (l2 : Lens n2.S n2.S1 n2.v n2.plug) : LOk env [n1, n2] [] :=
  lokG (nd2 hi) (nd2 hk) (fun n hn => by
    rcases List.mem_cons.mp hn with e | e
    · subst e; exact ⟨h1, l1⟩
    · rw [List.mem_singleton.mp e]; exact ⟨h2, l2⟩) nd0 nd0 fun _ _ _ h => no_mem h
theorem lok30 {env : En} {n1 n2 n3 : Nm} (hi : Nat.beq n1.i n2.i = false) (hi2 : Nat.beq n1.i n3.i = false) (hi3 : Nat.beq n2.i n3.i = false) (hk : Nat.beq n1.k n2.k = false) (hk2 : Nat.beq n1.k n3.k = false) (hk3 : Nat.beq n2.k n3.k = false) (h1 : env[n1.i]? = some (some n1.S)) (l1 : Lens n1.S n1.S1 n1.v n1.plug) (h2 : env[n2.i]? = some (some n2.S)) (l2 : Lens n2.S n2.S1 n2.v n2.plug) (h3 : env[n3.i]? = some (some n3.S)) (l3 : Lens n3.S n3.S1 n3.v n3.plug) : LOk env [n1, n2, n3] [] :=
  lokG (nd3 hi hi2 hi3) (nd3 hk hk2 hk3) (fun n hn => by
    rcases List.mem_cons.mp hn with e | e
    · subst e; exact ⟨h1, l1⟩
    · rcases List.mem_cons.mp e with e | e
      · subst e; exact ⟨h2, l2⟩
      · rw [List.mem_singleton.mp e]; exact ⟨h3, l3⟩) nd0 nd0 fun _ _ _ h => no_mem h
end NL

set_option Elab.async false
set_option linter.all false
set_option maxRecDepth 100000
set_option maxHeartbeats 4000000
/-! NL: C(..) with things lent -/
namespace NL
open PySem PySem.Spec PyProof.Rows L2 ML
theorem setL_snoc : ∀ (L : List Nm) (e : En) (o : Option SP) (B : List (Option SP)), (∀ q ∈ L, q.i < e.length) → setL (e ++ [o]) L B = setL e L B ++ [o]
  | [], e, o, B, _ => rfl
  | q :: L, e, o, B, h => by
    have hq := h q (List.mem_cons_self ..)
    show setL ((e ++ [o]).set q.i _) L B = setL (e.set q.i _) L B ++ [o]
    rw [List.set_append_left _ _ hq]
    exact setL_snoc L _ o B fun r hr => by rw [List.length_set]; exact h r (List.mem_cons_of_mem _ hr)
section
variable {ε ε' α β γ δ ρ τ : Type} {X : Xc ε} {E : Ent} {env env' : En} {te ta tb tc ti : TE} {tt tu : TT} {u t t1 t2 : TS} {post : Post γ}
/-! ### C(..) -/
structure MakeOkL {A : Type} (X : Xc ε) (mg : Str → Option Value) (C : Addr) (As : A → List SP) (f : A → R ε' ρ) (Bs : A → ρ → List (Option SP)) (ex : ε' → Exn) (Xs : A → ε' → List (Option SP)) (src : List Src) (n : Nat) (S : δ → SP) (e' : δ → En) (m' : R ε δ) (Ss : List SP) (e : En) : Prop where
  len : Ss.length = n
  go : ∀ p : Addr, ∃ (a : A) (L0 : List Nm) (M : List (Nat × Nat)) (out : ρ → δ) (ge : ε' → ε), LOk (e ++ [some (ob (pinV p) C [])]) (⟨e.length, 0, ob (pinV p) C [], ob (pinV p) C [], .ref p, id⟩ :: L0) M ∧ (∀ q ∈ L0, q.i < e.length) ∧ MtOk (Ss.reverse ++ [(isVP (.ref p)).sp]) (⟨e.length, 0, ob (pinV p) C [], ob (pinV p) C [], .ref p, id⟩ :: L0) M 0 (.arg n :: src) (As a) ∧
    (∀ q ∈ L0, ∃ j, (Src.arg n :: src)[q.k]? = some (.arg j) ∧ (Ss.reverse ++ [(isVP (.ref p)).sp])[j]? = some (isVP q.v).sp) ∧
    (∀ (Φ : δ → Prop) (Ξ : ε → Prop), wp m' Φ Ξ → wp (f a) (fun r => Φ (out r)) fun x => Ξ (ge x)) ∧ (∀ r, ∃ S1, getB (Bs a r) 0 = some S1 ∧ ∀ F H o v, S1.ok F H o v → (S (out r)).ok F H o v) ∧ (∀ r, Fgt (setL e L0 (Bs a r)) (e' (out r))) ∧
    (∀ x c d F, ErrOk mg (ex x) c d F → X.ok (ge x) c d F) ∧ ∀ x, Fgt (setL e L0 (Xs a x)) (X.en (ge x))
theorem MakeOkL.sp {A : Type} {mg : Str → Option Value} {C : Addr} {As : A → List SP} {f : A → R ε' ρ} {Bs : A → ρ → List (Option SP)} {ex : ε' → Exn} {Xs : A → ε' → List (Option SP)} {src : List Src} {n : Nat} {S : δ → SP} {e' : δ → En} {m' : R ε δ} {Ss : List SP} {e0 : En}
    {st : List SP} {us vs : List V} {σ : L2.St} {H : Hp} {Q : VK} {Φ : δ → Prop} (h : MakeOkL X mg C As f Bs ex Xs src n S e' m' Ss e0) (hl : us.length = Ss.length) (g : G E e0 (Ss ++ st) σ (us.reverse ++ vs) H) (hm : wp m' Φ (xcl X E st vs σ)) (hq : ∀ x, Φ x → ∀ v H', G E (e' x) (S x :: st) σ (v :: vs) H' → Q v H')
    {x dx : Addr} (nx : H x = none) (nd : H dx = none) (hne : dx ≠ x) : spX mg As f (fun _ _ => val tNon ()) Bs ex Xs ((Src.arg n :: src).map (Src.sel (us ++ [.ref x]))) (upd (upd H dx (.own x)) x (.ins C dx [])) (fun v H2 => v = .non ∧ Q (.ref x) H2) (WE X.W σ) := by
  classical
  obtain ⟨a, L0, M, out, ge, hL2, hi0, mt, hb0, hw, hS, hF, hX, hG⟩ := h.go x
  obtain ⟨F, w, g⟩ := g
  have fx : F x = none := by
    cases q : F x with
    | none => rfl
    | some o => have := g.ext.s x o q; rw [nx] at this; cases this
  have fd : F dx = none := by
    cases q : F dx with
    | none => rfl
    | some o => have := g.ext.s dx o q; rw [nd] at this; cases this
  have n2 : upd H dx (.own x) x = none := by rw [upd_ne (Ne.symm hne)]; exact nx
  have u1 : Ext F H (fun _ => False) F (upd H dx (.own x)) := Ext.newO g.ext.s nd
  have u2 : Ext F (upd H dx (.own x)) (fun _ => False) F (upd (upd H dx (.own x)) x (.ins C dx [])) := Ext.newO u1.s n2
  have uu : Ext F H (fun _ => False) F (upd (upd H dx (.own x)) x (.ins C dx [])) := ⟨u1.f.trans u2.f, u2.s, fun b o nb e => u2.h b o nb (u1.h b o nb e), fun b hb => rfl, fun b hb => u1.t b (u2.t b hb)⟩
  let H2 := upd (upd H dx (.own x)) x (.ins C dx [])
  let σ2 : L2.St := σ.take e0.length ++ [some (V.ref x)]
  let e2 : En := e0 ++ [some (ob (pinV x) C [])]
  have hlen : (σ.take e0.length).length = e0.length := by rw [List.length_take]; exact Nat.min_eq_left g.env.1
  have σlast : σ2[e0.length]? = some (some (.ref x)) := by
    show (σ.take e0.length ++ [some (V.ref x)])[e0.length]? = _
    rw [List.getElem?_append_right (by omega)]
    simp [hlen]
  have σold : ∀ i, i < e0.length → σ2[i]? = σ[i]? := fun i hi => by
    show (σ.take e0.length ++ [some (V.ref x)])[i]? = _
    rw [List.getElem?_append_left (by omega), List.getElem?_take, if_pos hi]
  have N : ∀ b, (b = x ∨ b = dx) → w b = none ∨ w b = some (.e e0.length) := fun b hb => by
    cases q : w b with
    | none => exact .inl rfl
    | some l =>
      exfalso
      have := (g.own b l q).2.1
      rcases hb with rfl | rfl
      · exact this nx
      · exact this nd
  have own2 : ∀ b, (b = x ∨ b = dx) → H2 b ≠ none := fun b hb => by
    show upd (upd H dx (.own x)) x (.ins C dx []) b ≠ none
    by_cases h1 : b = x
    · rw [h1, upd_same]; intro z; cases z
    · have h2 : b = dx := hb.resolve_left h1
      rw [upd_ne h1, h2, upd_same]; intro z; cases z
  have slot : (ob (pinV x) C []).ok F H2 (fun b => b = x ∨ b = dx) (.ref x) := by
    refine ⟨x, dx, [], fun _ => False, rfl, rfl, Ne.symm hne, upd_same, ?_, trivial, fun z => z, fun z => z, .inl rfl, .inr rfl, fun b z => z.elim⟩
    show upd (upd H dx (.own x)) x (.ins C dx []) dx = _
    rw [upd_ne hne, upd_same]
  have g2 : GG E e2 ((isVP (.ref x)).sp :: (Ss ++ st)) σ2 (.ref x :: (us.reverse ++ vs)) H2 F (w.put (.e e0.length) fun b => b = x ∨ b = dx) := by
    refine g.step uu (fun _ z => z.elim) (fun b l ee => ?_) ⟨?_, fun i S' ee => ?_⟩ ⟨rfl, ?_⟩
    · rcases Ow.put_sub ee with z | z
      · refine .inr ⟨?_, ?_, own2 b z⟩
        · rcases z with rfl | rfl
          · exact nx
          · exact nd
        · rcases z with rfl | rfl
          · exact fx
          · exact fd
      · exact .inl ⟨l, z⟩
    · show (e0 ++ [some (ob (pinV x) C [])]).length ≤ (σ.take e0.length ++ [some (V.ref x)]).length
      simp [hlen]
    · by_cases hi : i < e0.length
      · rw [show e2[i]? = e0[i]? from List.getElem?_append_left hi] at ee
        obtain ⟨v, f1, f2⟩ := g.env.2 i S' ee
        refine ⟨v, by rw [σold i hi]; exact f1, SP.step uu f2 (fun b => Ow.put_ne (by intro z; injection z with z; omega) N b) fun b eb => ⟨fun z => z, (g.own b _ eb).2.1⟩⟩
      · have hi2 : i = e0.length := by
          have := (List.getElem?_eq_some_iff.mp ee).1
          have : i < e0.length + 1 := by simpa [e2] using this
          omega
        subst hi2
        have : e2[e0.length]? = some (some (ob (pinV x) C [])) := by
          show (e0 ++ [some (ob (pinV x) C [])])[e0.length]? = _
          rw [List.getElem?_append_right (Nat.le_refl _)]
          simp
        rw [this] at ee
        cases ee
        exact ⟨_, σlast, by rw [Ow.put_of]; exact slot⟩
    · exact g.st.step uu fun i hi b => ⟨Ow.put_ne (by intro z; cases z) N b, fun eb => ⟨fun z => z, (g.own b _ eb).2.1⟩⟩
  have e2l : e2[e0.length]? = some (some (ob (pinV x) C [])) := by
    show (e0 ++ [some (ob (pinV x) C [])])[e0.length]? = _
    rw [List.getElem?_append_right (Nat.le_refl _)]
    simp
  -- back: the first names
  have cut : ∀ {e : En} {o : Option SP} {st' : List SP} {vs' : List V} {H' F' : Hp} {w' : Ow}, e.length = e0.length → GG E (e ++ [o]) st' σ2 vs' H' F' w' → GG E e st' σ vs' H' F' w' := fun {e o st' vs' H' F' w'} he g' => g'.re (fun a l e => ⟨l, e⟩) ⟨by rw [he]; exact g.env.1, fun i S' ee => by
    have hi' : i < e.length := (List.getElem?_eq_some_iff.mp ee).1
    have hi : i < e0.length := by omega
    obtain ⟨v, f1, f2⟩ := g'.env.2 i S' (by rw [List.getElem?_append_left hi']; exact ee)
    exact ⟨v, by rw [← σold i hi]; exact f1, f2⟩⟩ g'.st
  have sets : ∀ B : List (Option SP), setL e2 (⟨e0.length, 0, ob (pinV x) C [], ob (pinV x) C [], .ref x, id⟩ :: L0) B = setL e0 L0 B ++ [getB B 0] := fun B => by
    have h1 : setL e2 (⟨e0.length, 0, ob (pinV x) C [], ob (pinV x) C [], .ref x, id⟩ :: L0) B = setL ((e0 ++ [some (ob (pinV x) C [])]).set e0.length ((getB B 0).map id)) L0 B := rfl
    rw [h1, List.set_append_right _ _ (Nat.le_refl _)]
    simp only [Nat.sub_self, List.set_cons_zero, Option.map_id, id_eq]
    exact setL_snoc L0 e0 _ B hi0
  refine call_go (env := e2) (L := ⟨e0.length, 0, ob (pinV x) C [], ob (pinV x) C [], .ref x, id⟩ :: L0) (M := M) (Ss := (isVP (.ref x)).sp :: Ss) (us := us ++ [.ref x]) (σ := σ2) (st := st) (vs := vs) (by simpa using mt) (fun n' hn => ?_) hL2 (by simp [hl]) ⟨F, _, by simpa using g2⟩ (wp_mono (hw _ _ hm) (fun r k v H' g' => ?_) fun y k c d H' F' w' g' z => ?_)
  · have hrev : ((isVP (.ref x)).sp :: Ss).reverse = Ss.reverse ++ [(isVP (.ref x)).sp] := by simp
    rw [hrev]
    rcases List.mem_cons.mp hn with e | hn
    · rw [e]
      refine ⟨n, rfl, ?_⟩
      have : Ss.length = n := h.len
      subst this
      rw [List.getElem?_append_right (by simp)]
      simp
    · exact hb0 n' hn
  · obtain ⟨S1, hB, hS1⟩ := hS r
    rw [sets, hB] at g'
    obtain ⟨F3, w3, g3⟩ := g'
    have ev : v = .non := g3.st.1
    refine ⟨ev, ?_⟩
    have hl0 : (setL e0 L0 (Bs a r)).length = e0.length := setL_len _ _ _
    have hlast : (setL e0 L0 (Bs a r) ++ [some S1])[e0.length]? = some (some S1) := by
      rw [List.getElem?_append_right (by omega)]
      simp [hl0]
    obtain ⟨v4, w4, e4, g4⟩ := g3.pop.move hlast
    rw [σlast] at e4
    cases e4
    have g5 : GG E (setL e0 L0 (Bs a r) ++ [none]) (S1 :: st) σ2 (.ref x :: vs) H' F3 w4 := by
      have : (setL e0 L0 (Bs a r) ++ [some S1]).set e0.length none = setL e0 L0 (Bs a r) ++ [none] := by
        rw [List.set_append_right _ _ (by omega)]
        simp [hl0]
      rw [this] at g4
      exact g4
    have g6 := cut hl0 g5
    obtain ⟨F7, w7, g7⟩ := G.fgt ⟨F3, w4, g6⟩ (hF r)
    exact hq _ k _ H' ⟨F7, w7, g7.re (fun a l e => ⟨l, e⟩) g7.env ⟨hS1 _ _ _ _ g7.st.1, g7.st.2⟩⟩
  · rw [sets] at g'
    have g6 := cut (setL_len _ _ _) g'
    exact k c d H' F' _ (g6.re (fun a l e => ⟨l, e⟩) ⟨Nat.le_trans (hG y).1 g6.env.1, fun i S e => by
      obtain ⟨S0, e0, kk⟩ := (hG y).2 i S e
      obtain ⟨v, e1, e2⟩ := g6.env.2 i S0 e0
      exact ⟨v, e1, kk _ _ _ _ e2⟩⟩ g6.st) (hX y c d F' z)
theorem ex_makeL {A : Type} {mg : Str → Option Value} {C : Addr} {As : A → List SP} {f : A → R ε' ρ} {Bs : A → ρ → List (Option SP)} {ex : ε' → Exn} {Xs : A → ε' → List (Option SP)} {S : δ → SP} {e' : δ → En} {tA : TA} {m : R ε δ} {dvs : List V} (src : List Src) (n : Nat)
    (hsel : ∀ (us : List V) (x : V), us.length = n → x :: (us ++ dvs) = (Src.arg n :: src).map (Src.sel (us ++ [x]))) (h : AX X E env tA [] m (MakeOkL X mg C As f Bs ex Xs src n S e')) : EX X E env (tMakeS C (spX mg As f (fun _ _ => val tNon ()) Bs ex Xs) dvs (WE X.W) tA) m S e' := by
  intro st vs σ H Q gg hm
  refine h st vs [] σ H _ _ gg rfl hm fun us H' Ss e m' c hl g hm' => ?_
  rw [List.append_nil] at g
  rw [List.nil_append] at hl
  intro x dx nx nd hne
  rw [hsel us (.ref x) (by rw [← hl, c.len])]
  exact c.sp hl.symm g hm' (fun x k => k) nx nd hne
theorem ex_makeKL {A : Type} {mg : Str → Option Value} {C : Addr} {As : A → List SP} {f : A → R ε' ρ} {Bs : A → ρ → List (Option SP)} {ex : ε' → Exn} {Xs : A → ε' → List (Option SP)} {S : δ → SP} {e' : δ → En} {tA tk : TA} {m : R ε δ} {gV : List V → List V → List V} {n l : Nat} (src : List Src)
    (hsel : ∀ (us zs : List V) (x : V), us.length = n → zs.length = l → gV (x :: us) zs = (Src.arg (n + l) :: src).map (Src.sel (us ++ zs ++ [x]))) (h : AXK n X E env tA tk [] m (MakeOkL X mg C As f Bs ex Xs src (n + l) S e')) : EX X E env (tMakeNS C n l (spX mg As f (fun _ _ => val tNon ()) Bs ex Xs) gV (WE X.W) tA tk) m S e' := by
  intro st vs σ H Q gg hm
  refine h st vs [] σ H _ _ gg rfl hm fun us zs H' Ss e m' hn c hl g hm' => ?_
  simp at hl
  have hz : zs.length = l := by have := c.len; omega
  refine ⟨hn, hz, fun x dx nx nd hne => ?_⟩
  rw [hsel us zs (.ref x) hn hz]
  exact c.sp (us := us ++ zs) (by simp; omega) (by simpa using g) hm' (fun x k => k) nx nd hne
end
end NL

set_option Elab.async false
set_option linter.all false
set_option maxRecDepth 100000
set_option maxHeartbeats 4000000
/-! NL: the keys of a dict in order -/
namespace NL
open PySem PySem.Spec PyProof.Rows L2 ML
section
variable {α : Type}
def rSortedDI : List V → Hp → VK → Prop := fun xs H Q => ∃ (a : Addr) (kvs : List (Key × V)) (ks : List Int), xs = [.ref a] ∧ Rd H a (.dK kvs) ∧ kvs.map (·.1) = ks.map Sum.inl ∧ ks.length < 64 ∧
    ∀ (ys : List Int) (p : Addr), ys.Perm ks → ys.Pairwise (· ≤ ·) → H p = none → Q (.ref p) (upd H p (.lst (ys.map V.int)))
theorem cr_sortedDI {X : Cx} (hc : X.calm = true) : CallR X (.builtin "sorted") rSortedDI := call_sortedDI hc
theorem o1_sortedD {T : Ty α} {xs : List (Int × α)} : O1 (fun v H Q => rSortedDI [v] H Q) (val (tD kInt T) xs) (if xs.length < 64 then some (sortI (xs.map (·.1))) else none) (own tInt) := by
  intro E env st σ vs H Q va c ⟨F, w, g⟩ hm hq
  split at hm
  · rename_i hl
    cases hm
    obtain ⟨a, us, e, h, p⟩ := g.top
    refine ⟨a, us, xs.map (·.1), by rw [e], .inl (g.ext.s _ _ h), keys_of p, by simpa using hl, fun ns' p' hp hs hn => ?_⟩
    rw [sortI_unique hp hs]
    exact hq _ _ ⟨F, _, g.pop.pushO hn ⟨p', _, rfl, trivial, fun b => Iff.rfl, upd_same, ints_paired⟩⟩
  · cases hm
theorem pe_fldK {X : Cx} {K : PySem.W.Frag} {e : Expr} {f : Str} {pos : Pos} {ta : TE} (h : X.K = K) (he : PE X e ta) (hb : attributeBase e f X.env (eval e X.env) = eval e X.env) : PE X (.Attribute e f pos) (tFld K ta f) := h ▸ pe_fld he hb
end
end NL

set_option Elab.async false
set_option linter.all false
set_option maxRecDepth 100000
set_option maxHeartbeats 4000000
/-! NL: tuples of several kinds, compared -/
namespace NL
open PySem PySem.Spec PyProof.Rows L2 ML
section
variable {α β : Type}
structure DV {α : Type} (K : PySem.W.Frag) (view : α → List VP) [DecidableEq α] where
  dat : α → List PyData
  dp : ∀ {F H : Hp} {vs : List V} {x : α}, Same F H → VPs F (view x) vs → DpAll K H vs (dat x)
  dep : Nat
  depth : ∀ x, PyData.depthAll (dat x) ≤ dep
  lay : α → Bool
  can : ∀ x, lay x = true → PyData.canLayAll0 (dat x) = true
  eqv : ∀ x y, PyData.eqvAll (dat x) (dat y) = decide (x = y)
def dv1 {K : PySem.W.Frag} {T : Ty α} [DecidableEq α] (D : DT K T) : DV K (fun x : α => [vp T x]) := ⟨fun x => [D.dat x], fun {F H vs x} s h => by
    match vs, h with
    | [v], ⟨h, _⟩ => exact .cons (D.dp s h) .nil
    | [], h => exact h.elim
    | _ :: _ :: _, h => exact h.2.elim, D.dep, fun x => by have := D.depth x; simp only [PyData.depthAll]; omega, D.lay, fun x h => by simp only [PyData.canLayAll0, D.can x h, Bool.and_true], fun x y => by simp only [PyData.eqvAll, D.eqv, Bool.and_true]⟩
def dvc {K : PySem.W.Frag} {T : Ty α} [DecidableEq α] [DecidableEq β] {view : β → List VP} (D : DT K T) (R : DV K view) : DV K (fun p : α × β => vp T p.1 :: view p.2) := ⟨fun p => D.dat p.1 :: R.dat p.2, fun {F H vs x} s h => by
    match vs, h with
    | v :: vs, h => exact .cons (D.dp s h.1) (R.dp s h.2)
    | [], h => exact h.elim, max D.dep R.dep, fun p => by have h1 := D.depth p.1; have h2 := R.depth p.2; simp only [PyData.depthAll]; omega, fun p => D.lay p.1 && R.lay p.2, fun p h => by
    rw [Bool.and_eq_true] at h
    simp only [PyData.canLayAll0, D.can _ h.1, R.can _ h.2]; rfl, fun p q => by
    obtain ⟨a, b⟩ := p
    obtain ⟨c, d⟩ := q
    simp only [PyData.eqvAll, D.eqv, R.eqv, Prod.mk.injEq]
    by_cases h1 : a = c
    · by_cases h2 : b = d
      · simp [h1, h2]
      · simp [h1, h2]
    · simp [h1]⟩
def dT {K : PySem.W.Frag} [DecidableEq α] {view : α → List VP} (R : DV K view) : DT K (tT view) := ⟨fun x => .tuple (R.dat x), fun s ⟨a, vs, e, h, p⟩ => by
    rw [e]; exact .tup (.of (s _ _ h)) (R.dp s p), R.dep + 1, fun x => by have h1 := R.depth x; simp only [PyData.depth]; omega, R.lay, fun x h => by
    simp only [PyData.canLay0]; exact R.can _ h, fun x y => by simp only [PyData.eqv]; exact R.eqv x y⟩
theorem lay_v1 {K : PySem.W.Frag} {T : Ty α} [DecidableEq α] {D : DT K T} (h : ∀ x, D.lay x = true) : ∀ x, (dv1 D).lay x = true := h
theorem lay_vc {K : PySem.W.Frag} {T : Ty α} [DecidableEq α] [DecidableEq β] {view : β → List VP} {D : DT K T} {R : DV K view} (h : ∀ x, D.lay x = true) (h2 : ∀ x, R.lay x = true) : ∀ x, (dvc D R).lay x = true := fun x => by
  show (D.lay x.1 && R.lay x.2) = true
  rw [h, h2]; rfl
theorem ex_get2 {κ ε : Type} [DecidableEq κ] {X : Xc ε} {E : Ent} {env : En} {td ty tx : TE} {kt : KeyT κ} {T : Ty α} {md : R ε (List (κ × α))} {mk : R ε κ} {mx : R ε α} (hd : EV X E env td md (val (tD kt T))) (hk : EV X E env ty mk (val kt.T)) (hx : EV X E env tx mx (val T)) : EV X E env (tDGet2 td ty tx) (md.bind fun d => mk.bind fun k => mx.bind fun x => .ok ((lookX d k).getD x)) (val T) := by
  intro st vs σ H Q g hm
  rw [wp_bind] at hm
  refine hd st vs σ H _ g (wp_mono hm (fun d hm v H1 g1 => ?_) fun e h => h)
  obtain ⟨F, w, gg⟩ := g1
  obtain ⟨a, us, e, h, p⟩ := gg.top
  refine ⟨a, e, .inl ⟨us, .inl (gg.ext.s _ _ h)⟩, ?_⟩
  rw [wp_bind] at hm
  refine hk _ _ σ H1 _ ⟨F, w, gg⟩ (wp_mono hm (fun k hm vk H2 g2 => ?_) xcl_push)
  rw [wp_bind] at hm
  refine hx _ _ σ H2 _ g2 (wp_mono hm (fun x hm vx H3 g3 => ?_) fun e h => xcl_push _ (xcl_push _ h))
  obtain ⟨F3, w3, gg3⟩ := g3
  obtain ⟨a3, us3, e3, h3, p3⟩ := gg3.pop.pop.top
  have hkk := kt.val F3 vk k gg3.pop.top
  subst hkk
  rw [e] at e3
  cases e3
  have hdg := DGet.k (k := kt.f k) (gg3.ext.s _ _ h3)
  rcases pk_look p3 k with ⟨e1, e2⟩ | ⟨y, vy, e1, e2, r⟩
  · rw [e2] at hdg
    refine ⟨none, hdg, hm vx H3 ⟨F3, w3, ?_⟩⟩
    rw [e1]
    exact gg3.pop.pop.pop.pushV gg3.top
  · rw [e2] at hdg
    refine ⟨some vy, hdg, hm vy H3 ⟨F3, w3, ?_⟩⟩
    rw [e1]
    exact gg3.pop.pop.pop.pushV r
def rAddS : V → V → Hp → VK → Prop := fun x y H Q => ∃ i j, x = .str i ∧ y = .str j ∧ i.length + j.length ≤ sizeLine ∧ Q (.str (i ++ j)) H
theorem op_addS {X : Cx} : OpR X (binaryOp .Add) rAddS := op_add_str
theorem o2_addS {a b : Str} : O2 rAddS (val tStr a) (val tStr b) (grd (a.length + b.length ≤ 16777216) (some (a ++ b))) (val tStr) := o2_mk fun c hm F H Q va vb s ha hb hq => by
  obtain ⟨hl, hm⟩ := grd_some hm
  cases hm
  exact ⟨a, b, ha, hb, by rw [sizeLine_eq]; exact hl, hq _ rfl⟩
theorem fz_weak {S S' : SP} {q : VP} (k : ∀ F H o v, S.ok F H o v → S'.ok F H o v) (z : Fz S' q) : Fz S q := fun F H o v h => z F H o v (k F H o v h)
theorem lay_T {K : PySem.W.Frag} [DecidableEq α] {view : α → List VP} {R : DV K view} (h : ∀ x, R.lay x = true) : ∀ x, (dT R).lay x = true := h
end
end NL

set_option Elab.async false
set_option linter.all false
set_option maxRecDepth 100000
set_option maxHeartbeats 4000000
/-! NL: values of several kinds; dict displays -/
namespace NL
open PySem PySem.Spec PyProof.Rows L2 ML
section
variable {κ : Type} [DecidableEq κ] {ε α β γ δ τ : Type} {X : Xc ε} {E : Ent} {env : En} {te ta tb tv to ti : TE} {u : TS} {post : Post γ}
theorem ex_asp {x : α} {f : α → β} {S : α → SP} {S' : β → SP} (h : EV X E env te (.ok x) S) (k : ∀ x F H o v, (S x).ok F H o v → (S' (f x)).ok F H o v) : EV X E env te (.ok (f x)) S' := ex_as (f := f) h k
theorem ex_pj {T : Ty α} {U : Ty β} {g : α → Option β} {m : R ε α} (h : EV X E env te m (val T)) (k : ∀ F v x y, g x = some y → T.rp F v x → U.rp F v y) : EV X E env te (m.bind fun a => R.of (g a)) (val U) := by
  intro st vs σ H Q gg hm
  rw [wp_bind] at hm
  refine h st vs σ H Q gg (wp_mono hm (fun y hm v H' ⟨F, w, g'⟩ => ?_) fun e h => h)
  obtain ⟨x, ex, hq⟩ := wp_of hm
  exact hq v H' ⟨F, w, g'.pop.pushV (k F v y x ex g'.top)⟩
theorem ex_pjp {T : Ty α} {U : Ty β} {g : α → Option β} {x : α} (h : EV X E env te (.ok x) (val T)) (k : ∀ F v x y, g x = some y → T.rp F v x → U.rp F v y) : EV X E env te (R.of (g x)) (val U) := ex_pj h k
/-- the top's own thing changes -/
theorem GG.chgTop {S B : SP} {st : List SP} {σ : L2.St} {v : V} {vs : List V} {H F : Hp} {w : Ow} {a : Addr} {o : HO} (g : GG E env (S :: st) σ (v :: vs) H F w) (oa : w a = some (.s st.length)) (hB : B.ok F (upd H a o) (w.of (.s st.length)) v) : GG E env (B :: st) σ (v :: vs) (upd H a o) F w := by
  obtain ⟨q1, q2, q3⟩ := g.own a _ oa
  have u := Ext.chg (o := o) g.ext.s q1
  have hne : ∀ (b : Addr) (l : Lb), w b = some l → l ≠ .s st.length → ¬ b = a := fun b l e hl z => by
    rw [z, oa] at e
    exact hl (Option.some.inj e).symm
  refine g.step u (fun b hb => ⟨.s st.length, (by have hb : b = a := hb; rw [hb]; exact oa)⟩) (fun b l e => .inl ⟨l, e⟩)
    (g.env.step u fun i S _ b => ⟨Iff.rfl, fun e => ⟨hne b _ e (by intro z; cases z), (g.own b _ e).2.1⟩⟩)
    ⟨hB, g.st.2.step u fun k hk b => ⟨Iff.rfl, fun e => ⟨hne b _ e (by intro z; cases z; omega), (g.own b _ e).2.1⟩⟩⟩
/-- the pairs of a display, their keys written texts -/
abbrev PrD (T : Ty α) (F : Hp) : V × V → Str × α → Prop := fun p x => p.1 = .str x.1 ∧ T.rp F p.2 x.2
def PX {ε α : Type} (X : Xc ε) (E : Ent) (env : En) (T : Ty α) (trs : List (TE × TE)) (m : R ε (List (Str × α))) : Prop :=
  ∀ (st : List SP) (vs : List V) (σ : L2.St) (H : Hp) (Q : List (V × V) → Hp → Prop), G E env st σ vs H → wp m (fun ps => ∀ us H' F w, GG E env st σ vs H' F w → us.length = trs.length → Paired (PrD T F) us ps → Q us H') (xcl X E st vs σ) → tPairs trs σ H Q
theorem px_nil {T : Ty α} : PX X E env T [] (.ok []) := fun st vs σ H Q ⟨F, w, g⟩ hm => hm [] H F w g rfl .nil
theorem px_cons {T : Ty α} {k : Str} {trs : List (TE × TE)} {mv : R ε α} {mr : R ε (List (Str × α))} (hv : EV X E env tv mv (val T)) (hr : PX X E env T trs mr) : PX X E env T ((tC (.str k), tv) :: trs) (mv.bind fun v => mr.bind fun r => .ok ((k, v) :: r)) := by
  intro st vs σ H Q g hm
  show tv σ H _
  rw [wp_bind] at hm
  refine hv st vs σ H _ g (wp_mono hm (fun x hm v H1 g1 => ?_) fun e h => h)
  rw [wp_bind] at hm
  refine hr _ _ σ H1 _ g1 (wp_mono hm (fun ps hm us H' F w g2 hl p => ?_) xcl_push)
  exact hm ((.str k, v) :: us) H' F w g2.pop (by rw [List.length_cons, List.length_cons, hl]) (.cons ⟨rfl, g2.top⟩ p)
def mergeP (ps : List (Str × α)) : List (Str × α) := ps.foldl (fun acc p => putX acc p.1 p.2) []
theorem prd_keys {T : Ty α} {F : Hp} : ∀ {us : List (V × V)} {ps : List (Str × α)}, Paired (PrD T F) us ps → ∃ kvs : List (Key × V), us = kvs.map (fun kv => (kV kv.1, kv.2)) ∧ kvs.length = us.length ∧ Paired (PK kStr T F) kvs ps
  | _, _, .nil => ⟨[], rfl, rfl, .nil⟩
  | (a, b) :: us, (k, x) :: ps, .cons h t => by
    obtain ⟨kvs, e, l, p⟩ := prd_keys t
    refine ⟨(kStr.f k, b) :: kvs, ?_, by rw [List.length_cons, List.length_cons, l], .cons ⟨rfl, h.2⟩ p⟩
    rw [List.map_cons, ← e]
    have h1 : a = .str k := h.1
    rw [h1]; rfl
theorem merge_pk {T : Ty α} {F : Hp} : ∀ {kvs : List (Key × V)} {ps : List (Str × α)} {us : List (Key × V)} {xs : List (Str × α)}, Paired (PK kStr T F) kvs ps → Paired (PK kStr T F) us xs → Paired (PK kStr T F) (kvs.foldl (fun acc kv => putK acc kv.1 kv.2) us) (ps.foldl (fun acc p => putX acc p.1 p.2) xs)
  | _, _, us, xs, .nil, p => p
  | (a, b) :: kvs, (k, x) :: ps, us, xs, .cons h t, p => by
    rw [List.foldl_cons, List.foldl_cons]
    refine merge_pk t ?_
    have h1 : a = kStr.f k := h.1
    rw [h1]
    exact pk_put p k h.2
theorem ex_disp {T : Ty α} {trs : List (TE × TE)} {m : R ε (List (Str × α))} (h : PX X E env T trs m) (h15 : trs.length ≤ 15) : EV X E env (tDisp trs) (m.bind fun ps => .ok (mergeP ps)) (ownD kStr T) := by
  intro st vs σ H Q ⟨F, w, g⟩ hm a ha
  have g1 : GG E env (ownD kStr T [] :: st) σ (.ref a :: vs) (upd H a (.dK [])) F _ := g.pushO ha ⟨a, [], rfl, trivial, fun b => Iff.rfl, upd_same, .nil⟩
  rw [wp_bind] at hm
  refine h _ _ σ _ _ ⟨F, _, g1⟩ (wp_mono hm (fun ps hm us H' F' w' g2 hl p => ?_) xcl_push)
  obtain ⟨a', us0, e, _, ho, hh, p0⟩ := g2.st.1
  cases e
  cases p0
  obtain ⟨kvs, e1, e2, p1⟩ := prd_keys p
  refine ⟨hh, kvs, e1, by rw [e2, hl]; exact h15, ?_⟩
  refine hm _ _ ⟨F', w', NL.GG.chgTop g2 ((ho a).mpr rfl) ⟨a, _, rfl, trivial, ho, upd_same, merge_pk p1 .nil⟩⟩

/-! what a value of several kinds is asked -/
theorem o1_no {r : V → Hp → VK → Prop} {S : SP} {S' : β → SP} : O1 r S (none : Option β) S' := by
  intro E env st σ vs H Q va c g hm hq
  cases hm
theorem o1_intY {T : Ty α} {x : α} {mo : Option Int} (k : ∀ F v c, mo = some c → T.rp F v x → v = .int c ∨ ∃ b, v = .bl b ∧ c = if b then 1 else 0) : O1 (fun v H Q => (∃ i, [v] = [V.int i] ∧ Q (.int i) H) ∨ ∃ k, [v] = [V.bl k] ∧ Q (.int (if k then 1 else 0)) H) (val T x) mo (val tInt) := o1_mk fun c hm F H Q va s ha hq => by
  rcases k F va c hm ha with e | ⟨b, e, e2⟩
  · exact .inl ⟨c, by rw [e], hq _ rfl⟩
  · exact .inr ⟨b, by rw [e], by rw [← e2]; exact hq _ rfl⟩
theorem o1_lenY {K : PySem.W.Frag} {T : Ty α} {x : α} {mo : Option Int} (k : ∀ F v c, mo = some c → T.rp F v x → ∃ a vs, v = .ref a ∧ F a = some (.lst vs) ∧ (vs.length : Int) = c) : O1 (fun v H Q => ∃ p ys, [v] = [V.ref p] ∧ (SqL K H p ys ∨ SqT K H p ys) ∧ Q (.int ys.length) H) (val T x) mo (val tInt) := o1_mk fun c hm F H Q va s ha hq => by
  obtain ⟨a, vs, e, h, hl⟩ := k F va c hm ha
  exact ⟨a, vs, by rw [e], .inl (.of (s _ _ h)), hq _ (by show V.int _ = V.int _; rw [hl])⟩
theorem o2_isNX {T : Ty α} {x : α} {b : Bool} (k : ∀ F v, T.rp F v x → decide (v = .non) = b) : O2 (fun x y H Q => y = .non ∧ Q (.bl (decide (x = .non))) H) (val T x) (val tNon ()) (some b) (val tBool) := o2_mk fun c hm F H Q va vb s ha hb hq => by
  cases hm
  exact ⟨hb, hq _ (by rw [k F va ha]; rfl)⟩
theorem o2_notNX {T : Ty α} {x : α} {b : Bool} (k : ∀ F v, T.rp F v x → decide (v = .non) = b) : O2 (fun x y H Q => y = .non ∧ Q (.bl (!decide (x = .non))) H) (val T x) (val tNon ()) (some (!b)) (val tBool) := o2_mk fun c hm F H Q va vb s ha hb hq => by
  cases hm
  exact ⟨hb, hq _ (by rw [k F va ha]; rfl)⟩
theorem o2_isY {K : PySem.W.Frag} {T : Ty α} {x : α} {n : String} {b : Bool} (k : ∀ F v, T.rp F v x → ∃ a, TyX K F v (.type a) ∧ kitB a n = some b) : O2 (fun v u H Q => rIsi K [v, u] H Q) (val T x) (val tCls n) (some b) (val tBool) := o2_mk fun c hc F H Q va vb s ha hb hq => by
  cases hc
  obtain ⟨a, h1, h2⟩ := k F va ha
  refine ⟨va, vb, .type a, .type n, b, rfl, ?_, isi_mono s h1, kit_ty h2, hq _ rfl⟩
  rw [show vb = V.ty n from hb]
  exact .ty n
/-- xs * k -/
theorem o2_rep {T : Ty α} {xs : List α} {k : Int} : O2 rRep (val (tL T) xs) (val tInt k) (grd (-(2 ^ 63) ≤ k ∧ k < 2 ^ 63 ∧ xs.length * k.toNat ≤ 16777216) (some (List.replicate k.toNat xs).flatten)) (own T) := by
  intro E env st σ vs H Q va vb c ⟨F, w, g⟩ hm hq
  obtain ⟨⟨h1, h2, h3⟩, hm⟩ := grd_some hm
  cases hm
  have hk : vb = .int k := g.top
  obtain ⟨a, us, ea, ha, pa⟩ := g.pop.top
  refine ⟨a, k, us, ea, hk, g.ext.s _ _ ha, h1, h2, by rw [pa.length, sizeLine_eq]; exact h3, fun p hp => hq _ _ ⟨F, _, g.pop.pop.pushO hp ⟨p, _, rfl, trivial, fun b => Iff.rfl, upd_same, ?_⟩⟩⟩
  generalize k.toNat = n
  induction n with
  | zero => exact .nil
  | succ n ih => rw [List.replicate_succ, List.flatten_cons, List.replicate_succ, List.flatten_cons]; exact ML.Paired.app pa ih
end
end NL

set_option Elab.async false
set_option linter.all false
set_option maxRecDepth 100000
set_option maxHeartbeats 4000000
/-! NL: pairs that may be None, compared; own things compared with numbers -/
namespace NL
open PySem PySem.Spec PyProof.Rows L2 ML
section
variable {α β : Type}
theorem eqv_np {K : PySem.W.Frag} {T : Ty α} {U : Ty β} [DecidableEq α] [DecidableEq β] (D : DT K T) (C : DT K U) : ∀ x, PyData.eqv .none ((dP D C).dat x) = false := fun x => by simp [dP, PyData.eqv]
theorem eqv_pn {K : PySem.W.Frag} {T : Ty α} {U : Ty β} [DecidableEq α] [DecidableEq β] (D : DT K T) (C : DT K U) : ∀ x, PyData.eqv ((dP D C).dat x) .none = false := fun x => by simp [dP, PyData.eqv]
def dOP {K : PySem.W.Frag} {T : Ty α} {U : Ty β} [DecidableEq α] [DecidableEq β] (D : DT K T) (C : DT K U) : DT K (tOpt (tP T U)) := dOpt (dP D C) (eqv_np D C) (eqv_pn D C)
theorem lay_OP {K : PySem.W.Frag} {T : Ty α} {U : Ty β} [DecidableEq α] [DecidableEq β] {D : DT K T} {C : DT K U} (h : ∀ x, D.lay x = true) (h2 : ∀ x, C.lay x = true) : ∀ x, (dOP D C).lay x = true := lay_O (lay_P h h2)
end

/-! own == int -/
def InsI (C : Addr) (sp : Sp) : Prop := ∀ vs H Q W, sp vs H Q W → ∃ a i dx fs, vs = [.ref a, .int i] ∧ H a = some (.ins C dx fs)
section
variable {X : Cx} {k : Nat} {C f : Addr} {fd : FuncData} {ps : List Str} {sp : Sp}
theorem own_callI (F : FnOk X.prog X.w X.K X.mg X.base (L2.CX X.prog X.w) k f fd ps sp) (hb : Binds X.K fd ps []) {A : Around} (hr : Room k A) (hfr : A.frames = X.A.frames) {pins : List (Addr × Obj)} {s : Shared} {σ : L2.St} {H : Hp} {a : Addr} {i : Int} {u : Value} (I : L2.Inv X pins σ H s) (hu : RelV (.int i) u) {Q : VK}
    (hsp : sp [.ref a, .int i] H Q fun _ _ _ => False) : wpAny (model X.prog X.w) A (call (.ref f) [.ref a, u]) (EP X pins σ Q) X.xe s := by
  have e0 : Env0 X.prog X.w X.K X.mg X.base A X.stack s H := by
    have e := I.env0
    exact ⟨by rw [hfr]; exact e.frames, e.mod, e.bs, e.bsz, e.funs, e.frf, e.hok, e.bare⟩
  have hl := F.len _ _ _ _ hsp
  have r2 : Vals [V.ref a, V.int i] [Value.ref a, u] := .cons rfl (.cons hu .nil)
  refine wpAny_call (codeAny_mono (F.run A X.stack s H ⟨[.ref a, u], []⟩ [.ref a, u] [.ref a, .int i] _ (fun _ _ _ => False) hr e0 (by
    have := hb s [.ref a, u] I.kIn (by simpa using hl)
    simpa using this) r2 hsp) fun r s' hq => ?_)
  cases r with
  | error e => exact passAt (W := fun _ _ _ _ => False) takesF σ pins H s e s' I hq
  | ok fl =>
    cases fl with
    | ret w =>
      obtain ⟨z, H', I', rz, ez⟩ := I.after hq
      exact ⟨z, H', I', rz, ez⟩
    | next => exact False.elim hq
    | brk => exact False.elim hq
    | cont => exact False.elim hq
theorem op_eqXI {ds : List Value} (F : FnOk X.prog X.w X.K X.mg X.base (L2.CX X.prog X.w) k f fd ps sp) (hr : Room k X.A) (e : EqOf X.K C f) (ni : PySem.W.notFirst X.K C (.type "int") = true) (hi : InsI C sp) (hd : Vals [] ds) (hb : Binds X.K fd ps ds) : OpR X (compareOp .Eq) (rEqX id sp) := by
  cases hd
  intro pins s σ H x y v u Q I rx ry hq
  obtain ⟨a, i, dx, fs, e1, ha⟩ := hi _ _ _ _ hq
  cases e1
  cases rx
  have hu0 : ∃ t, u = Value.int i t := ry
  obtain ⟨t, hu⟩ := hu0
  obtain ⟨mA, J, _⟩ := ins_get I.hok ha
  obtain ⟨od, J, _⟩ := J.look
  obtain ⟨m, hF⟩ := I.fr
  show wpAny (model X.prog X.w) X.A (richCompare .Eq (.ref a) u) (EP X pins σ Q) X.xe s
  refine PySem.W.cmp_K (op := .Eq) (tb := .type "int") hr.units0 hF I.ok.mod.kin J (by rw [hu]; exact .now) ni e.eq e.fn ?_
  refine wpAny_mono (own_callI F hb hr rfl I ry hq) (fun r s' z => ?_) fun _ _ x => x
  obtain ⟨z, H', I', rz, r, rfl, q⟩ := z
  cases rz
  exact ⟨.bl r, H', I', rfl, q⟩
end
section
variable {α β γ δ ε ε' : Type} {X : Xc ε} {E : Ent} {env : En} {te ta tb : TE} {u : TS} {post : Post γ}
theorem ins_XI {ρ : Type} {mg : Str → Option Value} {C : Addr} {view : α → List (Str × VP)} {f : α × Int → R ε' ρ} {Rr : α × Int → ρ → SP} {Bs : α × Int → ρ → List (Option SP)} {ex : ε' → Exn} {Xs : α × Int → ε' → List (Option SP)} : InsI C (spX mg (fun a : α × Int => [val (tI C view) a.1, val tInt a.2]) f Rr Bs ex Xs) := fun vs H Q W h => by
  obtain ⟨a, F, w, p, _⟩ := h
  obtain ⟨v1, e1, a1, d1, w1, q1, h1, _⟩ := p.ok 0 _ rfl
  obtain ⟨v2, e2, q2⟩ := p.ok 1 _ rfl
  have hl := p.len
  subst q1
  have q2 : v2 = .int a.2 := q2
  subst q2
  match vs, hl, e1, e2 with
  | [x, y], _, e1, e2 =>
    cases e1
    cases e2
    exact ⟨a1, a.2, d1, w1, rfl, p.s _ _ h1⟩
theorem ex_eqX2 {mg : Str → Option Value} {T : Ty α} {U : Ty β} {f : α × β → R Empty Bool} {ex : Empty → Exn} {Xs : α × β → Empty → List (Option SP)} (neg : Bool → Bool) {ma : R ε α} {mb : R ε β} (ha : EV X E env ta ma (val T)) (hb : EV X E env tb mb (val U)) :
    EV X E env (tOp (rEqX neg (spX mg (fun a : α × β => [val T a.1, val U a.2]) f (fun _ r => val tBool r) (fun _ _ => []) ex Xs)) ta tb) (ma.bind fun a => mb.bind fun b => (R.mapE Empty.elim (f (a, b))).bind fun r => .ok (neg r)) (val tBool) := by
  intro st vs σ H Q g hm
  rw [wp_bind] at hm
  refine ha st vs σ H _ g (wp_mono hm (fun a hm v H1 g1 => ?_) fun e h => h)
  rw [wp_bind] at hm
  refine hb _ _ σ H1 _ g1 (wp_mono hm (fun b hm u H2 g2 => ?_) fun e h => xcl_push e h)
  rw [wp_bind, wp_mapE] at hm
  have c : CallOk (Xc.nv Empty) mg (fun a : α × β => [val T a.1, val U a.2]) f (fun _ r => val tBool r) (fun _ _ => []) ex Xs [.arg 0, .arg 1] 2 (fun x => val tBool x) (fun _ => env) (f (a, b)) [val U b, val T a] env :=
    ⟨rfl, (a, b), [], [], id, id, lok00, ⟨.inl ⟨_, rfl, rfl⟩, .inl ⟨_, rfl, rfl⟩, trivial⟩, (fun n hn => nomatch hn), wc_id, (fun _ _ _ _ _ h => h), (fun _ => ⟨Nat.le_refl _, fun i S e => ⟨S, e, fun _ _ _ _ h => h⟩⟩), (fun e => e.elim), fun e => e.elim⟩
  have := c.sp (us := [v, u]) (st := st) (vs := vs) (σ := σ) (H := H2) (E := E) (Q := fun v H' => ∃ r, v = .bl r ∧ Q (.bl (neg r)) H') (Φ := fun r => ∀ v H', G E env (val tBool r :: st) σ (v :: vs) H' → ∃ r, v = .bl r ∧ Q (.bl (neg r)) H') rfl g2 (wp_mono hm (fun r hq v H' ⟨F, w, g'⟩ => ⟨r, g'.top, hq _ _ ⟨F, w, g'.pop.pushV rfl⟩⟩) fun e => e.elim) fun x k => k
  exact this
end
def nfiB (x : Str) : FaX := fun K => PySem.W.notFirst K (He.ga K x) (.type "int")
theorem nfi_ok {K : PySem.W.Frag} {x : Str} (h : nfiB x K = true) : PySem.W.notFirst K (He.ga K x) (.type "int") = true := h
end NL

set_option Elab.async false
set_option linter.all false
set_option maxRecDepth 100000
set_option maxHeartbeats 4000000
/-! NL: x is True, x of any kind; values of several kinds compared -/
namespace NL
open PySem PySem.Spec PyProof.Rows L2 ML
def rIsBX : R2 := fun x y H Q => ∃ b, y = .bl b ∧ Q (.bl (decide (x = .bl b))) H
theorem op_isBX {X : Cx} : OpR X (compareOp .Is) rIsBX := by
  intro pins s σ H x y v u Q I rx ry h
  obtain ⟨b, rfl, q⟩ := h
  cases ry
  show wpAny _ _ ((isSame v (Value.bool b)) >>= fun z => pure (Value.bool z)) _ _ s
  have fin : ∀ (r : Bool) (s' : Shared), s' = s → r = decide (x = .bl b) → wpAny (model X.prog X.w) X.A (pure (Value.bool r)) (EP X pins σ Q) X.xe s' := fun r s' es er => by
    subst es
    exact wpAny_pure ⟨.bl r, H, I, rfl, by rw [er]; exact q⟩
  refine wpAny_bind ?_
  cases x with
  | ref a => cases rx; exact wpAny_isSame_plain rfl (fin _ _ rfl (by rfl))
  | non => cases rx; exact wpAny_isSame_plain rfl (fin _ _ rfl (by rfl))
  | bl c => cases rx; exact wpAny_isSame_plain rfl (fin _ _ rfl (by cases b <;> cases c <;> rfl))
  | int i => obtain ⟨t, rfl⟩ := rx; exact wpAny_isSame_plain rfl (fin _ _ rfl (by rfl))
  | str z => obtain ⟨t, rfl⟩ := rx; exact wpAny_isSame_plain rfl (fin _ _ rfl (by rfl))
  | byt z => obtain ⟨t, rfl⟩ := rx; exact wpAny_isSame_plain rfl (fin _ _ rfl (by rfl))
  | flt z => obtain ⟨t, rfl⟩ := rx; exact wpAny_isSame_plain rfl (fin _ _ rfl (by rfl))
  | ty n => cases rx; exact wpAny_isSame_plain rfl (fin _ _ rfl (by rfl))
theorem ex_atm {ε α : Type} {X : Xc ε} {E : Ent} {env : En} {te : TE} {S : α → SP} {m : R ε α} (h : EV X E env te m S) : EV X E env te m S := h
section
variable {α β : Type}
theorem o2_isBX {T : Ty α} {x : α} {b r : Bool} (k : ∀ F v, T.rp F v x → decide (v = .bl b) = r) : O2 rIsBX (val T x) (val tBool b) (some r) (val tBool) := o2_mk fun c hm F H Q va vb s ha hb hq => by
  cases hm
  exact ⟨b, hb, hq _ (by rw [k F va ha]; rfl)⟩
theorem o2_eqP {K : PySem.W.Frag} {T : Ty α} {a b : α} {dat : α → PyData} (dp : ∀ {F H : Hp} {v : V} {x : α}, Same F H → T.rp F v x → Dp K H v (dat x)) (hd : ∀ x, (dat x).depth ≤ 8) (hl : ∀ x, (dat x).canLay0 = true) : O2 (rEqD K) (val T a) (val T b) (some (PyData.eqv (dat a) (dat b))) (val tBool) := o2_mk fun c hm F H Q va vb s ha hb hq => by
  cases hm
  exact ⟨_, _, dp s ha, dp s hb, shaped_of (hl _) (hd _) (by decide), shaped_of (hl _) (hd _) (by decide), hq _ rfl⟩
end
end NL

set_option Elab.async false
set_option linter.all false
/-! NL: how a call with keywords binds a def with many keyword-only names, shown once for all (no step of it by evaluation) -/
namespace NL
open PySem PySem.Spec PyProof.Rows L2 ML
/-- the names of l that stand not in kn -/
def missN : List Str → List Str → List Str
  | [], _ => []
  | n :: l, kn => if kn.contains n then missN l kn else n :: missN l (kn ++ [n])
/-- the names of l are new, one after another, and each is one that the def takes -/
def newN (al : List Str) : List Str → List Str → Bool
  | [], _ => true
  | n :: l, kn => al.contains n && (!kn.contains n && newN al l (kn ++ [n]))
def RunL {α β : Type} (f : α → β → Sem (ForInStep β)) : List α → β → β → Prop
  | [], s, t => s = t
  | a :: l, s, t => ∃ s', f a s = pure (.yield s') ∧ RunL f l s' t
theorem forIn_run {α β : Type} {f : α → β → Sem (ForInStep β)} : ∀ {l : List α} {s t : β}, RunL f l s t → forIn l s f = pure t
  | [], s, t, h => by rw [show s = t from h]; rfl
  | a :: l, s, t, h => by
    obtain ⟨s', e, h⟩ := h
    rw [List.forIn_cons, e, pure_bind]
    exact forIn_run h
theorem lookup_has {n : Str} : ∀ {sl : List (Str × Value)}, (List.lookup n sl).isSome = (sl.map (·.1)).contains n
  | [] => rfl
  | q :: sl => by
    rw [List.lookup_cons]
    cases e : n == q.1 with
    | true =>
      simp only [List.map_cons, List.contains_cons, e, Bool.true_or]
      rfl
    | false =>
      simp only [List.map_cons, List.contains_cons, e, Bool.false_or]
      exact lookup_has
theorem chain2 {D : Addr} {α : Type} {f : Str → List (Str × Value) × List Str → Sem (ForInStep (List (Str × Value) × List Str))} {fin : List (Str × Value) × List Str → Sem α}
    (h1 : ∀ n sl, (sl.map (·.1)).contains n = true → f n (sl, []) = pure (.yield (sl, [])))
    (h2 : ∀ n sl, (sl.map (·.1)).contains n = false → ∃ k1 : Option Value → Sem (ForInStep (List (Str × Value) × List Str)), f n (sl, []) = nsGet D n >>= k1 ∧ ∀ v, k1 (some v) = pure (.yield (sl ++ [(n, v)], []))) :
    ∀ (l : List Str) (sl : List (Str × Value)) (mv : List Value) (r : α), mv.length = (missN l (sl.map (·.1))).length → fin (sl ++ (missN l (sl.map (·.1))).zip mv, []) = pure r →
      KwChain D ((missN l (sl.map (·.1))).zip mv) (forIn l (sl, []) f >>= fin) r
  | [], sl, mv, r, hl, h => by
    simp only [missN, List.zip_nil_left, List.append_nil, List.forIn_nil, pure_bind] at h ⊢
    exact h
  | n :: l, sl, mv, r, hl, h => by
    cases e : (sl.map (·.1)).contains n with
    | true =>
      simp only [missN, e, if_true] at h hl ⊢
      rw [List.forIn_cons, h1 n sl e, pure_bind]
      exact chain2 h1 h2 l sl mv r hl h
    | false =>
      obtain ⟨k1, e1, e2⟩ := h2 n sl e
      simp only [missN, e, Bool.false_eq_true, if_false] at h hl ⊢
      cases mv with
      | nil => cases hl
      | cons v mv =>
        rw [List.forIn_cons, e1, List.zip_cons_cons]
        refine ⟨_, _, k1, _, _, _, rfl, e2 v, ?_⟩
        have g := chain2 h1 h2 l (sl ++ [(n, v)]) mv r (by simpa using hl) (by simpa using h)
        simpa using g
theorem run_kw {al : List Str} {f : Str × Value → List (Str × Value) × List (Str × Value) → Sem (ForInStep (List (Str × Value) × List (Str × Value)))}
    (hf : ∀ q sl, al.contains q.1 = true → (sl.map (·.1)).contains q.1 = false → f q (sl, []) = pure (.yield (sl ++ [q], []))) :
    ∀ {kv sl : List (Str × Value)}, newN al (kv.map (·.1)) (sl.map (·.1)) = true → RunL f kv (sl, []) (sl ++ kv, [])
  | [], sl, _ => by simp [RunL]
  | q :: kv, sl, h => by
    simp only [List.map_cons, newN, Bool.and_eq_true, Bool.not_eq_true'] at h
    obtain ⟨ha, hb, hc⟩ := h
    refine ⟨(sl ++ [q], []), hf q sl ha hb, ?_⟩
    have := run_kw hf (kv := kv) (sl := sl ++ [q]) (by simpa using hc)
    simpa using this
theorem kw_loop {D : Addr} {x qual : Str} {params : Arguments} {body : List Stmt} {scope : Scope} {doc pm : Value} {an : Option Addr} {cdv ct : Value} {us : List Value} {kv : List (Str × Value)} {mv : List Value}
    (h1 : params.posonlyargs = []) (h2 : params.vararg = none) (h3 : params.kwarg = none) (hu : us.length = params.args.length)
    (hn : newN (params.args.map (·.arg) ++ params.kwonlyargs.map (·.arg)) (kv.map (·.1)) (params.args.map (·.arg)) = true)
    (hm : mv.length = (missN (params.kwonlyargs.map (·.arg)) (params.args.map (·.arg) ++ kv.map (·.1))).length) :
    KwChain D ((missN (params.kwonlyargs.map (·.arg)) (params.args.map (·.arg) ++ kv.map (·.1))).zip mv) (bindArgs (PySem.W.fnOf x qual params body scope .none (.ref D) doc pm an cdv ct) ⟨us, kv⟩)
      ((params.args.map (·.arg) ++ params.kwonlyargs.map (·.arg)).filterMap fun n => (((params.args.map (·.arg)).zip us ++ kv ++ (missN (params.kwonlyargs.map (·.arg)) (params.args.map (·.arg) ++ kv.map (·.1))).zip mv).lookup n).map (n, ·)) := by
  have hz : (((params.args.map (·.arg)).zip us).map (·.1)) = params.args.map (·.arg) := by
    rw [List.map_fst_zip]; simp [hu]
  unfold bindArgs
  simp only [PySem.W.fnOf, h1, h2, h3, List.map_nil, List.nil_append]
  rw [forIn_run (l := kv) (t := ((params.args.map (·.arg)).zip us ++ kv, []))]
  · rw [pure_bind, show seqItems? Value.none = (pure none : Sem (Option (Array Value))) from rfl, pure_bind]
    have hg : ¬ us.length > (params.args.map (·.arg)).length := by simp [hu]
    have hf : ((params.args.map (·.arg)).filter fun n => (List.lookup n ((params.args.map (·.arg)).zip us ++ kv)).isNone) = [] := by
      rw [List.filter_eq_nil_iff]
      intro n hn
      have : (List.lookup n ((params.args.map (·.arg)).zip us ++ kv)).isSome = true := by
        rw [lookup_has, List.map_append, hz]
        simp only [List.contains_eq_mem, decide_eq_true_eq]
        exact List.mem_append_left _ hn
      cases h : List.lookup n ((params.args.map (·.arg)).zip us ++ kv) with
      | none => rw [h] at this; cases this
      | some v => simp
    simp only [hg, decide_false, Bool.false_and, Bool.false_eq_true, if_false, Option.getD_none, List.length_nil, List.drop_nil, Nat.sub_zero, List.zip_nil_right, List.forIn_nil, pure_bind, List.take_length, hf, List.isEmpty_nil, Bool.not_true]
    have g := fun f fin a b => chain2 (D := D) (α := List (Str × Value)) (f := f) (fin := fin) a b (params.kwonlyargs.map (·.arg)) ((params.args.map (·.arg)).zip us ++ kv) mv
    simp only [List.map_append, hz] at g
    refine g _ _ ?_ ?_ _ hm ?_
    · intro n sl e
      have h : (List.lookup n sl).isSome = true := by rw [lookup_has]; exact e
      cases h' : List.lookup n sl with
      | none => rw [h'] at h; cases h
      | some v => simp
    · intro n sl e
      have h : (List.lookup n sl).isSome = false := by rw [lookup_has]; exact e
      cases h' : List.lookup n sl with
      | some v => rw [h'] at h; cases h
      | none => exact ⟨_, rfl, fun v => rfl⟩
    · simp
  · refine run_kw (al := params.args.map (·.arg) ++ params.kwonlyargs.map (·.arg)) ?_ (by rw [hz]; exact hn)
    intro q sl ha hb
    have h : (List.lookup q.1 sl).isSome = false := by rw [lookup_has]; exact hb
    rw [List.contains_eq_any_beq, List.any_append, ← List.contains_eq_any_beq, ← List.contains_eq_any_beq] at ha
    simp only [ha, h, if_true, Bool.false_eq_true, if_false]
section
variable {P : Program} {w : World} {K : PySem.W.Frag} {mg : Str → Option Value} {base : Heap} {x qual : Str} {params : Arguments} {body : List Stmt} {scope : Scope} {kws : List (Str × V)} {f : Addr} {fd : FuncData} {k : Nat} {ps : List Str} {sp : Sp}
/-- as calN_K, with facts of the names alone -/
theorem calN_KL (F : FunD K x qual params body scope [] kws f fd) (ok : FnOk P w K mg base (L2.CX P w) k f fd ps sp) (n : Nat) (ks : List Str) (ms : List (Str × V)) (sel : List Sl) (hk : kws ≠ []) (hms : ∀ q ∈ ms, q ∈ kws)
    (h1 : params.posonlyargs = []) (h2 : params.vararg = none) (h3 : params.kwarg = none) (hn1 : params.args.length = n)
    (hn : newN (params.args.map (·.arg) ++ params.kwonlyargs.map (·.arg)) ks (params.args.map (·.arg)) = true)
    (hm : missN (params.kwonlyargs.map (·.arg)) (params.args.map (·.arg) ++ ks) = ms.map (·.1))
    (hs : ∀ (us mv ws : List Value), us.length = n → mv.length = ms.length → ws.length = ks.length →
      ((params.args.map (·.arg) ++ params.kwonlyargs.map (·.arg)).filterMap fun n => (((params.args.map (·.arg)).zip us ++ ks.zip ws ++ (ms.map (·.1)).zip mv).lookup n).map (n, ·)) = ps.zip (pick us [] mv ws sel)) :
    CalN P w K mg base k f ps sp n ks (fun vs zs => pick vs [] (ms.map (·.2)) zs sel) :=
  calN_K F ok n ks ms sel hk hms fun D doc pm an cdv ct us mv ws l1 l2 l3 => by
    have hz : (ks.zip ws).map (·.1) = ks := by rw [List.map_fst_zip]; omega
    have g := kw_loop (D := D) (x := x) (qual := qual) (body := body) (scope := scope) (doc := doc) (pm := pm) (an := an) (cdv := cdv) (ct := ct) (us := us) (kv := ks.zip ws) (mv := mv) h1 h2 h3 (l1.trans hn1.symm) (by rw [hz]; exact hn)
      (by rw [hz, hm, List.length_map]; exact l2)
    rw [hz, hm, hs us mv ws l1 l2 l3] at g
    exact g
end
end NL

set_option Elab.async false
set_option linter.all false
set_option maxRecDepth 100000
/-! NL: raise, try -/
namespace NL
open PySem PySem.Spec PyProof.Rows L2 ML
/-- what is done with an error -/
def R.tryE {ε ε' α : Type} (m : R ε' α) (h : ε' → R ε α) : R ε α := match m with
  | .ok a => .ok a
  | .er e => h e
  | .no => .no
@[simp] theorem R.tryE_ok {ε ε' α : Type} (a : α) (h : ε' → R ε α) : (R.ok a).tryE h = .ok a := rfl
@[simp] theorem R.tryE_er {ε ε' α : Type} (e : ε') (h : ε' → R ε α) : (R.er e).tryE h = h e := rfl
@[simp] theorem R.tryE_no {ε ε' α : Type} (h : ε' → R ε α) : (R.no : R ε' α).tryE h = .no := rfl
theorem wp_tryE {ε ε' α : Type} {m : R ε' α} {h : ε' → R ε α} {Q : α → Prop} {X : ε → Prop} : wp (m.tryE h) Q X ↔ wp m Q fun e => wp (h e) Q X := by cases m <;> exact Iff.rfl
section
variable {ε ε' α γ : Type} {X : Xc ε} {E : Ent} {env : En} {post : Post γ}
/-- raise C(..), an error without anything of its own -/
theorem bk_raise {C : Value} {e : ε} (hk : ∀ F, X.ok e C none F) (hf : Fgt env (X.en e)) : BK X E env (fun _ σ H => X.W C none σ H) (.er e) post := by
  intro st vs σ H D g hm
  obtain ⟨F, w, g'⟩ := g.fgt hf
  exact hm σ C none H F w g' (hk F)
/-- the ends of a suite whose name is taken away behind it -/
def Ends.clr (D : Ends) (i : Nat) : Ends := { nx := fun σ' H' => D.nx (σ'.set i none) H', rt := D.rt, bk := fun σ' H' => D.bk (σ'.set i none) H', ct := fun σ' H' => D.ct (σ'.set i none) H' }
/-- what post says holds with the name gone too -/
def Clr (i : Nat) (post : Post γ) : Prop := ∀ a st vs D, post a st vs D → post a st vs (Ends.clr D i)
theorem G.clr {env : En} {st : List SP} {σ : L2.St} {vs : List V} {H : Hp} {i : Nat} {u : Option V} (g : G E env st σ vs H) (h : ∀ S, env[i]? ≠ some (some S)) : G E env st (σ.set i u) vs H := by
  obtain ⟨F, w, g⟩ := g
  refine ⟨F, w, g.re (fun a l e => ⟨l, e⟩) ⟨by simpa using g.env.1, fun j S e => ?_⟩ g.st⟩
  obtain ⟨v, e1, e2⟩ := g.env.2 j S e
  by_cases hij : i = j
  · subst hij
    exact absurd e (h S)
  · exact ⟨v, by rw [List.getElem?_set_ne hij]; exact e1, e2⟩
theorem clr_R {ρ : Type} {R : ρ → SP} {eR : ρ → En} {i : Nat} : Clr i (pR E R eR) := fun _ _ _ _ h => h
theorem clr_N {α : Type} {eN : α → En} {i : Nat} (hn : ∀ a S, (eN a)[i]? ≠ some (some S)) : Clr i (pN E eN) := fun a _ _ _ h σ' H' g => h _ H' (G.clr g (hn a))
theorem clr_P {ρ : Type} {eR : ρ → En} {i : Nat} (hn : ∀ a S, (eR a)[i]? ≠ some (some S)) : Clr i (pP E eR) := fun a _ _ _ h => ⟨fun σ' H' g => h.1 _ H' (G.clr g (hn a)), h.2⟩
theorem clr_L {α σs ρ : Type} {eN : α → En} {eL : σs → En} {R : ρ → SP} {eR : ρ → En} {i : Nat} (hn : ∀ a S, (eN a)[i]? ≠ some (some S)) (hl : ∀ a S, (eL a)[i]? ≠ some (some S)) : Clr i (pL E eN eL R eR) := fun o st vs D h => by
  cases o with
  | nx a => exact fun σ' H' g => h _ H' (G.clr g (hn a))
  | brk a => exact fun σ' H' g => h _ H' (G.clr g (hl a))
  | ct a => exact fun σ' H' g => h _ H' (G.clr g (hl a))
  | ret r => exact h
/-- try: body / except C as n: suite. ok', en': the body's errors; n's slot is i -/
theorem bk_tryAs {K : PySem.W.Frag} {c : Value} {i : Nat} {ts : Addr → Value → Option Addr → TS} {tb : L2.WX → TS} {m : R ε' γ} {h : ε' → R ε γ} {ok' : ε' → Value → Option Addr → Hp → Prop} {en' : ε' → En}
    (hb : ∀ W, BK ⟨W, ok', en'⟩ E env (tb W) m post) (hi : ∀ e S, (en' e)[i]? ≠ some (some S)) (hp : Clr i post)
    (hc : ∀ e cls d F, ok' e cls d F → ∃ b, PySem.W.exmOne K cls c = some b ∧ (b = true → ∀ a, BK X E (en' e) (ts a cls d) (h e) post) ∧
      (b = false → ∃ e1, h e = .er e1 ∧ X.ok e1 cls d F ∧ Fgt (en' e) (X.en e1))) :
    BK X E env (fun D σ H => tb (wAs K c i ts X.W D) D σ H) (m.tryE h) post := by
  intro st vs σ H D g hm
  refine hb _ st vs σ H D g (wp_mono (wp_tryE.mp hm) (fun _ q => q) fun e q σ' c1 d H' F w g' k => ?_)
  obtain ⟨b, e1, e2, e3⟩ := hc e c1 d F k
  refine ⟨b, e1, fun hb' a na => ?_, fun hb' => ?_⟩
  · exact e2 hb' a st vs _ H' _ (G.clr ⟨F, w, g'⟩ (hi e)) (wp_mono q (fun r q => hp r st vs D q) fun _ z => z)
  · obtain ⟨x, e4, e5, e6⟩ := e3 hb'
    rw [e4] at q
    have g2 : GG E (X.en x) st σ' vs H' F w := g'.re (fun a l e => ⟨l, e⟩) ⟨Nat.le_trans e6.1 g'.env.1, fun i S e => by
      obtain ⟨S0, e0, k⟩ := e6.2 i S e
      obtain ⟨v, e1, e2⟩ := g'.env.2 i S0 e0
      exact ⟨v, e1, k _ _ _ _ e2⟩⟩ g'.st
    exact q σ' c1 d H' F w g2 e5
/-- except C: suite, ..: what is done clause by clause -/
inductive HdOk (X : Xc ε) (E : Ent) (K : PySem.W.Frag) (post : Post γ) : List (Value × (Addr → Value → Option Addr → TS)) → Value → Option Addr → Hp → En → R ε γ → Prop
  | nil {cls : Value} {d : Option Addr} {F : Hp} {en : En} {e1 : ε} (k : X.ok e1 cls d F) (f : Fgt en (X.en e1)) : HdOk X E K post [] cls d F en (.er e1)
  | hit {c : Value} {ts : Addr → Value → Option Addr → TS} {l : List (Value × (Addr → Value → Option Addr → TS))} {cls : Value} {d : Option Addr} {F : Hp} {en : En} {m : R ε γ} (e : PySem.W.exmOne K cls c = some true) (h : ∀ a, BK X E en (ts a cls d) m post) : HdOk X E K post ((c, ts) :: l) cls d F en m
  | miss {c : Value} {ts : Addr → Value → Option Addr → TS} {l : List (Value × (Addr → Value → Option Addr → TS))} {cls : Value} {d : Option Addr} {F : Hp} {en : En} {m : R ε γ} (e : PySem.W.exmOne K cls c = some false) (h : HdOk X E K post l cls d F en m) : HdOk X E K post ((c, ts) :: l) cls d F en m
theorem HdOk.go {K : PySem.W.Frag} {l : List (Value × (Addr → Value → Option Addr → TS))} {cls : Value} {d : Option Addr} {F : Hp} {en : En} {m : R ε γ} (z : HdOk X E K post l cls d F en m) {st : List SP} {vs : List V} {σ : L2.St} {H : Hp} {D : Ends} {w : Ow}
    (g : GG E en st σ vs H F w) (q : wp m (fun g => post g st vs D) (fun e => ∀ σ', xcl X E st vs σ' e)) : wMany K X.W D l cls d σ H := by
  induction z with
  | nil k f =>
    refine q σ _ _ _ _ w (g.re (fun a l e => ⟨l, e⟩) ⟨Nat.le_trans f.1 g.env.1, fun i S e => ?_⟩ g.st) k
    obtain ⟨S0, e0, k⟩ := f.2 i S e
    obtain ⟨v, e1, e2⟩ := g.env.2 i S0 e0
    exact ⟨v, e1, k _ _ _ _ e2⟩
  | hit e h => exact ⟨true, e, fun _ a _ => h a st vs σ H D ⟨_, _, g⟩ q, fun z => by cases z⟩
  | miss e h ih => exact ⟨false, e, fun z => by (cases z), fun _ => ih g q⟩
theorem bk_try {K : PySem.W.Frag} {l : List (Value × (Addr → Value → Option Addr → TS))} {tb : L2.WX → TS} {m : R ε' γ} {h : ε' → R ε γ} {ok' : ε' → Value → Option Addr → Hp → Prop} {en' : ε' → En}
    (hb : ∀ W, BK ⟨W, ok', en'⟩ E env (tb W) m post) (hc : ∀ e cls d F, ok' e cls d F → HdOk X E K post l cls d F (en' e) (h e)) :
    BK X E env (fun D σ H => tb (wMany K X.W D l) D σ H) (m.tryE h) post := by
  intro st vs σ H D g hm
  exact hb _ st vs σ H D g (wp_mono (wp_tryE.mp hm) (fun _ q => q) fun e q σ' c1 d H' F w g' k => (hc e c1 d F k).go g' q)
end
end NL

set_option Elab.async false
set_option linter.all false
set_option maxRecDepth 100000
/-! NL: raise C('..'), C an own class on ValueError without anything of its own -/
namespace NL
open PySem PySem.Spec PyProof.Rows L2 ML
def ExcF (K : PySem.W.Frag) (x : Str) : Prop := PySem.W.excIn K (He.ga K x) He.veBase "ValueError.__new__" = true ∧ PySem.W.keepIn K (.ref (He.ga K x)) = true ∧ PySem.W.subIn K (.ref (He.ga K x)) (.type "BaseException") = some true ∧
    PySem.W.typeIn K (.ref (He.ga K x)) = some (.type "type")
theorem excF_ok {K : PySem.W.Frag} {x : Str} (c : (He.Fa.exc x).ok K = true) : ExcF K x := He.exc_ok c
theorem ps_rse {X : Cx} {W : WX} {x m : Str} {y : Str} {j : Nat} {p p2 pos pos' : Pos} (hc : X.calm = true) (tk : Takes X W) (q : ExcF X.K y) (gC : X.mg x = some (.ref (He.ga X.K y))) (hg : Gl X x)
    (hdb : (x == ("__debug__" : Str)) = false := by decide) : PS X (.Raise (some (.Call (.Name x p) [.Constant (.str m) j p2] [] pos)) none pos') (fun _ σ H => W (.ref (He.ga X.K y)) none σ H) :=
  ps_raise hc tk (pmk_own PySem.F.excBase_ValueError q.1 gC q.2.1 (raises_own q.2.2.1 q.2.2.2) hg hdb)
section
variable {ε α γ : Type} {X : Xc ε} {E : Ent} {env : En} {post : Post γ} {t u : TS}
theorem bk_seqN {m : R ε α} {eJ : α → En} {k : α → R ε γ} (h : BK X E env t m (pN E eJ)) (hk : ∀ x, BK X E (eJ x) u (k x) post) : BK X E env (tSeq t u) (m.bind k) post := by
  intro st vs σ H D g hm
  exact h st vs σ H _ g (wp_mono (wp_bind.mp hm) (fun y hm σ' H' g2 => hk y st vs σ' H' D g2 hm) fun e h => h)
end
end NL

set_option Elab.async false
set_option linter.all false
set_option maxRecDepth 100000
/-! NL: texts: find, join, an index, a slice -/
namespace NL
open PySem PySem.Spec PyProof.Rows L2 ML
section
variable {ε : Type} {X : Xc ε} {E : Ent} {env : En} {to te : TE} {m m2 : R ε Str}
theorem ex_find (ho : EV X E env to m (val tStr)) (he : EV X E env te m2 (val tStr)) :
    EV X E env (tM1 (fun x xs H Q => ∃ a b, x = .str a ∧ xs = [.str b] ∧ Q (.int (Txt.find a b)) H) to te) (m.bind fun a => m2.bind fun b => .ok (Txt.find a b)) (fun x => val tInt x) := by
  intro st vs σ H Q g hm
  rw [wp_bind] at hm
  refine ho st vs σ H _ g (wp_mono hm (fun a hm v H1 g1 => ?_) fun e h => h)
  have ev : v = .str a := by
    obtain ⟨F, w, g1⟩ := g1
    exact g1.top
  subst ev
  refine ⟨⟨a, rfl⟩, ?_⟩
  rw [wp_bind] at hm
  refine he _ _ σ H1 _ g1 (wp_mono hm (fun b hq u H2 g2 => ?_) xcl_push)
  obtain ⟨F, w, g2⟩ := g2
  have eu : u = .str b := g2.top
  subst eu
  exact ⟨a, b, rfl, rfl, hq _ _ ⟨F, _, (g2.pop.pop).pushV rfl⟩⟩
def joinB (a : Str) (ys : List Str) : Option Str := grd ((ys.map (·.length)).sum + ys.length * a.length ≤ 16777216) (some (Txt.join a ys))
theorem ex_join {K : PySem.W.Frag} {ml : R ε (List Str)} (ho : EV X E env to m (val tStr)) (he : EV X E env te ml (val (tL tStr))) :
    EV X E env (tM1 (fun x xs H Q => ∃ a p, ∃ ys : List Str, x = .str a ∧ xs = [.ref p] ∧ (SqL K H p (ys.map V.str) ∨ SqT K H p (ys.map V.str)) ∧ (ys.map (·.length)).sum + ys.length * a.length ≤ 16777216 ∧ Q (.str (Txt.join a ys)) H) to te)
      (m.bind fun a => ml.bind fun ys => R.of (joinB a ys)) (fun x => val tStr x) := by
  intro st vs σ H Q g hm
  rw [wp_bind] at hm
  refine ho st vs σ H _ g (wp_mono hm (fun a hm v H1 g1 => ?_) fun e h => h)
  have ev : v = .str a := by
    obtain ⟨F, w, g1⟩ := g1
    exact g1.top
  subst ev
  refine ⟨⟨a, rfl⟩, ?_⟩
  rw [wp_bind] at hm
  refine he _ _ σ H1 _ g1 (wp_mono hm (fun ys hq u H2 g2 => ?_) xcl_push)
  obtain ⟨x, ex, hq⟩ := wp_of hq
  obtain ⟨hl, ex⟩ := grd_some ex
  cases ex
  obtain ⟨F, w, g2⟩ := g2
  obtain ⟨p, us, e, h', pr⟩ := g2.top
  have eus : us = ys.map V.str := by
    have : ∀ {us : List V} {ys : List Str}, Paired (fun v x => tStr.rp F v x) us ys → us = ys.map V.str := by
      intro us ys h
      induction h with
      | nil => rfl
      | cons h _ ih => rw [show _ = V.str _ from h, ih]; rfl
    exact this pr
  subst eus
  exact ⟨a, p, ys, rfl, by rw [e], .inl (.of (g2.ext.s _ _ h')), hl, hq _ _ ⟨F, _, (g2.pop.pop).pushV rfl⟩⟩
def atS (a : Str) (i : Int) : Option Str := grd (a.length ≤ sizeLine) ((atI a.cps.toList i).map fun c => (⟨#[c]⟩ : Str))
theorem o2_ixX {a : Str} {i : Int} : O2 rIxS (val tStr a) (val tInt i) (atS a i) (val tStr) := o2_mk fun c hm F H Q va vb s ha hb hq => by
  obtain ⟨hl, hm⟩ := grd_some hm
  obtain ⟨ch, h1, h2⟩ := Option.map_eq_some_iff.mp hm
  subst h2
  exact ⟨a, i, ch, ha, hb, hl, h1, hq _ rfl⟩
theorem ex_slX {tl th : TO} {ml mh : R ε (Option Int)} (h : EV X E env te m (val tStr)) (hl : TO1 X E env tl ml) (hh : TO1 X E env th mh) : EV X E env (tSl rSlS te tl th) (m.bind fun a => ml.bind fun l => mh.bind fun u => R.of (grd (a.length ≤ sizeLine) (some (cutS a l u)))) (fun x => val tStr x) := by
  intro st vs σ H Q g hm
  rw [wp_bind] at hm
  refine h st vs σ H _ g (wp_mono hm (fun xs hm v H1 g1 => ?_) fun e h => h)
  rw [wp_bind] at hm
  refine hl _ _ σ H1 _ g1 (wp_mono hm (fun l hm H2 g2 => ?_) xcl_push)
  rw [wp_bind] at hm
  refine hh _ _ σ H2 _ g2 (wp_mono hm (fun u hq H3 g3 => ?_) xcl_push)
  obtain ⟨x, ex, hq⟩ := wp_of hq
  obtain ⟨hz, ex⟩ := grd_some ex
  cases ex
  obtain ⟨F, w, g3⟩ := g3
  exact ⟨xs, g3.top, hz, hq _ _ ⟨F, _, g3.pop.pushV rfl⟩⟩
theorem o1_lenX {a : Str} : O1 (fun v H Q => ∃ z, [v] = [V.str z] ∧ z.length ≤ sizeLine ∧ Q (.int z.length) H) (val tStr a) (grd (a.length ≤ sizeLine) (some (a.length : Int))) (val tInt) := o1_mk fun c hm F H Q va s h hq => by
  obtain ⟨hl, hm⟩ := grd_some hm
  cases hm
  exact ⟨a, by rw [show va = V.str a from h], hl, hq _ rfl⟩
theorem pe_findX {X : Cx} {o e : Expr} {to te : TE} {apos pos : Pos} (ho : PE X o to) (he : PE X e te) (hs : starEach [e] X.env = [(false, eval e X.env)] := by rfl) (hbase : attributeBase o "find" X.env (eval o X.env) = eval o X.env := by rfl) (hline : (apos.endLine == pos.line) = true := by rfl) :
    PE X (.Call (.Attribute o "find" apos) [e] [] pos) (tM1 (fun x xs H Q => ∃ a b, x = .str a ∧ xs = [.str b] ∧ Q (.int (Txt.find a b)) H) to te) :=
  pe_m1 PySem.F.slot_str_find PySem.F.type_str_find mt_find ho he hs hbase hline
theorem pe_joinK {X : Cx} {K : PySem.W.Frag} {o e : Expr} {to te : TE} {apos pos : Pos} (hK : X.K = K) (ho : PE X o to) (he : PE X e te) (hs : starEach [e] X.env = [(false, eval e X.env)] := by rfl) (hbase : attributeBase o "join" X.env (eval o X.env) = eval o X.env := by rfl) (hline : (apos.endLine == pos.line) = true := by rfl) :
    PE X (.Call (.Attribute o "join" apos) [e] [] pos) (tM1 (fun x xs H Q => ∃ a p, ∃ ys : List Str, x = .str a ∧ xs = [.ref p] ∧ (SqL K H p (ys.map V.str) ∨ SqT K H p (ys.map V.str)) ∧
      (ys.map (·.length)).sum + ys.length * a.length ≤ 16777216 ∧ Q (.str (Txt.join a ys)) H) to te) := hK ▸ pe_join ho he hs hbase hline
/-- range(a, b, c) -/
def rangeS (a c : Int) (n : Nat) : List Int := (List.range n).map fun i => a + (i : Nat) * c
theorem wk_R3 {a c : Int} {n : Nat} : Wk (Itc a c n) (rangeS a c n) (val tInt) anyS .non := by
  intro E env st1 st σ vs1 vs H i hl1 ⟨F, w, g⟩
  refine ⟨fun y hy => ?_, fun hl => by simp [rangeS] at hl; exact hl⟩
  unfold rangeS at hy
  rw [List.getElem?_map] at hy
  obtain ⟨j, e1, e2⟩ := Option.map_eq_some_iff.mp hy
  have hi : i < n := by
    have := (List.getElem?_eq_some_iff.mp e1).1
    simpa using this
  rw [List.getElem?_range hi] at e1
  cases e1
  refine ⟨hi, fun x H' ⟨eH, hx⟩ => ?_⟩
  cases eH
  exact ⟨F, w, g.pushV (by rw [hx, ← e2]; rfl)⟩
def range3 (a b c : Int) : Option (List Int) := grd (c ≠ 0 ∧ c.natAbs < 1073741824 ∧ Builtin.Range.small a b c = true ∧ 0 ≤ Builtin.Range.rangeSize a b c) (some (rangeS a c (Builtin.Range.rangeSize a b c).toNat))
theorem ix_R3p {ta tb tc : TE} {ma mb mc : R ε Int} (ha : EV X E env ta ma (val tInt)) (hb : EV X E env tb mb (val tInt)) (hc : EV X E env tc mc (val tInt)) : IX X E env (iRng3 (tCons ta (tCons tb (tCons tc tNil)))) (ma.bind fun a => mb.bind fun b => mc.bind fun c => R.of (range3 a b c)) id (val tInt) (fun _ => env) := by
  intro st vs σ H Q gg hm
  rw [wp_bind] at hm
  refine ha st vs σ H _ gg (wp_mono hm (fun a hm v H1 g1 => ?_) fun e h => h)
  rw [wp_bind] at hm
  refine hb _ _ σ H1 _ g1 (wp_mono hm (fun b hm u H2 g2 => ?_) xcl_push)
  rw [wp_bind] at hm
  refine hc _ _ σ H2 _ g2 (wp_mono hm (fun c hm z H3 g3 => ?_) fun e h => xcl_push e (xcl_push e h))
  obtain ⟨p, ep, hq⟩ := wp_of hm
  obtain ⟨⟨h1, h2, h3, h4⟩, ep⟩ := grd_some ep
  cases ep
  obtain ⟨F, w, g3⟩ := g3
  refine ⟨a, b, c, (Builtin.Range.rangeSize a b c).toNat, ?_, ⟨h1, h2, h3, by omega⟩, hq _ anyS .non _ wk_R3 (G.pushAny ⟨F, w, g3.pop.pop.pop⟩)⟩
  rw [show z = V.int c from g3.top, show u = V.int b from g3.st.2.1, show v = V.int a from g3.st.2.2.1]
end
end NL

set_option Elab.async false
set_option linter.all false
set_option maxRecDepth 100000
/-! NL: except C as e; isinstance(e, D) -/
namespace NL
open PySem PySem.Spec PyProof.Rows L2 ML
/-- try, by name -/
def tTry (tb : WX → TS) (w : Ends → WX) : TS := fun D σ H => tb (w D) D σ H
def tCase (P : Prop) (t u : TS) : TS := fun D σ H => (P ∧ t D σ H) ∨ u D σ H
def tNever : TS := fun _ _ _ => False
section
variable {X : Cx} {x n : Str} {c : Value} {i : Nat} {body suite : List Stmt} {b₀ : Stmt} {np pos pos' : Pos} {tb : WX → TS} {ts : Addr → Value → Option Addr → TS} {Wout : WX} {h₀ : ExceptHandler} {hds : List ExceptHandler} {l : List (Value × (Addr → Value → Option Addr → TS))}
theorem ps_tryA (hs : X.stack = X.env :: X.outer) (hf : X.env.frame = some X.env.locals) (hN : X.N.Nodup) (hi : X.N[i]? = some n) (hln : X.env.kindOf n = some .local) (hc : Names X x c) (tk : Takes X Wout)
    (hb : ∀ (W : WX) (pn : List (Addr × Obj)) (xe : Value → Shared → Prop), Takes (X.tr pn xe) W → PassesOwn (model X.prog X.w) X.A X.env xe → PSs (X.tr pn xe) body (tb W))
    (hsu : ∀ (a : Addr) (oe : Obj) (cls : Value) (d : Option Addr) (pn : List (Addr × Obj)), Zc cls d oe → (∃ vs, oe.data = .fields vs) → PSs (X.suite a ((a, oe) :: pn)) (b₀ :: suite) (ts a cls d)) :
    PS X (.Try body [.ExceptHandler (some (.Name x np)) (some n) (b₀ :: suite) pos'] [] [] pos) (tTry tb fun D => wAs X.K c i ts Wout D) := ps_try_as hs hf hN hi hln hc tk hb hsu
theorem ps_tryM (hs : X.stack = X.env :: X.outer) (hf : X.env.frame = some X.env.locals) (tk : Takes X Wout)
    (hb : ∀ (W : WX) (pn : List (Addr × Obj)) (xe : Value → Shared → Prop), Takes (X.tr pn xe) W → PassesOwn (model X.prog X.w) X.A X.env xe → PSs (X.tr pn xe) body (tb W))
    (hh : HdsOk X (h₀ :: hds) l) : PS X (.Try body (h₀ :: hds) [] [] pos) (tTry tb fun D => wMany X.K Wout D l) := ps_try_many hs hf tk hb hh
end
theorem pss_cases {X : Cx} {ss : List Stmt} {P : Prop} {t u : TS} (h : P → PSs X ss t) (k : PSs X ss u) : PSs X ss (tCase P t u) :=
  ⟨fun pins s σ H D I z => z.elim (fun ⟨p, z⟩ => (h p).run pins s σ H D I z) fun z => k.run pins s σ H D I z⟩
theorem pss_false {X : Cx} {ss : List Stmt} : PSs X ss tNever := ⟨fun _ _ _ _ _ _ z => z.elim⟩
section
variable {ε ε' α γ : Type} {X : Xc ε} {E : Ent} {env : En} {post : Post γ} {t u : TS}
theorem bk_caseL {P : Prop} {m : R ε γ} (p : P) (h : BK X E env t m post) : BK X E env (tCase P t u) m post := fun st vs σ H D g hm => .inl ⟨p, h st vs σ H D g hm⟩
theorem bk_caseR {P : Prop} {m : R ε γ} (h : BK X E env u m post) : BK X E env (tCase P t u) m post := fun st vs σ H D g hm => .inr (h st vs σ H D g hm)
theorem G.setIs {env : En} {st : List SP} {σ : L2.St} {vs : List V} {H : Hp} {i : Nat} {a : Addr} (g : G E env st σ vs H) (hi : i < env.length) : G E (env.set i (some (val (tOC a) ()))) st (σ.set i (some (.ref a))) vs H := by
  obtain ⟨F, w, g⟩ := g
  refine ⟨F, w, g.re (fun a l e => ⟨l, e⟩) ⟨by simpa using g.env.1, fun j S e => ?_⟩ g.st⟩
  by_cases hij : i = j
  · subst hij
    rw [List.getElem?_set_self hi] at e
    cases e
    exact ⟨.ref a, List.getElem?_set_self (Nat.lt_of_lt_of_le hi g.env.1), rfl⟩
  · rw [List.getElem?_set_ne hij] at e
    obtain ⟨v, e1, e2⟩ := g.env.2 j S e
    exact ⟨v, by rw [List.getElem?_set_ne hij]; exact e1, e2⟩
/-- try: body / except C as n: suite, the suite knows n -/
theorem bk_tryN {K : PySem.W.Frag} {c : Value} {i : Nat} {ts : Addr → Value → Option Addr → TS} {tb : L2.WX → TS} {m : R ε' γ} {h : ε' → R ε γ} {ok' : ε' → Value → Option Addr → Hp → Prop} {en' : ε' → En}
    (hb : ∀ W, BK ⟨W, ok', en'⟩ E env (tb W) m post) (hi : ∀ e, i < (en' e).length) (hp : Clr i post)
    (hc : ∀ e cls d F, ok' e cls d F → ∃ b, PySem.W.exmOne K cls c = some b ∧ (b = true → ∀ a, BK X E ((en' e).set i (some (val (tOC a) ()))) (ts a cls d) (h e) post) ∧
      (b = false → ∃ e1, h e = .er e1 ∧ X.ok e1 cls d F ∧ Fgt (en' e) (X.en e1))) :
    BK X E env (tTry tb fun D => wAs K c i ts X.W D) (m.tryE h) post := by
  intro st vs σ H D g hm
  refine hb _ st vs σ H D g (wp_mono (wp_tryE.mp hm) (fun _ q => q) fun e q σ' c1 d H' F w g' k => ?_)
  obtain ⟨b, e1, e2, e3⟩ := hc e c1 d F k
  refine ⟨b, e1, fun hb' a na => ?_, fun hb' => ?_⟩
  · exact e2 hb' a st vs _ H' _ (G.setIs ⟨F, w, g'⟩ (hi e)) (wp_mono q (fun r q => hp r st vs D q) fun _ z => z)
  · obtain ⟨x, e4, e5, e6⟩ := e3 hb'
    rw [e4] at q
    have g2 : GG E (X.en x) st σ' vs H' F w := g'.re (fun a l e => ⟨l, e⟩) ⟨Nat.le_trans e6.1 g'.env.1, fun i S e => by
      obtain ⟨S0, e0, k⟩ := e6.2 i S e
      obtain ⟨v, e1, e2⟩ := g'.env.2 i S0 e0
      exact ⟨v, e1, k _ _ _ _ e2⟩⟩ g'.st
    exact q σ' c1 d H' F w g2 e5
end
section
variable {ε ε' α γ : Type} {X : Xc ε} {E : Ent} {env : En} {post : Post γ}
theorem bk_tryM {K : PySem.W.Frag} {l : List (Value × (Addr → Value → Option Addr → TS))} {tb : L2.WX → TS} {m : R ε' γ} {h : ε' → R ε γ} {ok' : ε' → Value → Option Addr → Hp → Prop} {en' : ε' → En}
    (hb : ∀ W, BK ⟨W, ok', en'⟩ E env (tb W) m post) (hc : ∀ e cls d F, ok' e cls d F → HdOk X E K post l cls d F (en' e) (h e)) :
    BK X E env (tTry tb fun D => wMany K X.W D l) (m.tryE h) post := bk_try hb hc
end
/-- what an error's class must say, so that isinstance asks rightly -/
def exCB (x : Str) : FaX := fun K => He.eqO (PySem.W.findIn K (.ref (He.ga K x)) "__getattribute__") (some (some (.builtin "BaseException.__getattribute__"))) && (He.eqO (PySem.W.findIn K (.ref (He.ga K x)) "__getattr__") (some none) && (decide (PySem.W.subIn K (.ref (He.ga K x)) (.type "BaseException") = some true) && (PySem.W.hasDictIn K (He.ga K x) &&
  (He.eqO (PySem.W.findIn K (.ref (He.ga K x)) "__class__") (some (some (.builtin "object.__class__"))) && (He.eqO (PySem.W.specialIn K (.builtin "object.__class__") "__get__") (some (some (.builtin "getset_descriptor.__get__"))) &&
  (decide (PySem.W.takesIn K (.builtin "object.__class__") = some true) && decide (PySem.W.mroIn K (He.ga K x) (.type "object") = some true)))))))
theorem exC_ok {K : PySem.W.Frag} {x : Str} (h : exCB x K = true) : ExcC K (He.ga K x) := by
  obtain ⟨h1, h⟩ := He.ba h
  obtain ⟨h2, h⟩ := He.ba h
  obtain ⟨h3, h⟩ := He.ba h
  obtain ⟨h4, h⟩ := He.ba h
  obtain ⟨h5, h⟩ := He.ba h
  obtain ⟨h6, h⟩ := He.ba h
  obtain ⟨h7, h8⟩ := He.ba h
  exact ⟨He.eqO_ok h1, He.eqO_ok h2, of_decide_eq_true h3, h4, He.eqO_ok h5, He.eqO_ok h6, of_decide_eq_true h7, of_decide_eq_true h8⟩
def kieB (x : Str) (t : PySem.W.Frag → Value) (b : Bool) : FaX := fun K => decide (PySem.W.kitOne K (.ref (He.ga K x)) (t K) = some b)
theorem kie_ok {K : PySem.W.Frag} {x : Str} {t : PySem.W.Frag → Value} {b : Bool} (h : kieB x t b K = true) : PySem.W.kitOne K (.ref (He.ga K x)) (t K) = some b := of_decide_eq_true h
theorem call_isEK {X : Cx} {K : PySem.W.Frag} {a D : Addr} {oe : Obj} {pn : List (Addr × Obj)} (hK : X.K = K) (C : ExcC K D) (hz : Zc (.ref D) none oe) (hf : ∃ vs, oe.data = .fields vs) : CallR (X.suite a ((a, oe) :: pn)) (.builtin "isinstance") (rIsE K D a) := by
  subst hK
  exact call_isE C hz hf
theorem o2_isEO {K : PySem.W.Frag} {a D C : Addr} {b : Bool} (hk : PySem.W.kitOne K (.ref D) (.ref C) = some b) : O2 (fun v u H Q => rIsE K D a [v, u] H Q) (val (tOC a) ()) (val (tOC C) ()) (some b) (val tBool) := o2_mk fun c hc F H Q va vb s ha hb hq => by
  cases hc
  refine ⟨vb, .ref C, b, by rw [show va = V.ref a from ha], fun u r => ?_, hk, hq _ rfl⟩
  rw [show vb = V.ref C from hb] at r
  cases r
  rfl
theorem o2_isET {K : PySem.W.Frag} {a D : Addr} {n : String} {b : Bool} (hk : PySem.W.kitOne K (.ref D) (.type n) = some b) : O2 (fun v u H Q => rIsE K D a [v, u] H Q) (val (tOC a) ()) (val tCls n) (some b) (val tBool) := o2_mk fun c hc F H Q va vb s ha hb hq => by
  cases hc
  refine ⟨vb, .type n, b, by rw [show va = V.ref a from ha], fun u r => ?_, hk, hq _ rfl⟩
  rw [show vb = V.ty n from hb] at r
  cases r
  rfl
theorem zc_to {cls : Value} {d : Option Addr} {C : Value} {oe : Obj} (h : cls = C ∧ d = none) (hz : Zc cls d oe) : Zc C none oe := by
  obtain ⟨rfl, rfl⟩ := h
  exact hz
theorem errOk_none {mg : Str → Option Value} {x : Exn} {c : Value} {d : Option Addr} {F : Hp} (h : ErrOk mg x c d F) (e : x.2 = []) : d = none := h.2.elim (fun z => z.2) fun z => absurd e z.1
end NL

set_option Elab.async false
set_option linter.all false
set_option maxRecDepth 100000
/-! NL: str of an int -/
namespace NL
open PySem PySem.Spec PyProof.Rows L2 ML
def strI (i : Int) : Str := (toString i : String)
def strO (i : Int) : Option Str := grd (i.natAbs.log2 < 1920) (some (strI i))
theorem o1_strI {i : Int} : O1 (fun v H Q => ∃ i, [v] = [V.int i] ∧ i.natAbs.log2 < 1920 ∧ Q (.str (toString i)) H) (val tInt i) (strO i) (val tStr) := o1_mk fun c hm F H Q va s h hq => by
  obtain ⟨hl, hm⟩ := grd_some hm
  cases hm
  exact ⟨i, by rw [show va = V.int i from h], hl, hq _ rfl⟩
section
variable {ε α β γ δ τ : Type} {X : Xc ε} {E : Ent} {env : En} {te ta tb to ti : TE}
/-- own + value -/
theorem ex_catO {φ : V → Prop} {T : Ty α} {xs : List α} {i : Nat} {a : Addr} {S0 : SP} {plug : SP → SP} {m : R ε (List α)} (hr : EV X E env to (.ok ()) (fun _ => (isVP (.ref a)).sp)) (h : env[i]? = some (some S0)) (l : Lens S0 (muL φ T xs) (.ref a) plug)
    (hb : EV X E env tb m (val (tL T))) : EV X E env (tOp rCat to tb) (m.bind fun ys => R.of (grd (xs.length + ys.length ≤ 16777216) (some (xs ++ ys)))) (own T) := by
  intro st vs σ H Q gg hm
  refine hr st vs σ H _ gg fun v H1 g1 => ?_
  rw [wp_bind] at hm
  refine hb _ _ σ H1 _ g1 (wp_mono hm (fun ys hm u H2 g2 => ?_) xcl_push)
  obtain ⟨zs, ez, hq⟩ := wp_of hm
  obtain ⟨hl, ez⟩ := grd_some ez
  cases ez
  obtain ⟨F, w, g⟩ := g2
  have ev : v = .ref a := g.st.2.1
  subst ev
  obtain ⟨b, us2, eb, hb2, pb⟩ := g.top
  obtain ⟨u0, e1', e2⟩ := g.env.2 i _ h
  obtain ⟨o1, _, ⟨a', us, ea, f, ho, hh, pp⟩, _⟩ := l F H2 _ u0 e2
  cases ea
  exact ⟨a, b, us, us2, rfl, eb, hh, g.ext.s _ _ hb2, by rw [pp.length, pb.length, sizeLine_eq]; exact hl, fun p hp => hq _ _ ⟨F, _, g.pop.pop.pushO hp ⟨p, _, rfl, trivial, fun b => Iff.rfl, upd_same, ML.Paired.app pp pb⟩⟩⟩
end
section
variable {ε α β γ δ τ σ1 σ2 : Type} {X : Xc ε} {E : Ent} {env : En} {te ta tb to ti : TE}
/-- own ==, its parts with effects -/
theorem ex_eqXE {mg : Str → Option Value} {T : Ty α} {U : Ty β} {f : α × β → R Empty Bool} {ex : Empty → Exn} {Xs : α × β → Empty → List (Option SP)} (neg : Bool → Bool) {ma : R ε σ1} {mb : σ1 → R ε σ2} {pa : σ1 → α} {pb : σ1 → σ2 → β} {e1 : σ1 → En} {e2 : σ1 → σ2 → En} {S : δ → SP} {e' : δ → En} (out : σ1 → σ2 → Bool → δ)
    (ha : EX X E env ta ma (fun x => val T (pa x)) e1) (hb : ∀ x, EX X E (e1 x) tb (mb x) (fun y => val U (pb x y)) (e2 x)) (hS : ∀ a b c, S (out a b c) = val tBool (neg c) := by intros; rfl) (he : ∀ a b c, e' (out a b c) = e2 a b := by intros; rfl) :
    EX X E env (tOp (rEqX neg (spX mg (fun a : α × β => [val T a.1, val U a.2]) f (fun _ r => val tBool r) (fun _ _ => []) ex Xs)) ta tb) (ma.bind fun x => (mb x).bind fun y => (R.mapE Empty.elim (f (pa x, pb x y))).bind fun r => .ok (out x y r)) S e' := by
  intro st vs σ H Q g hm
  rw [wp_bind] at hm
  refine ha st vs σ H _ g (wp_mono hm (fun a hm v H1 g1 => ?_) fun e h => h)
  rw [wp_bind] at hm
  refine hb a _ _ σ H1 _ g1 (wp_mono hm (fun b hm u H2 g2 => ?_) fun e h => xcl_push e h)
  rw [wp_bind, wp_mapE] at hm
  have c : CallOk (Xc.nv Empty) mg (fun a : α × β => [val T a.1, val U a.2]) f (fun _ r => val tBool r) (fun _ _ => []) ex Xs [.arg 0, .arg 1] 2 (fun x => val tBool x) (fun _ => e2 a b) (f (pa a, pb a b)) [val U (pb a b), val T (pa a)] (e2 a b) :=
    ⟨rfl, (pa a, pb a b), [], [], id, id, lok00, ⟨.inl ⟨_, rfl, rfl⟩, .inl ⟨_, rfl, rfl⟩, trivial⟩, (fun n hn => nomatch hn), wc_id, (fun _ _ _ _ _ h => h), (fun _ => ⟨Nat.le_refl _, fun i S e => ⟨S, e, fun _ _ _ _ h => h⟩⟩), (fun e => e.elim), fun e => e.elim⟩
  have := c.sp (us := [v, u]) (st := st) (vs := vs) (σ := σ) (H := H2) (E := E) (Q := fun v H' => ∃ r, v = .bl r ∧ Q (.bl (neg r)) H') (Φ := fun r => ∀ v H', G E (e2 a b) (val tBool r :: st) σ (v :: vs) H' → ∃ r, v = .bl r ∧ Q (.bl (neg r)) H') rfl g2 (wp_mono hm (fun r hq v H' ⟨F, w, g'⟩ => ⟨r, g'.top, hq _ _ (by rw [hS, he]; exact ⟨F, w, g'.pop.pushV rfl⟩)⟩) fun e => e.elim) fun x k => k
  exact this
end
/-- errors that are not to be: the mirror stops -/
def R.dropE {ε α : Type} (m : R ε α) : R Empty α := match m with
  | .ok a => .ok a
  | _ => .no
@[simp] theorem R.dropE_ok {ε α : Type} (a : α) : (R.ok a : R ε α).dropE = .ok a := rfl
@[simp] theorem R.dropE_er {ε α : Type} (e : ε) : (R.er e : R ε α).dropE = .no := rfl
@[simp] theorem R.dropE_no {ε α : Type} : (R.no : R ε α).dropE = .no := rfl
theorem wp_dropE {ε α : Type} {m : R ε α} {Φ : α → Prop} {Ξ : Empty → Prop} {Ξ' : ε → Prop} (h : wp m.dropE Φ Ξ) : wp m Φ Ξ' := by
  cases m with
  | ok a => exact h
  | er e => exact h.elim
  | no => exact h.elim
theorem FnOk.drop {P : Program} {w : World} {K : PySem.W.Frag} {mg mg2 : Str → Option Value} {base : Heap} {CX : CXT} {k : Nat} {f : Addr} {fd : FuncData} {ps : List Str} {ε A ρ : Type} {As : A → List SP} {f' : A → R ε ρ} {Rr : A → ρ → SP} {Bs : A → ρ → List (Option SP)} {ex : ε → Exn} {Xs : A → ε → List (Option SP)}
    (F : FnOk P w K mg base CX k f fd ps (spX mg2 As f' Rr Bs ex Xs)) : FnOk P w K mg base CX k f fd ps (spX mg2 As (fun a => (f' a).dropE) Rr Bs (fun e : Empty => (e.elim : Exn)) (fun _ (_ : Empty) => [])) :=
  F.imp fun vs H Q W ⟨a, F0, w0, p, h⟩ => ⟨a, F0, w0, p, wp_dropE h⟩
/-! data that are compared, whatever the kinds -/
structure DW {α : Type} (K : PySem.W.Frag) (T : Ty α) where
  dat : α → PyData
  dp : ∀ {F H : Hp} {v : V} {x : α}, Same F H → T.rp F v x → Dp K H v (dat x)
  dep : Nat
  depth : ∀ x, (dat x).depth ≤ dep
  lay : α → Bool
  can : ∀ x, lay x = true → (dat x).canLay0 = true
section
variable {α β : Type} {K : PySem.W.Frag} {T : Ty α} {U : Ty β}
def _root_.ML.DT.dw [DecidableEq α] (D : DT K T) : DW K T := ⟨D.dat, D.dp, D.dep, D.depth, D.lay, D.can⟩
theorem dwp_all (D : DW K T) {F H : Hp} (s : Same F H) : ∀ {vs : List V} {xs : List α}, Paired (T.rp F) vs xs → DpAll K H vs (xs.map D.dat)
  | _, _, .nil => .nil
  | _, _, .cons r t => .cons (D.dp s r) (dwp_all D s t)
theorem dwdepth_all (D : DW K T) (xs : List α) : PyData.depthAll (xs.map D.dat) ≤ D.dep := by
  induction xs with
  | nil => simp [PyData.depthAll]
  | cons x xs ih =>
    have := D.depth x
    simp only [List.map_cons, PyData.depthAll]; omega
theorem dwcan_all (D : DW K T) (xs : List α) (h : xs.all D.lay = true) : PyData.canLayAll0 (xs.map D.dat) = true := by
  induction xs with
  | nil => simp [PyData.canLayAll0]
  | cons x xs ih =>
    rw [List.all_cons, Bool.and_eq_true] at h
    simp only [List.map_cons, PyData.canLayAll0, D.can _ h.1, ih h.2]; rfl
def dwL (D : DW K T) : DW K (tL T) := ⟨fun xs => .list (xs.map D.dat), fun s ⟨a, vs, e, h, p⟩ => by
    rw [e]; exact .lst (.of (s _ _ h)) (dwp_all D s p), D.dep + 1, fun xs => by have := dwdepth_all D xs; simp only [PyData.depth]; omega, fun xs => xs.all D.lay, fun xs h => by simp only [PyData.canLay0]; exact dwcan_all D xs h⟩
def dwU (D : DW K T) : DW K (tU T) := ⟨fun xs => .tuple (xs.map D.dat), fun s ⟨a, vs, e, h, p⟩ => by
    rw [e]; exact .tup (.of (s _ _ h)) (dwp_all D s p), D.dep + 1, fun xs => by have := dwdepth_all D xs; simp only [PyData.depth]; omega, fun xs => xs.all D.lay, fun xs h => by simp only [PyData.canLay0]; exact dwcan_all D xs h⟩
def dwP (D : DW K T) (C : DW K U) : DW K (tP T U) := ⟨fun p => .tuple [D.dat p.1, C.dat p.2], fun s ⟨a, x, y, e, h, h1, h2⟩ => by
    rw [e]; exact .tup (.of (s _ _ h)) (.cons (D.dp s h1) (.cons (C.dp s h2) .nil)), max D.dep C.dep + 1, fun p => by
    have h1 := D.depth p.1; have h2 := C.depth p.2
    simp only [PyData.depth, PyData.depthAll]; omega, fun p => D.lay p.1 && C.lay p.2, fun p h => by
    rw [Bool.and_eq_true] at h
    simp only [PyData.canLay0, PyData.canLayAll0, D.can _ h.1, C.can _ h.2]; rfl⟩
theorem o2_eqW (D : DW K T) {a b : α} (hd : D.dep ≤ 64) : O2 (rEqD K) (val T a) (val T b) (grd ((D.lay a && D.lay b) = true) (some (PyData.eqv (D.dat a) (D.dat b)))) (val tBool) := o2_mk fun c hm F H Q va vb s ha hb hq => by
  obtain ⟨hl, hm⟩ := grd_some hm
  rw [Bool.and_eq_true] at hl
  cases hm
  exact ⟨_, _, D.dp s ha, D.dp s hb, shaped_of (D.can _ hl.1) (D.depth _) hd, shaped_of (D.can _ hl.2) (D.depth _) hd, hq _ rfl⟩
theorem o2_neW (D : DW K T) {a b : α} (hd : D.dep ≤ 64) : O2 (rNeD K) (val T a) (val T b) (grd ((D.lay a && D.lay b) = true) (some (!PyData.eqv (D.dat a) (D.dat b)))) (val tBool) := o2_mk fun c hm F H Q va vb s ha hb hq => by
  obtain ⟨hl, hm⟩ := grd_some hm
  rw [Bool.and_eq_true] at hl
  cases hm
  exact ⟨_, _, D.dp s ha, D.dp s hb, shaped_of (D.can _ hl.1) (D.depth _) hd, shaped_of (D.can _ hl.2) (D.depth _) hd, hq _ rfl⟩
end
section
variable {ε α β γ δ τ : Type} {X : Xc ε} {E : Ent} {env : En} {te ta tb to ti : TE}
/-- own[j], read -/
theorem ex_ixO0 {K : PySem.W.Frag} {φ : V → Prop} {T : Ty α} {xs : List α} {i : Nat} {a : Addr} {S0 : SP} {plug : SP → SP} {m : R ε Int} (hr : EV X E env to (.ok ()) (fun _ => (isVP (.ref a)).sp)) (h : env[i]? = some (some S0)) (l : Lens S0 (muL φ T xs) (.ref a) plug) (hi : EV X E env ti m (val tInt)) :
    EV X E env (tOp (rIxL K) to ti) (m.bind fun j => R.of (atI xs j)) (val T) := by
  intro st vs σ H Q gg hm
  rw [wp_bind] at hm
  refine hr st vs σ H _ gg fun v H1 g1 => ?_
  refine hi _ _ σ H1 _ g1 (wp_mono hm (fun x hm iv H2 g2 => ?_) xcl_push)
  obtain ⟨F2, w2, g2⟩ := g2
  obtain ⟨y, ey, hq⟩ := wp_of hm
  have ev : v = .ref a := g2.st.2.1
  subst ev
  obtain ⟨u0, e1', e2⟩ := g2.env.2 i _ h
  obtain ⟨o1, _, ⟨a', us, ea, f, ho, hh, pp⟩, _⟩ := l F2 H2 _ u0 e2
  cases ea
  obtain ⟨v', f1, f2⟩ := atI_paired pp ey
  exact ⟨a, us, x, v', rfl, g2.top, .of hh, f1, hq v' H2 ⟨F2, w2, g2.pop.pop.pushV f2⟩⟩
end
def p2l {α : Type} (p : α × α) : List α := [p.1, p.2]
theorem p2l_rp {α : Type} {T : Ty α} : ∀ (x : α × α) F H o v, (val (tP T T) x).ok F H o v → (val (tU T) (p2l x)).ok F H o v := fun x F H o v ⟨a, y, z, e, h, p, q⟩ => ⟨a, [y, z], e, h, .cons p (.cons q .nil)⟩
theorem R.gR_bind {ε α β : Type} {p : Prop} [Decidable p] {m : R ε α} {k : α → R ε β} : (gR p m).bind k = gR p (m.bind k) := by
  unfold gR
  split <;> rfl
theorem op_catTK {X : Cx} {K : PySem.W.Frag} (hK : X.K = K) : OpR X (binaryOp .Add) (rCatT K) := hK ▸ op_catT
theorem o2_catU {α : Type} {K : PySem.W.Frag} {T : Ty α} {xs ys : List α} : O2 (rCatT K) (val (tU T) xs) (val (tU T) ys) (grd (0 < xs.length ∧ xs.length + ys.length ≤ 16777216) (some (xs ++ ys))) (val (tU T)) := by
  intro E env st σ vs H Q va vb c ⟨F, w, g⟩ hm hq
  obtain ⟨⟨h0, hl⟩, hm⟩ := grd_some hm
  cases hm
  obtain ⟨b, zs, eb, hb, pb⟩ := g.top
  obtain ⟨a, us, ea, ha, pa⟩ := g.pop.top
  refine ⟨a, b, us, zs, ea, eb, .of (g.ext.s _ _ ha), .of (g.ext.s _ _ hb), fun z => ?_, by rw [pa.length, pb.length, sizeLine_eq]; exact hl, fun z => ?_, fun _ p hp => ?_⟩
  · rw [← pa.length, z] at h0; exact absurd h0 (by simp)
  · have : ys = [] := by
      rw [z] at pb
      cases pb; rfl
    subst this
    refine hq _ _ ⟨F, _, g.pop.pop.pushV ?_⟩
    rw [List.append_nil]
    exact ⟨a, us, rfl, ha, pa⟩
  · have g0 := g.pop.pop
    have u := Ext.newF (F := F) (o := .tup (us ++ zs)) g0.ext.s hp
    exact hq _ _ ⟨_, w, (g0.grow u).pushV ⟨p, us ++ zs, rfl, upd_same, Paired.mono (ML.Paired.app pa pb) fun _ _ => T.mono u.f⟩⟩
end NL

set_option Elab.async false
set_option linter.all false
set_option maxRecDepth 100000
/-! NL: a module's tuple, tuple(list), index -/
namespace NL
open PySem PySem.Spec PyProof.Rows L2 ML
def tGU {α : Type} (K : PySem.W.Frag) (T : Ty α) : Ty (List α) := ⟨fun F v xs => ∃ a vs o its n, v = .ref a ∧ K.lookup a = some o ∧ o.cls = .type "tuple" ∧ o.dict = none ∧ o.data = .seq its n ∧ its.size ≤ sizeLine ∧ Vals vs its.toList ∧ Paired (T.rp F) vs xs,
  fun s ⟨a, vs, o, its, n, h1, h2, h3, h4, h5, h6, h7, p⟩ => ⟨a, vs, o, its, n, h1, h2, h3, h4, h5, h6, h7, Paired.mono p fun _ _ => T.mono s⟩⟩
def vB : V → Value → Bool
  | .str x, .str y _ => decide (x = y)
  | .int i, .int j _ => decide (i = j)
  | _, _ => false
def vsB : List V → List Value → Bool
  | [], [] => true
  | x :: xs, y :: ys => vB x y && vsB xs ys
  | _, _ => false
theorem vB_ok {x : V} {y : Value} (h : vB x y = true) : RelV x y := by
  unfold vB at h
  split at h
  · exact ⟨_, by rw [of_decide_eq_true h]⟩
  · exact ⟨_, by rw [of_decide_eq_true h]⟩
  · cases h
theorem vsB_ok : ∀ {xs : List V} {ys : List Value}, vsB xs ys = true → Vals xs ys
  | [], [], _ => .nil
  | x :: xs, y :: ys, h => by
    obtain ⟨h1, h2⟩ := He.ba (show (vB x y && vsB xs ys) = true from h)
    exact .cons (vB_ok h1) (vsB_ok h2)
  | [], _ :: _, h => by cases h
  | _ :: _, [], h => by cases h
def gtB (x : Str) (vs : List V) : FaX := fun K => match K.lookup (He.ga K x) with
  | some ⟨.type c, none, .seq its _, _⟩ => decide (c = "tuple") && (decide (its.size ≤ 1000) && vsB vs its.toList)
  | _ => false
structure GtF (K : PySem.W.Frag) (x : Str) (vs : List V) : Prop where
  h : ∃ o its n, K.lookup (He.ga K x) = some o ∧ o.cls = .type "tuple" ∧ o.dict = none ∧ o.data = .seq its n ∧ its.size ≤ sizeLine ∧ Vals vs its.toList
theorem gt_ok {K : PySem.W.Frag} {x : Str} {vs : List V} (h : gtB x vs K = true) : GtF K x vs := by
  unfold gtB at h
  split at h
  · rename_i c its n sl e
    obtain ⟨h1, h⟩ := He.ba h
    obtain ⟨h2, h3⟩ := He.ba h
    have e1 := of_decide_eq_true h1
    subst e1
    exact ⟨⟨_, its, n, e, rfl, rfl, rfl, by have := of_decide_eq_true h2; rw [sizeLine_eq]; omega, vsB_ok h3⟩⟩
  · cases h
theorem GtF.t {K : PySem.W.Frag} {x : Str} {vs : List V} (h : GtF K x vs) (H : Hp) : SqT K H (He.ga K x) vs := by
  obtain ⟨o, its, n, h1, h2, _, h4, h5, h6⟩ := h.h
  exact .inr ⟨o, its, n, h1, h2, h4, h5, h6⟩
theorem paired_map {α : Type} {T : Ty α} {F : Hp} {f : α → V} (h : ∀ x, T.rp F (f x) x) : ∀ xs : List α, Paired (T.rp F) (xs.map f) xs
  | [] => .nil
  | x :: xs => .cons (h x) (paired_map h xs)
section
variable {ε α β γ δ τ : Type} {X : Xc ε} {E : Ent} {env : En} {te ta tb to ti : TE} {K : PySem.W.Frag}
theorem ex_gtS {x : Str} {xs : List Str} (h : GtF K x (xs.map V.str)) : EV X E env (tC (.ref (He.ga K x))) (.ok xs) (val (tGU K tStr)) := ex_c fun F => by
  obtain ⟨o, its, n, h1, h2, h3, h4, h5, h6⟩ := h.h
  exact ⟨_, _, o, its, n, rfl, h1, h2, h3, h4, h5, h6, paired_map (T := tStr) (fun _ => rfl) xs⟩
theorem ex_gtI {x : Str} {xs : List Int} (h : GtF K x (xs.map V.int)) : EV X E env (tC (.ref (He.ga K x))) (.ok xs) (val (tGU K tInt)) := ex_c fun F => by
  obtain ⟨o, its, n, h1, h2, h3, h4, h5, h6⟩ := h.h
  exact ⟨_, _, o, its, n, rfl, h1, h2, h3, h4, h5, h6, paired_map (T := tInt) (fun _ => rfl) xs⟩
theorem gu_sq {T : Ty α} {F H : Hp} {v : V} {xs : List α} (h : (tGU K T).rp F v xs) : ∃ a vs, v = .ref a ∧ SqT K H a vs ∧ Paired (T.rp F) vs xs := by
  obtain ⟨a, vs, o, its, n, h1, h2, h3, h4, h5, h6, h7, p⟩ := h
  exact ⟨a, vs, h1, .inr ⟨o, its, n, h2, h3, h5, h6, h7⟩, p⟩
theorem o1_lenG {T : Ty α} {xs : List α} : O1 (fun v H Q => ∃ p ys, [v] = [V.ref p] ∧ (SqL K H p ys ∨ SqT K H p ys) ∧ Q (.int ys.length) H) (val (tGU K T) xs) (some (xs.length : Int)) (val tInt) := o1_mk fun c hm F H Q va s h hq => by
  cases hm
  obtain ⟨a, vs, e, h, p⟩ := gu_sq (H := H) h
  exact ⟨a, vs, by rw [e], .inr h, hq _ (by show V.int _ = V.int _; rw [p.length])⟩
theorem o2_ixG {T : Ty α} {xs : List α} {i : Int} : O2 (rIxT K) (val (tGU K T) xs) (val tInt i) (atI xs i) (val T) := o2_mk fun c hm F H Q va vb s h hb hq => by
  obtain ⟨a, vs, e, h, p⟩ := gu_sq (H := H) h
  obtain ⟨v, e1, e2⟩ := atI_paired p hm
  exact ⟨a, vs, i, v, e, hb, h, e1, hq v e2⟩
theorem o2_inG [DecidableEq α] {T : Ty α} (c : FC T) {x : α} {xs : List α} : O2 (rIn K false) (val T x) (val (tGU K T) xs) (some (decide (x ∈ xs))) (val tBool) := o2_mk fun k hm F H Q va vb s ha h hq => by
  obtain ⟨p, us, e, h, pp⟩ := gu_sq (H := H) h
  cases hm
  have e1 := c.rp F va x ha
  have e2 := paired_code c pp
  subst e1 e2
  exact ⟨p, _, e, .inr h, c.fl x, all_flat c xs, hq _ (by rw [inV_code]; rfl)⟩
def idxA [DecidableEq α] : List α → α → Option Int
  | [], _ => none
  | y :: ys, z => if y = z then some 0 else (idxA ys z).map (· + 1)
theorem idxA_ok [DecidableEq α] : ∀ {ys : List α} {z : α} {c : Int}, idxA ys z = some c → ∃ j : Nat, c = (j : Int) ∧ ys[j]? = some z ∧ ∀ m, m < j → ys[m]? ≠ some z
  | [], _, _, h => by cases h
  | y :: ys, z, c, h => by
    unfold idxA at h
    by_cases e : y = z
    · rw [if_pos e] at h
      cases h
      exact ⟨0, rfl, by rw [e]; rfl, fun m hm => absurd hm (Nat.not_lt_zero m)⟩
    · rw [if_neg e] at h
      obtain ⟨d, h1, h2⟩ := Option.map_eq_some_iff.mp h
      obtain ⟨j, e1, e2, e3⟩ := idxA_ok h1
      refine ⟨j + 1, by rw [← h2, e1]; rfl, by simpa using e2, fun m hm => ?_⟩
      cases m with
      | zero => intro z; exact e (Option.some.inj z)
      | succ m => simpa using e3 m (by omega)
def rTI (K : PySem.W.Frag) : V → List V → Hp → VK → Prop := fun x xs H Q => ∃ p, ∃ ys : List Str, ∃ z j, x = .ref p ∧ xs = [.str z] ∧ SqT K H p (ys.map V.str) ∧ ys[j]? = some z ∧ (∀ m, m < j → ys[m]? ≠ some z) ∧ Q (.int (j : Nat)) H
theorem mt_tupIdxK {X : Cx} (hK : X.K = K) : MtR X "tuple.index" (rTI K) := hK ▸ mt_tup_index
theorem pe_bmK {X : Cx} {o e : Expr} {es : List Expr} {to : TE} {t : TA} {name : Str} {apos cpos : Pos} {T id : String} {r : V → List V → Hp → VK → Prop} (hK : X.K = K) (pa : PlainAttrs T) (slot : Slot T name id) (hty : typeOf (.builtin id) = pure (.type "method_descriptor")) (hm : MtR X id r) (ho : PE X o to) (ha : PA X (e :: es) t)
    (hbase : attributeBase o name X.env (eval o X.env) = eval o X.env := by rfl)
    (hfew : ((backTo cpos (starEach (e :: es) X.env)).all (fun x => !x.1) && (backToKw cpos (keywordEach [] X.env)).all (fun x => x.1.isSome)
      && decide ((e :: es).length + ([] : List Keyword).length + (if ([] : List Keyword).isEmpty then 0 else 1) < 30)) = true := by rfl)
    (hline : (apos.endLine == cpos.line) = true := by rfl) (hs : starEach (e :: es) X.env = (false, eval e X.env) :: starEach es X.env := by rfl) (hplain : (backTo cpos (starEach es X.env)).any (·.1) = false := by rfl) :
    PE X (.Call (.Attribute o name apos) (e :: es) [] cpos) (tBM K T r to t) := by
  subst hK
  exact pe_bm pa slot hty hm ho ha hbase hfew hline hs hplain
theorem ex_tupIdx {m : R ε (List Str)} {mz : R ε Str} (ho : EV X E env to m (val (tGU K tStr))) (he : EV X E env te mz (val tStr)) : EV X E env (tBM K "tuple" (rTI K) to (tCons te tNil)) (m.bind fun ys => mz.bind fun z => R.of (idxA ys z)) (val tInt) := by
  intro st vs σ H Q g hm
  rw [wp_bind] at hm
  refine ho st vs σ H _ g (wp_mono hm (fun ys hm v H1 g1 => ?_) fun e h => h)
  obtain ⟨F, w, g1⟩ := g1
  obtain ⟨a, us, o, its, n, h1, h2, h3, h4, h5, h6, h7, p⟩ := g1.top
  subst h1
  refine ⟨.inr (.inl ⟨rfl, o, h2, h3, h4⟩), ?_⟩
  rw [wp_bind] at hm
  refine he _ _ σ H1 _ ⟨F, w, g1⟩ (wp_mono hm (fun z hm u H2 g2 => ?_) xcl_push)
  obtain ⟨c, ec, hq⟩ := wp_of hm
  obtain ⟨F2, w2, g2⟩ := g2
  obtain ⟨j, e1, e2, e3⟩ := idxA_ok ec
  have eus : us = ys.map V.str := by
    have : ∀ {us : List V} {ys : List Str}, Paired (fun v x => tStr.rp F v x) us ys → us = ys.map V.str := by
      intro us ys h
      induction h with
      | nil => rfl
      | cons h _ ih => rw [show _ = V.str _ from h, ih]; rfl
    exact this p
  subst eus
  have eu : u = V.str z := g2.top
  subst eu
  subst e1
  exact ⟨a, ys, z, j, rfl, rfl, .inr ⟨o, its, n, h2, h3, h5, h6, h7⟩, e2, e3, hq _ _ ⟨F2, _, (g2.pop.pop).pushV rfl⟩⟩
/-- tuple(list) -/
def rTupOf (K : PySem.W.Frag) : V → Hp → VK → Prop := fun v H Q => ∃ p ys, [v] = [V.ref p] ∧ ((SqL K H p ys ∧ ∀ l, H l = none → Q (.ref l) (upd H l (.tup ys))) ∨ (SqT K H p ys ∧ Q (.ref p) H))
theorem call_tuple_ofK {X : Cx} (hK : X.K = K) : CallR X (.type "tuple") (fun xs H Q => ∃ p ys, xs = [V.ref p] ∧ ((SqL K H p ys ∧ ∀ l, H l = none → Q (.ref l) (upd H l (.tup ys))) ∨ (SqT K H p ys ∧ Q (.ref p) H))) := hK ▸ call_tuple_of
theorem o1_tupL {T : Ty α} {xs : List α} : O1 (fun v H Q => ∃ p ys, [v] = [V.ref p] ∧ ((SqL K H p ys ∧ ∀ l, H l = none → Q (.ref l) (upd H l (.tup ys))) ∨ (SqT K H p ys ∧ Q (.ref p) H))) (val (tL T) xs) (some xs) (val (tU T)) := by
  intro E env st σ vs H Q va c ⟨F, w, g⟩ hm hq
  cases hm
  obtain ⟨a, us, e, h, p⟩ := g.top
  refine ⟨a, us, by rw [e], .inl ⟨.of (g.ext.s _ _ h), fun l hl => ?_⟩⟩
  have g0 := g.pop
  have u := Ext.newF (F := F) (o := .tup us) g0.ext.s hl
  exact hq _ _ ⟨_, w, (g0.grow u).pushV ⟨l, us, rfl, upd_same, Paired.mono p fun _ _ => T.mono u.f⟩⟩
theorem o1_tupU {T : Ty α} {xs : List α} : O1 (fun v H Q => ∃ p ys, [v] = [V.ref p] ∧ ((SqL K H p ys ∧ ∀ l, H l = none → Q (.ref l) (upd H l (.tup ys))) ∨ (SqT K H p ys ∧ Q (.ref p) H))) (val (tU T) xs) (some xs) (val (tU T)) := o1_mk fun c hm F H Q va s ⟨a, us, e, h, p⟩ hq => by
  cases hm
  exact ⟨a, us, by rw [e], .inr ⟨.of (s _ _ h), hq _ ⟨a, us, rfl, h, p⟩⟩⟩
theorem o1_lenY2 {T : Ty α} {x : α} {mo : Option Int} (k : ∀ F v c, mo = some c → T.rp F v x → ∃ a vs, v = .ref a ∧ (F a = some (.lst vs) ∨ F a = some (.tup vs)) ∧ (vs.length : Int) = c) : O1 (fun v H Q => ∃ p ys, [v] = [V.ref p] ∧ (SqL K H p ys ∨ SqT K H p ys) ∧ Q (.int ys.length) H) (val T x) mo (val tInt) := o1_mk fun c hm F H Q va s ha hq => by
  obtain ⟨a, vs, e, h, hl⟩ := k F va c hm ha
  refine ⟨a, vs, by rw [e], ?_, hq _ (by show V.int _ = V.int _; rw [hl])⟩
  rcases h with h | h
  · exact .inl (.of (s _ _ h))
  · exact .inr (.of (s _ _ h))
end
end NL

set_option Elab.async false
set_option linter.all false
set_option maxRecDepth 100000
set_option maxHeartbeats 4000000
/-! NL: super().__init__(..) as a def's first statement -/
namespace NL
open PySem PySem.Spec PyProof.Rows L2 ML
/-- a block at the head of its def -/
structure PSA (X : Cx) (b0 : List Stmt) (st : List Stmt) (t : TS) : Prop where
  run : ∀ (pins : List (Addr × Obj)) (s : Shared) (σ : L2.St) (H : Hp) (D : Ends), L2.Inv X pins σ H s → t D σ H → PySem.wpAt (model X.prog X.w) X.A (.func b0 X.env) (execs st X.env) (L2.SP X pins D) X.xe s
/-- what is known of the class C, whose __init__ says super().__init__, found at f2 -/
structure SupC (K : PySem.W.Frag) (C f2 : Addr) : Prop where
  hD : ∃ cd, PySem.W.clsIn K C = some cd
  hs : PySem.W.mroIn K C (.ref C) = some true
  ho : PySem.W.nsIn K cStatics "thirdparty.any" = some none
  hm : PySem.W.ks_superIn K C C "__init__" = some (some (.ref f2))
  ht : PySem.W.typeIn K (.ref f2) = some (.type "function")
  fi : PySem.W.fnIn K f2 = true
/-- the running def, its code, its cell -/
structure SupD (X : Cx) (C : Addr) : Prop where
  fn : ∃ f fd oc od osl ar, X.env.func = some f ∧ X.K.lookup f = some ⟨oc, od, .func fd, osl⟩ ∧ (fd.params.posonlyargs ++ fd.params.args).head? = some ar ∧ X.N[0]? = some ar.arg ∧ X.env.scope.names.lookup ar.arg = some .local
  code : ∃ cda ccl cdd vs ccs file tf, X.env.code = .ref cda ∧ X.K.lookup cda = some ⟨ccl, cdd, .fields vs, ccs⟩ ∧ vs[2]? = some (.str file tf) ∧ ((X.prog.main.file : Str) == file) = true
  top : (X.prog.main.scope.names.lookup ("super" : Str)).isSome = false
  blt : X.mg "super" = none
  gl : Gl X "super"
  cl : X.env.kindOf "__class__" = some .free
  cell : ∃ cc cl cld csl, X.env.cells.lookup ("__class__" : Str) = some cc ∧ X.K.lookup cc = some ⟨cl, cld, .cell (some (.ref C)), csl⟩
section
variable {X : Cx} {CX : CXT} {C f2 : Addr} {b0 rest : List Stmt} {k : Nat} {fd2 : FuncData} {ps2 : List Str} {sp : Sp} {ds : List Value} {dvs : List V} {E : L2.St → XK} {e : Expr} {es : List Expr} {t : TA} {u : TS} {p0 p1 apos pos pos2 : Pos} {pl : Sem Bool}
theorem ld_super {E : Value → Shared → Prop} {pins : List (Addr × Obj)} {s : Shared} {σ : L2.St} {H : Hp} {Q : Value → Shared → Prop} (I : L2.Inv X pins σ H s) (hg : Gl X "super") (hm : X.mg "super" = none) (h : Q (.type "super") s) : wpAny (model X.prog X.w) X.A (loadName X.env "super") Q E s := by
  obtain ⟨mb, h1, h2⟩ := I.mod.blt
  exact PySem.W.ks_loadName_global I.ok.kind hg (Calls.loadGlobal_builtin (by rw [I.ok.glob]; exact I.mod.glob.keeps I.bk) hm (by rw [I.ok.blt]; exact h1.keeps I.bk) ((h2 "super" (by decide)).trans (by decide +kernel)) h)
theorem psa_super (S : SupC X.K C f2) (B : SupD X C) (F : FnOk X.prog X.w X.K X.mg X.base CX k f2 fd2 ps2 sp) (hr : Room k X.A) (hb : Binds X.K fd2 ps2 ds) (hd : Vals dvs ds) (hx : ∀ σ, PassesAt CX X σ (E σ)) (ha : PA X (e :: es) t) (h2 : PSs X rest u)
    (hst : starEach (e :: es) X.env = (false, eval e X.env) :: starEach es X.env := by rfl) (hpl : (backTo pos (starEach es X.env)).any (·.1) = false := by rfl)
    (he : eval (.Call (.Attribute (.Call (.Name "super" p0) [] [] p1) "__init__" apos) (e :: es) [] pos) X.env = (do
      let ov ← attributeBase (.Call (.Name "super" p0) [] [] p1) "__init__" X.env (eval (.Call (.Name "super" p0) [] [] p1) X.env)
      standAt apos.atName
      let (f, first) ← holding [ov] (getMethod ov "__init__" pl)
      callWith pos f first (backTo pos (starEach (e :: es) X.env)) []) := by rfl) (hi : interactive X.env = false := by rfl)
    (hs : swapsWith (.Call (.Attribute (.Call (.Name "super" p0) [] [] p1) "__init__" apos) (e :: es) [] pos) none pos2.line X.env = pure false := by rfl) :
    PSA X b0 (.Expr (.Call (.Attribute (.Call (.Name "super" p0) [] [] p1) "__init__" apos) (e :: es) [] pos) pos2 :: rest) (tSeq (tDrop (tMethSW C "__init__" sp dvs E (tVar 0) t)) u) := by
  refine ⟨fun pins s σ H D I h => ?_⟩
  obtain ⟨v, ev, a, dx, fs, rfl, ea, l, q⟩ := h
  obtain ⟨f, fd, oc, od, osl, ar, hfu, lk, hp, hN, hka⟩ := B.fn
  obtain ⟨cda, ccl, cdd, cvs, ccs, file, tf, hcode, lkc, hvs, hfile⟩ := B.code
  obtain ⟨cc, cl, cld, csl, hcc, lkcell⟩ := B.cell
  obtain ⟨cd, hD⟩ := S.hD
  have XK : X.K.In s.heap := I.kIn
  have hi0 := I.hok a _ ea
  obtain ⟨_, _, hdxa, hia, _⟩ := hi0
  obtain ⟨m, hn, hl⟩ := I.loc
  obtain ⟨uu, ru, lu⟩ := hl 0 ar.arg (.ref a) hN ev (.inl hka)
  obtain rfl : uu = Value.ref a := ru
  have hma : m ar.arg = some (.ref a) := by
    rcases lu with ⟨_, hm⟩ | ⟨hk, _⟩
    · exact hm
    · have hk' : X.env.scope.names.lookup ar.arg = some .cell ∨ X.env.scope.names.lookup ar.arg = some .free := hk
      rw [hka] at hk'
      rcases hk' with z | z <;> cases z
  refine ks_wpAt_execs_cons (ks_wpAt_Expr_any (ks_wpAt_MethodCall ?_ he) hi hs)
  refine ks_wpAt_super_base B.gl B.cl (by decide) hfu (XK _ _ lk) rfl hp hcode (XK _ _ lkc) rfl hvs hfile B.top ?_
  refine ld_super I B.gl B.blt ⟨rfl, ?_⟩
  refine wpAny_loadName_free I.ok.kind B.cl hcc ⟨_, XK _ _ lkcell, rfl⟩ ?_
  refine wpAny_loadName_local I.ok.kind hka hn hma ?_
  obtain ⟨oD, hD1, hD2⟩ : ∃ oD, s.heap.get? C = some oD ∧ oD.data = .cls cd := by
    have hD' := hD
    unfold PySem.W.clsIn at hD'
    split at hD'
    · rename_i c d cd' sl ho
      cases hD'
      exact ⟨_, XK _ _ ho, rfl⟩
    · cases hD'
  have II : PySem.W.InstAt s.heap a (PySem.W.instObj C dx) C (some (s.heap.objs.getD dx default)) → True := fun _ => trivial
  have hne : a ≠ C := fun z => by
    rw [z, hD1] at hia
    cases hia
    cases hD2
  refine ks_wpAny_isType_cls hD1 hD2 ⟨rfl, ?_⟩
  obtain ⟨hh, g, d, tk, os⟩ := s
  refine ks_wpAny_call_super hD1 hD2 hia rfl (fun c z => by cases z) (PySem.W.looks_mroIn XK S.hs) (fun h' e1 k1 => ?_)
  have I1 : L2.Inv X pins σ H ⟨h', g, d, tk, os⟩ := I.kept (t' := tk) k1
  obtain ⟨of, hof, hofc⟩ : ∃ of, h'.get? f2 = some of ∧ of.cls = .type "function" := by
    have ht' : (X.K.lookup f2).map (·.cls) = some (.type "function") := S.ht
    cases z : X.K.lookup f2 with
    | none => rw [z] at ht'; cases ht'
    | some of => rw [z] at ht'; exact ⟨of, I1.kIn _ _ z, Option.some.inj ht'⟩
  have hm := S.hm
  unfold PySem.W.ks_superIn at hm
  rw [hD] at hm
  refine ks_wpAny_getMethod_super e1 (PySem.W.looks_opaque I1.kIn S.ho) (l₀ := cd.mro) ?_ rfl I1.kIn hm hof hofc hne (by decide) ?_
  · exact fun A Q E s k q => wpAny_bind ((PySem.W.looks_clsIn I1.kIn hD) A _ E s k (wpAny_pure q))
  have I2 : L2.Inv X pins σ H ⟨h'.push { cls := .type "method", data := .fields #[.ref f2, .ref a] }, g, d, tk + 1, os⟩ := I1.kept (t' := tk + 1) fun b o z => Heap.get?_push_of_some _ z
  have hq2 : (h'.push { cls := .type "method", data := .fields #[.ref f2, .ref a] }).get? h'.objs.size = some (PySem.W.methodObj (.ref f2) (.ref a)) := Heap.get?_push_at rfl rfl
  have I3 : L2.Inv X ((h'.objs.size, PySem.W.methodObj (.ref f2) (.ref a)) :: pins) σ H ⟨h'.push { cls := .type "method", data := .fields #[.ref f2, .ref a] }, g, d, tk + 1, os⟩ := by
    refine I2.pins_of fun p hp => ?_
    rcases List.mem_cons.mp hp with rfl | hp
    · have hlt := I1.lt
      refine ⟨hq2, I1.hok.fresh (Nat.le_refl _), Nat.ne_of_gt hlt, I1.nofs (Nat.le_refl _), fun v z => by cases z⟩
    · exact I2.pin p (List.mem_append_right _ hp)
  refine PySem.W.callWith_of (P := PySem.W.MethP X.K h'.objs.size f2 (.ref a)) ?_ (PySem.W.keeps_M S.fi) ?_
  · show ((backTo pos (starEach (e :: es) X.env)).any (·.1) || _) = false
    rw [hst]
    show ((false || (backTo pos (starEach es X.env)).any (·.1)) || false) = false
    rw [hpl]; rfl
  rw [hst]
  have hev := ha.run pos _ _ σ H _ I3 q
  rw [hst] at hev
  refine Calls.evalArgs_plain (thn hev fun us s4 ⟨vs, H4, I4, r4, q4⟩ => ?_)
  have hq4 := (I4.pin (h'.objs.size, PySem.W.methodObj (.ref f2) (.ref a)) (List.mem_append_right _ (List.mem_cons_self ..))).1
  refine ⟨⟨hq4, I4.kIn⟩, ?_⟩
  have I5 : L2.Inv X pins σ H4 s4 := I4.pins_of fun p hp => I4.pin p (List.mem_append_right _ (List.mem_cons_of_mem _ hp))
  have r1 : Vals (V.ref a :: vs) (Value.ref a :: us) := .cons rfl r4
  have r2 : Vals ((.ref a :: vs) ++ dvs) ((.ref a :: us) ++ ds) := r1.append hd
  have hl2 : ((.ref a :: us) ++ ds).length = ps2.length := by rw [← r2.length]; exact F.len _ _ _ _ q4
  refine wpAny_call (PySem.W.method_call hq4 (codeAny_mono (F.run X.A X.stack s4 H4 ⟨.ref a :: us, []⟩ ((.ref a :: us) ++ ds) ((.ref a :: vs) ++ dvs) _ (E σ) hr I5.env0 (hb s4 (.ref a :: us) I5.kIn hl2) r2 q4) fun r s' hq => ?_))
  cases r with
  | error e => exact hx σ pins H4 s4 e s' I5 hq
  | ok fl =>
    cases fl with
    | ret w =>
      obtain ⟨z, H', I', rz, ez⟩ := I5.after hq
      exact wpAt_of_wpAny (h2.run pins s' σ H' D I' ez)
    | next => exact False.elim hq
    | brk => exact False.elim hq
    | cont => exact False.elim hq
end
/-! ### the def that says super() -/
/-- a def with the cell __class__ alone, of the class C -/
structure FunS (K : PySem.W.Frag) (x qual : Str) (params : Arguments) (body : List Stmt) (scope : Scope) (C : Addr) (file : Str) (f : Addr) (fd : FuncData) : Prop where
  ex : ∃ (oc : Value) (od : Option Addr) (doc pm ctv : Value) (osl : Array (Option Value)) (c cc : Addr), fd = PySem.W.fnX x qual params body scope [("__class__", cc)] .none .none doc pm none (.ref c) ctv ∧ K.lookup f = some ⟨oc, od, .func fd, osl⟩ ∧
    PySem.W.codeIn K (.ref c) qual = true ∧ (∃ ccl cdd vs ccs tf, K.lookup c = some ⟨ccl, cdd, .fields vs, ccs⟩ ∧ vs[2]? = some (.str file tf)) ∧ ∃ cl cld csl, K.lookup cc = some ⟨cl, cld, .cell (some (.ref C)), csl⟩
  kp : PySem.W.keepIn K (.ref f) = true
/-- what is known of the program -/
def PrgS (P : Program) (file : Str) : Prop := ((P.main.file : Str) == file) = true ∧ (P.main.scope.names.lookup ("super" : Str)).isSome = false
theorem startF_none {N : List Str} {vs : List V} (h : vs.length + 1 ≤ N.length) : NdefX.startF N vs [none] = L2.start N vs := by
  unfold NdefX.startF L2.start
  have e : N.length - vs.length = (N.length - vs.length - 1) + 1 := by omega
  rw [e, List.replicate_succ]
  rfl
abbrev nfS (x qual : Str) (params : Arguments) (body : List Stmt) (scope : Scope) (cc c : Addr) : NdefX.NF := ⟨x, qual, params, body, scope, [("__class__", cc)], c⟩
section
variable {P : Program} {w : World} {K : PySem.W.Frag} {mg : Str → Option Value} {base : Heap} {x qual file : Str} {params : Arguments} {body : List Stmt} {scope : Scope} {C f : Addr} {fd : FuncData}
theorem FunS.ok {CX : CXT} {N ps : List Str} {k : Nat} {sp : Sp} (F : FunS K x qual params body scope C file f fd) (HP : PrgS P file) (S : NdefX.NScope N ps ["__class__"] scope)
    (par : ∃ ar, (params.posonlyargs ++ params.args).head? = some ar ∧ N[0]? = some ar.arg ∧ scope.names.lookup ar.arg = some .local) (hsup : scope.names.lookup ("super" : Str) = some .globalImplicit) (hms : mg "super" = none)
    (len : ∀ vs H Q E, sp vs H Q E → vs.length = ps.length)
    (hbody : ∀ (c cc : Addr) (A : Around) (outer : List Env) (s : Shared) (H : Hp) (vs : List V) (Q : VK) (E : XK), Room k (A.deeper (NdefX.envF (nfS x qual params body scope cc c) f s.heap.objs.size)) → sp vs H Q E → SupD (NdefX.ncx CX P w K mg base N (nfS x qual params body scope cc c) f A outer s H E) C →
      ∃ t, PSA (NdefX.ncx CX P w K mg base N (nfS x qual params body scope cc c) f A outer s H E) body body t ∧ t { nx := fun _ H' => Q .non H', rt := Q } (L2.start N vs) H) : FnOk P w K mg base CX (k + 1) f fd ps sp := by
  obtain ⟨oc, od, doc, pm, ctv, osl, c, cc, rfl, lk, hcd, ⟨ccl, cdd, cvs, ccs, tf, lkc, hvs⟩, cl, cld, csl, lkcell⟩ := F.ex
  refine ⟨len, fun A outer s H args us vs Q E hr e0 hb r hsp => ?_⟩
  have hl := len _ _ _ _ hsp
  have KX : K.In s.heap := e0.mod.kin.keeps fun b o e => (e0.bs b o e).1
  have lim : s.heap.NoLimit := e0.mod.nolimit.keeps fun b o e => (e0.bs b o e).1
  have hn1 : ps.length + 1 ≤ N.length := by
    have q := congrArg List.length S.pre
    rw [List.length_take, List.length_append] at q
    simp only [List.length_cons, List.length_nil] at q
    omega
  have CA : NdefX.CellsAt [(("__class__" : Str), cc)] ["__class__"] [none] s.heap H := by
    have look : ∀ y a, ([(("__class__" : Str), cc)] : List (Str × Addr)).lookup y = some a → y = "__class__" ∧ a = cc := fun y a e => by
      have m := PySem.mem_of_lookup e
      simp only [List.mem_cons, List.mem_nil_iff, or_false, Prod.mk.injEq] at m
      exact m
    refine ⟨rfl, fun y a e => ?_, fun y z a e1 e2 => ?_, fun i y e => ?_⟩
    · obtain ⟨_, rfl⟩ := look y a e
      exact ⟨(e0.bs _ _ (e0.mod.kin _ _ lkcell)).2, some (.ref C), _, KX _ _ lkcell, rfl⟩
    · exact (look y a e1).1.trans (look z a e2).1.symm
    · cases i with
      | zero =>
        cases e
        exact ⟨cc, rfl, fun v ev => by cases ev⟩
      | succ i => cases e
  refine codeAny_call_function hr.depth (KX _ _ lk) rfl S.co S.gen rfl (PySem.W.codeRec_of KX hcd) (hb _ _ _ _ ?_)
  refine wpAny_newFunctionEnv S.nocell (fun ⟨n, _⟩ hy => S.par n (List.of_mem_zip hy).1) (fun h₁ hns hsb => ⟨lim.fresh _ hsb, ?_⟩) S.kind
  show codeAny _ _ (.func body (NdefX.envF (nfS x qual params body scope cc c) f s.heap.objs.size)) _ _
  refine ks_codeAny_funcAt ?_
  have kp : ∀ b o, s.heap.get? b = some o → h₁.get? b = some o := fun b o e => hsb.extBut b o (Nat.ne_of_lt (Heap.lt_size e)) (Heap.get?_push_of_some _ e)
  have hD : SupD (NdefX.ncx CX P w K mg base N (nfS x qual params body scope cc c) f A outer s H E) C := by
    obtain ⟨ar, h1, h2, h3⟩ := par
    refine ⟨⟨f, _, oc, od, osl, ar, rfl, lk, h1, h2, h3⟩, ⟨c, ccl, cdd, cvs, ccs, file, tf, rfl, lkc, hvs, HP.1⟩, HP.2, hms, ?_, ?_, ⟨cc, cl, cld, csl, rfl, lkcell⟩⟩
    · exact hsup
    · exact S.frk "__class__" (by simp)
  obtain ⟨t, ht, hq⟩ := hbody c cc A outer s H vs Q E (hr.deeper _) hsp hD
  have I : L2.Inv (NdefX.ncx CX P w K mg base N (nfS x qual params body scope cc c) f A outer s H E) [] (NdefX.startF N vs [none]) H { s with heap := h₁, toks := s.toks + (ps.zip us).length } := NdefX.inv_startN S hr.hd e0 hl r CA hns kp
  rw [startF_none (by omega)] at I
  refine ks_wpAt_mono (ht.run [] _ (L2.start N vs) H _ I hq) (fun fl s' hs => ?_) fun e s' hs => hs
  have fin : ∀ {σ' : L2.St} {H' : Hp} {v : V} {u : Value}, L2.Inv (NdefX.ncx CX P w K mg base N (nfS x qual params body scope cc c) f A outer s H E) [] σ' H' s' → L2.RelV v u → Q v H' → CE outer P w H s Q u s' :=
    fun {σ' H' v u} J rv q => ⟨v, H', J.os, J.bare, J.base, J.hok, rv, q⟩
  cases fl with
  | ret u =>
    obtain ⟨v, σ', H', J, rv, q⟩ := hs
    exact fin J rv q
  | next =>
    obtain ⟨σ', H', J, q⟩ := hs
    exact fin (v := V.non) (u := Value.none) J rfl q
  | brk =>
    obtain ⟨_, _, _, q⟩ := hs
    exact False.elim q
  | cont =>
    obtain ⟨_, _, _, q⟩ := hs
    exact False.elim q
theorem FunS.binds {ps : List Str} (F : FunS K x qual params body scope C file f fd) (h : ∀ (cc c : Addr) (doc pm ctv : Value) (us : List Value), us.length = ps.length → bindArgs (PySem.W.fnX x qual params body scope [("__class__", cc)] .none .none doc pm none (.ref c) ctv) ⟨us, []⟩ = pure (ps.zip us)) : Binds K fd ps [] := by
  obtain ⟨oc, od, doc, pm, ctv, osl, c, cc, rfl, lk, hcd, _, _⟩ := F.ex
  intro s us X hlen
  rw [List.append_nil] at hlen ⊢
  refine BindsTo.of_looks fun M => ?_
  rw [h cc c doc pm ctv us hlen]
  exact PySem.W.Looks.of_pure rfl
end
/-! ### facts of the top -/
structure DefS where
  ad : PySem.W.Frag → Addr
  cls : PySem.W.Frag → Addr
  name : Str
  qual : Str
  params : Arguments
  body : List Stmt
  scope : Scope
  file : Str
def fnXS (K : PySem.W.Frag) (a : Addr) : He.FnW := match K.lookup a with
  | some ⟨_, _, .func fd, _⟩ => some (fd.name, fd.qualname, fd.params, fd.body, fd.scope, fd.globals, [], fd.builtins)
  | _ => none
def DefS.val (d : DefS) : He.FnW := some (d.name, d.qual, d.params, .stmts d.body, d.scope, mainGlobals, [], builtinsNs)
def DefS.ok (K : PySem.W.Frag) (d : DefS) : Bool := PySem.W.keepIn K (.ref (d.ad K)) && (match K.lookup (d.ad K) with
  | some ⟨_, _, .func fd, _⟩ => PySem.W.codeIn K fd.code d.qual && ((match fd.defaults with
      | .none => true
      | _ => false) && ((match fd.kwdefaults with
      | .none => true
      | _ => false) && (fd.annotations.isNone && ((match fd.closure with
      | [q] => decide (q.1 = "__class__") && (match K.lookup q.2 with
        | some ⟨_, _, .cell (some (.ref C)), _⟩ => decide (C = d.cls K)
        | _ => false)
      | _ => false) && (match fd.code with
      | .ref c => (match K.lookup c with
        | some ⟨_, _, .fields vs, _⟩ => (match (vs[2]? : Option Value) with
          | some (Value.str fl _) => decide (fl = d.file)
          | _ => false)
        | _ => false)
      | _ => false)))))
  | _ => false)
theorem DefS.funS {K : PySem.W.Frag} {d : DefS} (e : fnXS K (d.ad K) = d.val) (c : d.ok K = true) : ∃ fd, FunS K d.name d.qual d.params d.body d.scope (d.cls K) d.file (d.ad K) fd := by
  obtain ⟨kp, c2⟩ := He.ba c
  unfold fnXS at e
  cases q : K.lookup (d.ad K) with
  | none =>
    rw [q] at c2
    cases c2
  | some o =>
    obtain ⟨oc, od, dt, osl⟩ := o
    rw [q] at c2 e
    cases dt with
    | func fd =>
      obtain ⟨n1, n2, n3, n4, n5, n6, n7, n8, n9, n10, n11, n12, n13, n14, n15⟩ := fd
      have e2 : (some (n1, n2, n3, n4, n5, n6, [], n15) : He.FnW) = some (d.name, d.qual, d.params, .stmts d.body, d.scope, mainGlobals, [], builtinsNs) := e
      simp only [Option.some.injEq, Prod.mk.injEq] at e2
      obtain ⟨h1, h2, h3, h4, h5, h6, h7, h8⟩ := e2
      subst h1 h2 h3 h4 h5 h6 h8
      dsimp only at c2
      obtain ⟨k1, c3⟩ := He.ba c2
      obtain ⟨k2, c4⟩ := He.ba c3
      obtain ⟨k3, c5⟩ := He.ba c4
      obtain ⟨k4, c6⟩ := He.ba c5
      obtain ⟨k5, k6⟩ := He.ba c6
      have z8 : n8 = .none := by
        split at k2
        · rfl
        · cases k2
      have z9 : n9 = .none := by
        split at k3
        · rfl
        · cases k3
      have z12 : n12 = none := by
        cases n12 with
        | none => rfl
        | some _ => cases k4
      subst z8 z9 z12
      split at k5
      · rename_i q7
        obtain ⟨qn, qa⟩ := q7
        obtain ⟨m1, m2⟩ := He.ba k5
        have m1 : qn = "__class__" := of_decide_eq_true m1
        subst m1
        dsimp only at m2
        split at m2
        · rename_i C cl cld csl lkcell
          have m3 := of_decide_eq_true m2
          subst m3
          split at k6
          · rename_i cda
            split at k6
            · rename_i vs _ _ _ lkc
              split at k6
              · rename_i fl tf hv
                have m4 := of_decide_eq_true k6
                exact ⟨_, ⟨oc, od, n10, n11, n14, osl, cda, qa, rfl, q, k1, ⟨_, _, _, _, tf, lkc, by rw [← m4]; exact hv⟩, _, _, _, lkcell⟩, kp⟩
              · cases k6
            · cases k6
          · cases k6
        · cases m2
      · cases k5
    | _ => cases c2
def supB (C : PySem.W.Frag → Addr) (f2 : PySem.W.Frag → Addr) : FaX := fun K => (PySem.W.clsIn K (C K)).isSome && (decide (PySem.W.mroIn K (C K) (.ref (C K)) = some true) && (He.eqO (PySem.W.nsIn K cStatics "thirdparty.any") (some none) && (He.eqO (PySem.W.ks_superIn K (C K) (C K) "__init__") (some (some (.ref (f2 K)))) &&
  (decide (PySem.W.typeIn K (.ref (f2 K)) = some (.type "function")) && PySem.W.fnIn K (f2 K)))))
theorem supB_ok {K : PySem.W.Frag} {C f2 : PySem.W.Frag → Addr} (h : supB C f2 K = true) : SupC K (C K) (f2 K) := by
  obtain ⟨h1, h⟩ := He.ba h
  obtain ⟨h2, h⟩ := He.ba h
  obtain ⟨h3, h⟩ := He.ba h
  obtain ⟨h4, h⟩ := He.ba h
  obtain ⟨h5, h6⟩ := He.ba h
  exact ⟨Option.isSome_iff_exists.mp h1, of_decide_eq_true h2, He.eqO_ok h3, He.eqO_ok h4, of_decide_eq_true h5, h6⟩
/-- the base's __init__ -/
def suA (K : PySem.W.Frag) (C : Addr) : Addr := match PySem.W.ks_superIn K C C "__init__" with
  | some (some (.ref a)) => a
  | _ => 0
/-! ### the Hook -/
def asS (g : Addr → Option Obj) (n : Nat) : List Addr := ((He.asD g n).flatMap fun a => match g a with
  | some ⟨_, _, .func fd, _⟩ => fd.closure.map (·.2)
  | _ => []) ++ (cStatics :: He.asD g n)
def obsS (fa : List FaX) (fn : List DefX) (fs : List DefS) (K : PySem.W.Frag) : He.AlD := ((fa.all fun f => f K) && ((fn.all fun d => d.ok K) && fs.all fun d => d.ok K), (fn.map fun d => fnX K (d.ad K)) ++ fs.map fun d => fnXS K (d.ad K))
def valS (fn : List DefX) (fs : List DefS) : He.AlD := (true, fn.map DefX.val ++ fs.map DefS.val)
def SaysS (fa : List FaX) (fn : List DefX) (fs : List DefS) (K : PySem.W.Frag) : Prop := obsS fa fn fs K = valS fn fs
def obsSG (n : Nat) (fa : List FaX) (fn : List DefX) (fs : List DefS) (g : Addr → Option Obj) : He.AlD := obsS fa fn fs (He.frG g (asS g n))
def hookS (n : Nat) (fa : List FaX) (fn : List DefX) (fs : List DefS) : PySem.W.Hook where
  α := He.AlD
  obs := fun s => obsSG n fa fn fs s.heap.get?
  val := fun _ => valS fn fs
  says := fun _ h => ∃ K : PySem.W.Frag, K.In h ∧ SaysS fa fn fs K
  of := fun _ _ e => ⟨_, He.frG_in, e⟩
  keeps := fun _ _ _ ⟨K, hK, c⟩ k => ⟨K, PySem.W.Frag.In.keeps hK k, c⟩
theorem obsSG_eq {n : Nat} {fa : List FaX} {fn : List DefX} {fs : List DefS} {g : Addr → Option Obj} {s : Shared} (h : ∀ a, g a = s.heap.get? a) : obsSG n fa fn fs g = (hookS n fa fn fs).obs s := by
  have e : g = s.heap.get? := funext h
  rw [e] <;> rfl
section
variable {fa : List FaX} {fn : List DefX} {fs : List DefS} {K : PySem.W.Frag}
theorem SaysS.toX (c : SaysS fa fn fs K) : SaysX fa fn K := by
  have c1 : ((fa.all fun f => f K) && ((fn.all fun d => d.ok K) && fs.all fun d => d.ok K)) = true := congrArg (fun z : He.AlD => z.1) c
  have e : (fn.map fun d => fnX K (d.ad K)) ++ (fs.map fun d => fnXS K (d.ad K)) = fn.map DefX.val ++ fs.map DefS.val := congrArg (fun z : He.AlD => z.2) c
  have e1 := (List.append_inj e (by simp)).1
  obtain ⟨k1, k2⟩ := He.ba c1
  obtain ⟨k2, k3⟩ := He.ba k2
  show ((fa.all fun f => f K) && fn.all fun d => d.ok K, fn.map fun d => fnX K (d.ad K)) = (true, fn.map DefX.val)
  rw [k1, k2, e1]
  rfl
theorem SaysS.sup (c : SaysS fa fn fs K) (i : Nat) {d : DefS} (h : fs[i]? = some d := by rfl) : ∃ fd, FunS K d.name d.qual d.params d.body d.scope (d.cls K) d.file (d.ad K) fd := by
  have c1 : ((fa.all fun f => f K) && ((fn.all fun d => d.ok K) && fs.all fun d => d.ok K)) = true := congrArg (fun z : He.AlD => z.1) c
  have e : (fn.map fun d => fnX K (d.ad K)) ++ (fs.map fun d => fnXS K (d.ad K)) = fn.map DefX.val ++ fs.map DefS.val := congrArg (fun z : He.AlD => z.2) c
  have e1 := (List.append_inj e (by simp)).2
  obtain ⟨k1, k2⟩ := He.ba c1
  obtain ⟨k2, k3⟩ := He.ba k2
  have e2 : (fs.map fun d => fnXS K (d.ad K))[i]? = (fs.map DefS.val)[i]? := by rw [e1]
  rw [List.getElem?_map, List.getElem?_map, h] at e2
  exact DefS.funS (Option.some.inj e2) (List.all_eq_true.mp k3 d (List.mem_of_getElem? h))
end
/-! ### constants of a class, read off the class -/
structure CcI (K : PySem.W.Frag) (C : Addr) (f : Str) (i : Int) : Prop where
  rd : ClX.CRead K C (.type "type")
  at_ : ∃ t, ClX.CVal K C (.type "type") f (.int i) (.int i t)
theorem pe_cc {X : Cx} {x f : Str} {C : Addr} {i : Int} {p pos : Pos} (hg : Gl X x) (h : X.mg x = some (.ref C)) (k : CcI X.K C f i) (hb : attributeBase (.Name x p) f X.env (eval (.Name x p) X.env) = eval (.Name x p) X.env := by rfl) (hd : (x == ("__debug__" : Str)) = false := by decide) : PE X (.Attribute (.Name x p) f pos) (tC (.int i)) := by
  refine ⟨fun pins s σ H Q I q => ?_⟩
  obtain ⟨t, kv⟩ := k.at_
  refine attr_of hb (thn ((pe_glob (v := .ref C) hg h rfl hd : PE X (.Name x p) (tC (.ref C))).run pins s σ H (fun v H1 => v = .ref C ∧ Q (.int i) H1) I ⟨rfl, q⟩) fun u s1 ⟨x, H1, I1, rx, ex, q1⟩ => ?_)
  subst ex
  obtain rfl : u = Value.ref C := rx
  exact ClX.getcval_ok I1 k.rd kv fun s2 I2 => ⟨_, H1, I2, kv.rel, q1⟩
def ccB (C f : Str) (i : Int) : FaX := fun K => PySem.W.readsIn K (He.ga K C) (.type "type") && (He.eqO (PySem.W.specialIn K (.ref (He.ga K C)) "__getattribute__") (some (some (.builtin "type.__getattribute__"))) && (match PySem.W.findCls K (.ref (He.ga K C)) (.type "type") f with
  | some (.val (.int j _)) => decide (j = i)
  | _ => false))
theorem cc_ok {K : PySem.W.Frag} {C f : Str} {i : Int} (h : ccB C f i K = true) : CcI K (He.ga K C) f i := by
  obtain ⟨h1, h⟩ := He.ba h
  obtain ⟨h2, h3⟩ := He.ba h
  refine ⟨⟨h1, He.eqO_ok h2⟩, ?_⟩
  split at h3
  · rename_i j t e
    have := of_decide_eq_true h3
    subst this
    exact ⟨t, e, ⟨t, rfl⟩⟩
  · cases h3
/-! ### an if whose ways go on apart -/
def tOrS (u1 u2 : TS) : TS := fun D σ H => u1 D σ H ∨ u2 D σ H
theorem pss_or {X : Cx} {st : List Stmt} {u1 u2 : TS} (h1 : PSs X st u1) (h2 : PSs X st u2) : PSs X st (tOrS u1 u2) := ⟨fun pins s σ H D I h => h.elim (fun q => h1.run pins s σ H D I q) fun q => h2.run pins s σ H D I q⟩
theorem bk_ifs {ε α β γ δ : Type} {X : Xc ε} {E : Ent} {env : En} {tt : TT} {t1 t2 u1 u2 : TS} {post : Post γ} {mt : R ε δ} {b : δ → Bool} {et : δ → En} {ma : δ → R ε α} {mb : δ → R ε β} {k1 : α → R ε γ} {k2 : β → R ε γ} {eA : α → En} {eB : β → En} (ht : TX X E env tt mt b et)
    (h1 : ∀ x, BK X E (et x) t1 (ma x) (pN E eA)) (h2 : ∀ x, BK X E (et x) t2 (mb x) (pN E eB)) (hk1 : ∀ x, BK X E (eA x) u1 (k1 x) post) (hk2 : ∀ x, BK X E (eB x) u2 (k2 x) post) :
    BK X E env (tSeq (tIfS tt t1 t2) (tOrS u1 u2)) (mt.bind fun x => if b x = true then (ma x).bind k1 else (mb x).bind k2) post := by
  intro st vs σ H D g hm
  rw [wp_bind] at hm
  refine ht st vs σ H _ g (wp_mono hm (fun x hm H1 g1 => ?_) fun e h => h σ)
  show if b x = true then t1 _ σ H1 else t2 _ σ H1
  cases hb' : b x with
  | true =>
    rw [hb', if_pos rfl, wp_bind] at hm
    rw [if_pos rfl]
    refine h1 x st vs σ H1 _ g1 (wp_mono hm (fun r hr σ' H' g2 => ?_) fun e h => h)
    exact Or.inl (hk1 r st vs σ' H' D g2 hr)
  | false =>
    rw [hb', if_neg Bool.false_ne_true, wp_bind] at hm
    rw [if_neg Bool.false_ne_true]
    refine h2 x st vs σ H1 _ g1 (wp_mono hm (fun r hr σ' H' g2 => ?_) fun e h => h)
    exact Or.inr (hk2 r st vs σ' H' D g2 hr)
end NL

set_option Elab.async false
set_option linter.all false
set_option maxRecDepth 100000
set_option maxHeartbeats 4000000
/-! NL: a dict of one's own, read in place, walked -/
namespace NL
open PySem PySem.Spec PyProof.Rows L2 ML
open PySem.Sem (wp)
section
variable {κ : Type} [DecidableEq κ] {ε α β γ δ σs : Type} {X : Xc ε} {E : Ent} {env : En} {te ta tb to ti : TE} {u : TS} {post : Post γ}
/-- a slot that holds a dict that may be read -/
def RdD (S : SP) (kt : KeyT κ) (T : Ty α) (xs : List (κ × α)) : Prop := ∀ F H o v, S.ok F H o v → ∃ a us, v = .ref a ∧ Rd H a (.dK us) ∧ Paired (PK kt T F) us xs
theorem rdD_mu {φ : V → Prop} {kt : KeyT κ} {T : Ty α} {xs : List (κ × α)} : RdD (muD φ kt T xs) kt T xs := fun F H o v ⟨a, us, e, f, ho, h, p⟩ => ⟨a, us, e, .of h, p⟩
/-- a dict of one's own while it is walked -/
def lkD (kt : KeyT κ) (T : Ty α) (a : Addr) (od : Obj) (us : List (Key × V)) (xs : List (κ × α)) : SP := ⟨fun F H o v => v = .ref a ∧ (∀ b, o b ↔ b = a) ∧ H a = some (.frz od (.dK us)) ∧ Paired (PK kt T F) us xs,
  fun ⟨e, ho, h, p⟩ s k => ⟨e, ho, (k a ((ho a).mpr rfl)).trans h, pk_mono s p⟩⟩
theorem rdD_lk {kt : KeyT κ} {T : Ty α} {a : Addr} {od : Obj} {us : List (Key × V)} {xs : List (κ × α)} : RdD (lkD kt T a od us xs) kt T xs := fun F H o v ⟨e, ho, h, p⟩ => ⟨a, us, e, .inr ⟨od, h⟩, p⟩
theorem pin_lkD {kt : KeyT κ} {T : Ty α} {a : Addr} {od : Obj} {us : List (Key × V)} {xs : List (κ × α)} : Pin (lkD kt T a od us xs) (.ref a) := fun F H o v ⟨e, _⟩ => e
theorem DGet.rd {H : Hp} {a : Addr} {kvs : List (Key × V)} {k : Key} (e : Rd H a (.dK kvs)) : DGet H a (kV k) (valV kvs k) := .inl ⟨kvs, k, e, rfl, rfl⟩
/-- own[k], read -/
theorem ex_getDO {P : SP} {kt : KeyT κ} {T : Ty α} {xs : List (κ × α)} {i : Nat} {a : Addr} {S0 : SP} {plug : SP → SP} {m : R ε κ} (hr : EV X E env to (.ok ()) (fun _ => (isVP (.ref a)).sp)) (h : env[i]? = some (some S0)) (l : Lens S0 P (.ref a) plug) (hP : RdD P kt T xs) (hi : EV X E env ti m (val kt.T)) :
    EV X E env (tDGet to ti) (m.bind fun j => R.of (lookX xs j)) (val T) := by
  intro st vs σ H Q gg hm
  rw [wp_bind] at hm
  refine hr st vs σ H _ gg fun v H1 g1 => ?_
  refine hi _ _ σ H1 _ g1 (wp_mono hm (fun x hm iv H2 g2 => ?_) xcl_push)
  obtain ⟨F2, w2, g2⟩ := g2
  obtain ⟨y, ey, hq⟩ := wp_of hm
  have ev : v = .ref a := g2.st.2.1
  subst ev
  obtain ⟨u0, e1', e2⟩ := g2.env.2 i _ h
  obtain ⟨o1, _, hp, _⟩ := l F2 H2 _ u0 e2
  obtain ⟨a', us, ea, hh, pp⟩ := hP _ _ _ _ hp
  cases ea
  have ek := kt.val F2 iv x g2.top
  subst ek
  rcases pk_look pp x with ⟨z, _⟩ | ⟨x', v', z1, z2, r⟩
  · rw [z] at ey; cases ey
  · rw [z1] at ey
    cases ey
    have dg := DGet.rd (k := kt.f x) hh
    rw [z2] at dg
    exact ⟨a, v', rfl, dg, hq v' H2 ⟨F2, w2, g2.pop.pop.pushV r⟩⟩
/-- k in own -/
theorem ex_inDO {P : SP} {kt : KeyT κ} {T : Ty α} {xs : List (κ × α)} {i : Nat} {a : Addr} {S0 : SP} {plug : SP → SP} {m : R ε κ} (hr : EV X E env to (.ok ()) (fun _ => (isVP (.ref a)).sp)) (h : env[i]? = some (some S0)) (l : Lens S0 P (.ref a) plug) (hP : RdD P kt T xs) (hi : EV X E env ti m (val kt.T)) :
    EV X E env (tOp rInD ti to) (m.bind fun j => R.ok (lookX xs j).isSome) (val tBool) := by
  intro st vs σ H Q gg hm
  rw [wp_bind] at hm
  refine hi st vs σ H _ gg (wp_mono hm (fun x hm iv H1 g1 => ?_) fun e h => h)
  refine hr _ _ σ H1 _ g1 fun v H2 g2 => ?_
  obtain ⟨F2, w2, g2⟩ := g2
  have ev : v = .ref a := g2.st.1
  subst ev
  obtain ⟨u0, e1', e2⟩ := g2.env.2 i _ h
  obtain ⟨o1, _, hp, _⟩ := l F2 H2 _ u0 e2
  obtain ⟨a', us, ea, hh, pp⟩ := hP _ _ _ _ hp
  cases ea
  have ek := kt.val F2 iv x g2.pop.top
  subst ek
  refine ⟨a, _, rfl, DGet.rd hh, hm _ _ ⟨F2, w2, ?_⟩⟩
  rw [pk_some pp]
  exact g2.pop.pop.pushV rfl
theorem bk_forNK {kt : KeyT κ} {T : Ty α} {xs : List (κ × α)} {i : Nat} {a : Addr} {S1 : SP} {g : TG} {tb : TS} {eL : SP → σs → En} {eX : SP → κ → σs → En} {s0 : σs} {f : κ → σs → R ε σs} {k : σs → R ε γ} (hkt : ∀ F x, kt.T.rp F (kV (kt.f x)) x) (h : env[i]? = some (some (muD (pinV a) kt T xs)))
    (hL : ∀ P s, (eL P s)[i]? = some (some P)) (hU : ∀ P Q s, (eL P s).set i (some Q) = eL Q s) (hS : ∀ F H o v, (muD (pinV a) kt T xs).ok F H o v → S1.ok F H o v) (h0 : ∀ P, Fgt (env.set i (some P)) (eL P s0)) (hg : ∀ P x s, AS E (eL P s) g (val kt.T x) (eX P x s))
    (hb : ∀ od us x s, BK X E (eX (lkD kt T a od us xs) x s) tb (f x s) (pN E (eL (lkD kt T a od us xs)))) (hk : ∀ s, BK X E (eL S1 s) u (k s) post) :
    BK X E env (tSeq (tLock (tFor (iKeys (tVar i)) g tb)) u) ((forN (xs.map fun p => p.1) s0 f).bind k) post := by
  intro st vs σ H D gg hm
  obtain ⟨F, w, g0⟩ := gg
  obtain ⟨v0, e1, a', us, ea, fa, ho, hh, pp⟩ := g0.env.2 i _ h
  cases ea
  cases fa
  refine ⟨a, .dK us, hh, trivial, fun od => ?_⟩
  obtain ⟨o1, ⟨a2, us2, ea2, _, ho2, hh2, pp2⟩, k1, k2⟩ := GG.chgP g0 h (lens_id pin_muD)
  cases ea2
  rw [hh] at hh2
  cases hh2
  have g1 := k2 (.frz od (.dK us)) (lkD kt T a od us xs) ((ho2 a).mpr rfl) ⟨rfl, ho2, upd_same, pp2⟩
  have g1' : G E (eL (lkD kt T a od us xs) s0) st σ vs (upd H a (.frz od (.dK us))) := (show G E _ st σ vs _ from ⟨F, w, g1⟩).fgt (h0 _)
  have hi : i < env.length := (List.getElem?_eq_some_iff.mp h).1
  rw [wp_bind] at hm
  refine ⟨.ref a, ?_, a, od, rfl, .inl ⟨us, upd_same, ?_⟩⟩
  · obtain ⟨v1, q1, q2, _⟩ := g1.env.2 i (lkD kt T a od us xs) (by rw [List.getElem?_set_self hi]; rfl)
    rw [q1, q2]
  refine ⟨fun j m σ' H' => m = (xs.map fun p => p.1).length - j ∧ ∃ s, G E (eL (lkD kt T a od us xs) s) st σ' vs H' ∧ wp (forN ((xs.map fun p => p.1).drop j) s f) (fun s => wp (k s) (fun g => post g st vs D) (fun e => ∀ σ', xcl X E st vs σ' e)) (fun e => ∀ σ', xcl X E st vs σ' e), ⟨_, rfl, s0, g1', by simpa using wp_mono hm (fun _ h => h) fun e h => h⟩, ?_⟩
  rintro j m σ' H' ⟨rfl, s, g2, e⟩
  obtain ⟨F2, w2, g2⟩ := g2
  obtain ⟨v2, q1, rfl, q3, q4, q5⟩ := g2.env.2 i _ (hL _ s)
  have ln : us.length = xs.length := q5.length
  cases hd : (xs.map fun p => p.1).drop j with
  | nil =>
    rw [hd] at e
    have hj : us.length ≤ j := by
      have := congrArg List.length hd
      rw [List.length_drop, List.length_map, List.length_nil] at this
      omega
    refine .inl ⟨⟨q4, hj⟩, q4, ?_⟩
    obtain ⟨o3, ⟨_, ho3, _, pp3⟩, _, k3⟩ := GG.chgP g2 (hL _ s) (lens_id pin_lkD)
    have g3 := k3 (.dK us) S1 ((ho3 a).mpr rfl) (hS _ _ _ _ ⟨a, us, rfl, rfl, ho3, upd_same, pp3⟩)
    have g3' : GG E (eL S1 s) st σ' vs (upd H' a (.dK us)) F2 w2 := by
      have := hU (lkD kt T a od us xs) S1 s
      rw [← this]
      exact g3
    exact hk s st vs σ' _ D ⟨F2, w2, g3'⟩ e
  | cons x r =>
    rw [hd] at e
    obtain ⟨d1, d2⟩ := drop_cons hd
    have e' := (wp_bind (m := f x s) (k := fun s' => forN r s' f)).mp e
    have hlt : j < (xs.map fun p => p.1).length := (List.getElem?_eq_some_iff.mp d1).1
    rw [List.length_map] at hlt
    refine .inr ⟨⟨q4, by omega⟩, fun σ'' H'' => ∃ m', m' < (xs.map fun p => p.1).length - j ∧ m' = (xs.map fun p => p.1).length - (j + 1) ∧ ∃ s, G E (eL (lkD kt T a od us xs) s) st σ'' vs H'' ∧ wp (forN ((xs.map fun p => p.1).drop (j + 1)) s f) (fun s => wp (k s) (fun g => post g st vs D) (fun e => ∀ σ', xcl X E st vs σ' e)) (fun e => ∀ σ', xcl X E st vs σ' e), fun σ'' H'' ⟨m', h1, h2, h3⟩ => ⟨m', h1, h2, h3⟩, ?_⟩
    rintro xv H'' ⟨rfl, ke, va, hke, rfl⟩
    have hx : ke = kt.f x := by
      rw [List.getElem?_map] at d1
      obtain ⟨y, hy1, hy2⟩ := Option.map_eq_some_iff.mp d1
      obtain ⟨q, hq1, hq2⟩ := Paired.get q5 hy1
      rw [hke] at hq1
      cases hq1
      rw [← hy2]
      exact hq2.1
    subst hx
    have gx : G E (eL (lkD kt T a od us xs) s) (val kt.T x :: st) σ' (kV (kt.f x) :: vs) H'' := ⟨F2, w2, g2.pushV (hkt F2 x)⟩
    refine hg _ x s _ _ σ' H'' _ (kV (kt.f x)) gx fun σ2 H2 g3 => ?_
    exact hb od us x s _ _ σ2 H2 _ g3 (wp_mono e' (fun s' e2 σ3 H3 g4 => ⟨_, by rw [List.length_map]; omega, rfl, s', g4, by rw [d2]; exact e2⟩) fun e h σ' => h σ')
theorem hkt_int : ∀ F x, kInt.T.rp F (kV (kInt.f x)) x := fun _ _ => rfl
theorem hkt_str : ∀ F x, kStr.T.rp F (kV (kStr.f x)) x := fun _ _ => rfl
end
end NL

set_option Elab.async false
set_option linter.all false
set_option maxRecDepth 100000
set_option maxHeartbeats 4000000
/-! NL: masks -/
namespace NL
open PySem PySem.Spec PyProof.Rows L2 ML
open PySem.Sem (wp)
def rAndM : R2 := fun x y H Q => ∃ (i : Int) (k : Nat), x = .int i ∧ y = .int (2 ^ k - 1) ∧ Q (.int (i % 2 ^ k)) H
theorem op_andMK {X : Cx} : OpR X (binaryOp .BitAnd) rAndM := op_andM
theorem o2_andM {k : Nat} {M a b : Int} (hM : M = 2 ^ k) : O2 rAndM (val tInt a) (val tInt b) (grd (b = M - 1) (some (a % M))) (val tInt) := o2_mk fun c hm F H Q va vb s ha hb hq => by
  obtain ⟨h1, h2⟩ := grd_some hm
  cases h2
  subst hM
  have ea : va = .int a := ha
  have eb : vb = .int b := hb
  subst ea eb
  subst h1
  exact ⟨a, k, rfl, rfl, hq _ rfl⟩
/-- code that is never reached -/
theorem bk_never {ε γ : Type} {X : Xc ε} {E : Ent} {env : En} {t : TS} {post : Post γ} : BK X E env t (R.no : R ε γ) post := fun _ _ _ _ _ _ hm => hm.elim
theorem pss_never {X : Cx} {st : List Stmt} : PSs X st tNever := ⟨fun _ _ _ _ _ _ h => h.elim⟩
end NL

set_option Elab.async false
set_option linter.all false
set_option maxRecDepth 100000
set_option maxHeartbeats 4000000
/-! NL: tables of the module with text keys; upper -/
namespace NL
open PySem PySem.Spec PyProof.Rows L2 ML
open PySem.Sem (wp)
/-! ### the table's entries -/
def entB : List DictEntry → List (Str × Int) → Bool
  | [], [] => true
  | e :: es, p :: ps => (match e.key with
    | .str x _ => decide (x = p.1)
    | _ => false) && ((match e.val with
    | .int j _ => decide (j = p.2)
    | _ => false) && entB es ps)
  | _, _ => false
theorem entB_ok : ∀ {es : List DictEntry} {ps : List (Str × Int)}, entB es ps = true → es.any (·.refKey) = false ∧ ∀ z, (lookX ps z = none ∧ es.find? (·.key.isStr z) = none) ∨ ∃ i t e, lookX ps z = some i ∧ es.find? (·.key.isStr z) = some e ∧ e.val = .int i t
  | [], [], _ => ⟨rfl, fun z => .inl ⟨rfl, rfl⟩⟩
  | e :: es, p :: ps, h => by
    have h : ((match e.key with
      | .str x _ => decide (x = p.1)
      | _ => false) && ((match e.val with
      | .int j _ => decide (j = p.2)
      | _ => false) && entB es ps)) = true := h
    obtain ⟨h1, h⟩ := He.ba h
    obtain ⟨h2, h3⟩ := He.ba h
    obtain ⟨k1, k2⟩ := entB_ok h3
    obtain ⟨hash, key, val⟩ := e
    dsimp only at h1 h2
    cases key with
    | str x t =>
      have h1 : x = p.1 := of_decide_eq_true h1
      cases val with
      | int j t2 =>
        have h2 : j = p.2 := of_decide_eq_true h2
        refine ⟨by rw [List.any_cons, k1]; rfl, fun z => ?_⟩
        unfold lookX
        rw [List.find?_cons, List.find?_cons]
        by_cases c : p.1 = z
        · have c2 : Value.isStr (.str x t) z = true := by
            show (x == z) = true
            rw [h1, c]
            exact beq_self_eq_true _
          rw [decide_eq_true c, c2]
          exact .inr ⟨p.2, t2, _, rfl, rfl, by rw [h2]⟩
        · have c2 : Value.isStr (.str x t) z = false := by
            show (x == z) = false
            rw [h1]
            exact beq_eq_false_iff_ne.mpr c
          rw [decide_eq_false c, c2]
          exact k2 z
      | _ => cases h2
    | _ => cases h1
  | [], _ :: _, h => by cases h
  | _ :: _, [], h => by cases h
/-- the table d is told by tbl -/
structure TabF (K : PySem.W.Frag) (w : World) (d : Addr) (tbl : List (Str × Int)) : Prop where
  kd : ∃ es n, KDict K w d es n
  vl : ∀ z, (lookX tbl z = none ∧ PySem.W.nsIn K d z = some none) ∨ ∃ i t, lookX tbl z = some i ∧ PySem.W.nsIn K d z = some (some (.int i t))
def tabB (x : Str) (tbl : List (Str × Int)) : FaX := fun K => match K.lookup (He.ga K x) with
  | some ⟨_, _, .dict es _, _⟩ => entB es.toList tbl
  | _ => false
theorem tab_ok {K : PySem.W.Frag} {w : World} {x : Str} {tbl : List (Str × Int)} (h : tabB x tbl K = true) (kd : ∃ es n, KDict K w (He.ga K x) es n) : TabF K w (He.ga K x) tbl := by
  refine ⟨kd, fun z => ?_⟩
  unfold tabB at h
  unfold PySem.W.nsIn
  split at h
  · rename_i c od es n sl e
    obtain ⟨h1, h2⟩ := entB_ok h
    rw [e]
    rcases h2 z with ⟨q1, q2⟩ | ⟨i, t, en, q1, q2, q3⟩
    · refine .inl ⟨q1, ?_⟩
      show (match es.toList.find? (·.key.isStr z) with
        | some e => some (some e.val)
        | none => if es.toList.any (·.refKey) then none else some none) = some none
      rw [q2, h1]
      rfl
    · refine .inr ⟨i, t, q1, ?_⟩
      show (match es.toList.find? (·.key.isStr z) with
        | some e => some (some e.val)
        | none => if es.toList.any (·.refKey) then none else some none) = _
      rw [q2]
      show some (some en.val) = _
      rw [q3]
  · cases h
def tTB (d : Addr) : Ty Unit := ⟨fun F v _ => v = .ref d, fun s h => h⟩
def rInT (K : PySem.W.Frag) (d : Addr) : R2 := fun x y H Q => ∃ (z : Str) (r : Option Value), x = .str z ∧ y = .ref d ∧ PySem.W.nsIn K d z = some r ∧ Q (.bl r.isSome) H
def rNotInT (K : PySem.W.Frag) (d : Addr) : R2 := fun x y H Q => ∃ (z : Str) (r : Option Value), x = .str z ∧ y = .ref d ∧ PySem.W.nsIn K d z = some r ∧ Q (.bl (!r.isSome)) H
def rItT (K : PySem.W.Frag) (d : Addr) : R2 := fun x y H Q => ∃ (z : Str) (u0 : Value) (v0 : V), x = .ref d ∧ y = .str z ∧ PySem.W.nsIn K d z = some (some u0) ∧ RelV v0 u0 ∧ Q v0 H
section
variable {X : Cx} {K : PySem.W.Frag} {w : World} {d : Addr} {tbl : List (Str × Int)}
theorem op_inT (hK : X.K = K) (hw : X.w = w) (h : TabF K w d tbl) : OpR X (compareOp .In) (rInT K d) := by
  subst hK hw
  obtain ⟨es, n, D⟩ := h.kd
  exact op_in_kd D
theorem op_notInT (hK : X.K = K) (hw : X.w = w) (h : TabF K w d tbl) : OpR X (compareOp .NotIn) (rNotInT K d) := by
  subst hK hw
  obtain ⟨es, n, D⟩ := h.kd
  exact op_notIn_kd D
theorem pe_tabget {o i : Expr} {to ti : TE} {pos : Pos} (hK : X.K = K) (hw : X.w = w) (h : TabF K w d tbl) (ho : PE X o to) (hi : PE X i ti) (hs : NoSl i) : PE X (.Subscript o i pos) (tOp (rItT K d) to ti) := by
  subst hK hw
  obtain ⟨es, n, D⟩ := h.kd
  refine ⟨fun pins s σ H Q I h => ?_⟩
  refine subD_of PySem.F.slot_dict_getitem.lookup hs (thn (ho.run pins s σ H _ I h) fun u s1 ⟨x, H1, I1, rx, q1⟩ => thn (hi.run pins s1 σ H1 _ I1 q1) fun iv s2 ⟨y, H2, I2, ry, q2⟩ => ?_)
  have q3 := q2
  obtain ⟨z, u0, v0, ex, ey, e, r, q⟩ := q2
  subst ex
  obtain rfl : u = Value.ref d := rx
  exact ⟨kd_type D I2, op_item_kd D pins s2 σ H2 (.ref d) y (.ref d) iv Q I2 (show L2.RelV (.ref d) (.ref d) from rfl) ry q3⟩
theorem o2_inT (h : TabF K w d tbl) {z : Str} : O2 (rInT K d) (val tStr z) (val (tTB d) ()) (some (lookX tbl z).isSome) (val tBool) := o2_mk fun c hm F H Q va vb s ha hb hq => by
  cases hm
  have ha : va = .str z := ha
  have hb : vb = .ref d := hb
  subst ha hb
  rcases h.vl z with ⟨e1, e2⟩ | ⟨i, t, e1, e2⟩
  · exact ⟨z, _, rfl, rfl, e2, hq _ (by rw [e1]; rfl)⟩
  · exact ⟨z, _, rfl, rfl, e2, hq _ (by rw [e1]; rfl)⟩
theorem o2_notInT (h : TabF K w d tbl) {z : Str} : O2 (rNotInT K d) (val tStr z) (val (tTB d) ()) (some (!(lookX tbl z).isSome)) (val tBool) := o2_mk fun c hm F H Q va vb s ha hb hq => by
  cases hm
  have ha : va = .str z := ha
  have hb : vb = .ref d := hb
  subst ha hb
  rcases h.vl z with ⟨e1, e2⟩ | ⟨i, t, e1, e2⟩
  · exact ⟨z, _, rfl, rfl, e2, hq _ (by rw [e1]; rfl)⟩
  · exact ⟨z, _, rfl, rfl, e2, hq _ (by rw [e1]; rfl)⟩
theorem o2_getT (h : TabF K w d tbl) {z : Str} : O2 (rItT K d) (val (tTB d) ()) (val tStr z) (lookX tbl z) (val tInt) := o2_mk fun c hm F H Q va vb s ha hb hq => by
  have ha : va = .ref d := ha
  have hb : vb = .str z := hb
  subst ha hb
  rcases h.vl z with ⟨e1, e2⟩ | ⟨i, t, e1, e2⟩
  · rw [e1] at hm; cases hm
  · rw [e1] at hm
    cases hm
    exact ⟨z, _, .int c, rfl, rfl, e2, ⟨t, rfl⟩, hq _ rfl⟩
end
section
variable {ε : Type} {X : Xc ε} {E : Ent} {env : En} {to : TE}
theorem ex_tb {d : Addr} : EV X E env (tC (.ref d)) (.ok ()) (val (tTB d)) := ex_c fun _ => rfl
abbrev rUp : V → List V → Hp → VK → Prop := fun x xs H Q => ∃ a, x = .str a ∧ xs = [] ∧ a.length ≤ 5592405 ∧ Q (.str (Txt.upper a)) H
theorem pe_up {X : Cx} {o : Expr} {apos pos : Pos} (ho : PE X o to) (hbase : attributeBase o "upper" X.env (eval o X.env) = eval o X.env := by rfl) (hline : (apos.endLine == pos.line) = true := by rfl) : PE X (.Call (.Attribute o "upper" apos) [] [] pos) (tM0 rUp to) :=
  pe_m0 PySem.F.slot_str_upper PySem.F.type_str_upper mt_upper ho hbase hline
theorem ex_up {m : R ε Str} (ho : EV X E env to m (val tStr)) : EV X E env (tM0 rUp to) (m.bind fun a => R.of (grd (a.length ≤ 5592405) (some (Txt.upper a)))) (val tStr) := by
  intro st vs σ H Q g hm
  rw [wp_bind] at hm
  refine ho st vs σ H _ g (wp_mono hm (fun a hm v H1 g1 => ?_) fun e h => h)
  obtain ⟨F, w, g1⟩ := g1
  obtain ⟨y, ey, hq⟩ := wp_of hm
  obtain ⟨h1, h2⟩ := grd_some ey
  cases h2
  have ev : v = .str a := g1.top
  subst ev
  exact ⟨⟨a, rfl⟩, a, rfl, rfl, h1, hq _ _ ⟨F, w, g1.pop.pushV rfl⟩⟩
end
/-! ### the Hook -/
abbrev AlW : Type := He.AlD × List (Option (List (Option (Str × Int))))
def obsW (fa : List FaX) (fn : List DefX) (fs : List DefS) (ts : List He.Tab) (K : PySem.W.Frag) : AlW := (obsS fa fn fs K, ts.map fun t => He.dicW K (t.1 K))
def valW (fn : List DefX) (fs : List DefS) (ts : List He.Tab) (w : World) : AlW := (valS fn fs, ts.map fun t => some (He.keysIn w.params t.2))
def SaysW (fa : List FaX) (fn : List DefX) (fs : List DefS) (ts : List He.Tab) (w : World) (K : PySem.W.Frag) : Prop := obsW fa fn fs ts K = valW fn fs ts w
def obsWG (n : Nat) (fa : List FaX) (fn : List DefX) (fs : List DefS) (ts : List He.Tab) (g : Addr → Option Obj) : AlW := obsW fa fn fs ts (He.frG g (asS g n))
def hookW (n : Nat) (fa : List FaX) (fn : List DefX) (fs : List DefS) (ts : List He.Tab) : PySem.W.Hook where
  α := AlW
  obs := fun s => obsWG n fa fn fs ts s.heap.get?
  val := fun w => valW fn fs ts w
  says := fun w h => ∃ K : PySem.W.Frag, K.In h ∧ SaysW fa fn fs ts w K
  of := fun _ _ e => ⟨_, He.frG_in, e⟩
  keeps := fun _ _ _ ⟨K, hK, c⟩ k => ⟨K, PySem.W.Frag.In.keeps hK k, c⟩
theorem obsWG_eq {n : Nat} {fa : List FaX} {fn : List DefX} {fs : List DefS} {ts : List He.Tab} {g : Addr → Option Obj} {s : Shared} (h : ∀ a, g a = s.heap.get? a) : obsWG n fa fn fs ts g = (hookW n fa fn fs ts).obs s := by
  have e : g = s.heap.get? := funext h
  rw [e] <;> rfl
section
variable {fa : List FaX} {fn : List DefX} {fs : List DefS} {ts : List He.Tab} {w : World} {K : PySem.W.Frag}
theorem SaysW.s (c : SaysW fa fn fs ts w K) : SaysS fa fn fs K := congrArg (fun z : AlW => z.1) c
theorem SaysW.tab (c : SaysW fa fn fs ts w K) (i : Nat) {t : He.Tab} (h : ts[i]? = some t := by rfl) : ∃ es n, KDict K w (t.1 K) es n := by
  have e : ts.map (fun t => He.dicW K (t.1 K)) = ts.map fun t => some (He.keysIn w.params t.2) := congrArg (fun z : AlW => z.2) c
  have e2 : (ts.map fun t => He.dicW K (t.1 K))[i]? = (ts.map fun t => some (He.keysIn w.params t.2))[i]? := by rw [e]
  rw [List.getElem?_map, List.getElem?_map, h] at e2
  exact He.dicW_ok (Option.some.inj e2)
end
end NL

set_option Elab.async false
set_option linter.all false
set_option maxRecDepth 100000
set_option maxHeartbeats 4000000
/-! NL: a field's own thing goes out -/
namespace NL
open PySem PySem.Spec PyProof.Rows L2 ML
open PySem.Sem (wp)
theorem FsOk.take {F H : Hp} {n : Str} {S : SP} : ∀ {fs : List (Str × SP)} {ws : List (Str × V)} {o : Addr → Prop}, FsOk F H o fs ws → fs.lookup n = some S →
    ∃ (v : V) (o1 o2 : Addr → Prop), ws.lookup n = some v ∧ (∀ b, o1 b → o b) ∧ (∀ b, o2 b → o b) ∧ (∀ b, o1 b → ¬ o2 b) ∧ S.ok F H o1 v ∧ FsOk F H o2 (putS n anyS fs) ws
  | [], [], _, _, e => by cases e
  | (k, T) :: fs, (m, v) :: ws, o, ⟨e, p1, p2, h1, h2, h3, h4, h5⟩, h => by
    subst e
    unfold putS
    by_cases hk : n = k
    · subst hk
      simp only [List.lookup, beq_self_eq_true] at h
      cases h
      rw [if_pos rfl]
      exact ⟨v, p1, p2, by simp [List.lookup], h1, h2, h3, h4, rfl, fun _ => False, p2, fun _ z => z.elim, fun _ z => z, fun _ z => z.elim, trivial, h5⟩
    · have hb : (n == k) = false := beq_eq_false_iff_ne.mpr hk
      simp only [List.lookup, hb] at h
      rw [if_neg fun z => hk z.symm]
      obtain ⟨u, q1, q2, e1, e2, e3, e4, e5, e6⟩ := FsOk.take h5 h
      refine ⟨u, q1, fun b => p1 b ∨ q2 b, by simp [List.lookup, hb, e1], fun b hb => h2 b (e2 b hb), fun b hb => hb.elim (h1 b) fun z => h2 b (e3 b z), fun b hb z => z.elim (fun z => h3 b z (e2 b hb)) (e4 b hb), e5, rfl, p1, q2, fun b z => .inl z, fun b z => .inr z, fun b z y => h3 b z (e3 b y), h4, e6⟩
  | [], _ :: _, _, h, _ => h.elim
  | _ :: _, [], _, h, _ => h.elim
section
variable {ε : Type} {X : Xc ε} {E : Ent} {env : En}
/-- x.f, what stands there moves out -/
theorem ex_mvf {K : PySem.W.Frag} {φ : V → Prop} {C : Addr} {fs : List (Str × SP)} {i : Nat} {n : Str} {S : SP} (h : env[i]? = some (some (ob φ C fs))) (c : Cls K C) (na : NoAttr K C n) (hl : fs.lookup n = some S) :
    EX X E env (tFld K (tVar i) n) (.ok ()) (fun _ => S) fun _ => env.set i (some (ob φ C (putS n anyS fs))) := by
  classical
  intro st vs σ H Q ⟨F, w, g⟩ hq
  obtain ⟨u, e1, a, dx, ws, o', rfl, f, nd, h1, h2, h3, h4, h5, h6, h7, h8⟩ := g.env.2 i _ h
  obtain ⟨v, o1, o2, l1, l2, l3, l4, l5, l6⟩ := FsOk.take h3 hl
  have wa : w a = some (.e i) := h6
  have wd : w dx = some (.e i) := h7
  have wo : ∀ b, o1 b → w b = some (.e i) := fun b hb => h8 b (l2 b hb)
  let w' : Ow := fun b => if o1 b then some (.s st.length) else if w b = some (.s st.length) then none else w b
  have hw1 : ∀ b, w' b = some (.s st.length) ↔ o1 b := fun b => by
    show (if o1 b then some (Lb.s st.length) else if w b = some (.s st.length) then none else w b) = _ ↔ _
    by_cases c1 : o1 b
    · simp [c1]
    · by_cases c2 : w b = some (.s st.length)
      · simp [c1, c2]
      · simp [c1, c2]
  have hwi : ∀ b, w' b = some (.e i) ↔ w b = some (.e i) ∧ ¬ o1 b := fun b => by
    show (if o1 b then some (Lb.s st.length) else if w b = some (.s st.length) then none else w b) = _ ↔ _
    by_cases c1 : o1 b
    · simp [c1]
    · by_cases c2 : w b = some (.s st.length)
      · simp [c1, c2]
      · simp [c1, c2]
  have hw2 : ∀ l, l ≠ .s st.length → l ≠ .e i → ∀ b, w' b = some l ↔ w b = some l := fun l n1 n2 b => by
    show (if o1 b then some (Lb.s st.length) else if w b = some (.s st.length) then none else w b) = _ ↔ _
    by_cases c1 : o1 b
    · rw [if_pos c1, wo b c1]
      exact ⟨fun z => absurd (Option.some.inj z).symm n1, fun z => absurd (Option.some.inj z).symm n2⟩
    · by_cases c2 : w b = some (.s st.length)
      · simp [c1, c2]; exact fun z => n1 z.symm
      · simp [c1, c2]
  refine ⟨.ref a, e1, a, C, dx, ws, v, rfl, h1, c, na, l1, hq v H ⟨F, w', g.ext, ⟨by simpa using g.env.1, fun j S' e => ?_⟩, ⟨by rw [show w'.of (.s st.length) = o1 from funext fun b => propext (hw1 b)]; exact l5, g.st.step (M := fun _ => False) (Ext.refl g.ext.s) fun k hk b => ⟨hw2 _ (by intro z; injection z with z; omega) (by intro z; cases z) b, fun e => ⟨fun z => z, (g.own b _ e).2.1⟩⟩⟩, fun b l e => ?_⟩⟩
  · by_cases hj : i = j
    · subst hj
      rw [List.getElem?_set_self (List.getElem?_eq_some_iff.mp h).1] at e
      cases e
      exact ⟨_, e1, a, dx, ws, o2, rfl, f, nd, h1, h2, l6, fun z => h4 (l3 _ z), fun z => h5 (l3 _ z), (hwi a).mpr ⟨wa, fun z => h4 (l2 _ z)⟩, (hwi dx).mpr ⟨wd, fun z => h5 (l2 _ z)⟩, fun b hb => (hwi b).mpr ⟨h8 b (l3 b hb), fun z => l4 b z hb⟩⟩
    · rw [List.getElem?_set_ne hj] at e
      obtain ⟨u, f1, f2⟩ := g.env.2 j S' e
      refine ⟨u, f1, ?_⟩
      rw [show w'.of (.e j) = w.of (.e j) from funext fun b => propext (hw2 _ (by intro z; cases z) (by intro z; injection z with z; exact hj z.symm) b)]
      exact f2
  · by_cases c1 : o1 b
    · exact g.own b _ (wo b c1)
    · by_cases hl : l = .s st.length
      · subst hl
        exact absurd ((hw1 b).mp e) c1
      · by_cases hl2 : l = .e i
        · subst hl2
          exact g.own b _ ((hwi b).mp e).1
        · exact g.own b l ((hw2 l hl hl2 b).mp e)
end
end NL

set_option Elab.async false
set_option linter.all false
set_option maxRecDepth 100000
set_option maxHeartbeats 4000000
/-! NL: an own thing that may lack; another name of a part -/
namespace NL
open PySem PySem.Spec PyProof.Rows L2 ML
open PySem.Sem (wp)
/-- an own thing, or None -/
def oSP {α : Type} (S : α → SP) : Option α → SP
  | some x => S x
  | none => val tNon ()
def caseO {α β : Type} (o : Option α) (f : α → β) (b : β) : β := match o with
  | some x => f x
  | none => b
@[simp] theorem caseO_some {α β : Type} (x : α) (f : α → β) (b : β) : caseO (some x) f b = f x := rfl
@[simp] theorem caseO_none {α β : Type} (f : α → β) (b : β) : caseO (none : Option α) f b = b := rfl
def tNevE : TE := fun _ _ _ => False
def tNevT : TT := fun _ _ _ => False
theorem pe_nev {X : Cx} {e : Expr} : PE X e tNevE := ⟨fun _ _ _ _ _ _ h => h.elim⟩
theorem pt_nev {X : Cx} {e : Expr} : PT X e tNevT := ⟨fun _ _ _ _ _ _ h => h.elim⟩
section
variable {ε α γ δ : Type} {X : Xc ε} {E : Ent} {env : En} {te : TE} {t1 t2 : TS} {post : Post γ}
theorem ex_oN {S : α → SP} : EX X E env (tC .non) (.ok (none : Option α)) (fun o => oSP S o) fun _ => env := fun st vs σ H Q g hm => (ex_non : EV X E env (tC .non) (.ok ()) (val tNon)) st vs σ H Q g hm
theorem bk_caseO {envs : Option α → En} {o : Option α} {m1 : α → R ε γ} {m2 : R ε γ} (h1 : ∀ x, BK X E (envs (some x)) t1 (m1 x) post) (h2 : BK X E (envs none) t2 m2 post) : BK X E (envs o) (tOrS t1 t2) (caseO o m1 m2) post := by
  cases o with
  | some x => exact fun st vs σ H D g hm => Or.inl (h1 x st vs σ H D g hm)
  | none => exact fun st vs σ H D g hm => Or.inr (h2 st vs σ H D g hm)
theorem pin_al {v : V} : Pin (isVP v).sp v := fun F H o u h => h
/-- x.f, x another name of an own instance -/
theorem ex_alv {K : PySem.W.Frag} {φ : V → Prop} {C : Addr} {fs : List (Str × SP)} {n : Str} {T : Ty δ} {y : δ} {i : Nat} {S0 : SP} {v : V} {plug : SP → SP} (he : EV X E env te (.ok ()) (fun _ => (isVP v).sp)) (h : env[i]? = some (some S0)) (l : Lens S0 (ob φ C fs) v plug) (c : Cls K C) (na : NoAttr K C n) (hl : fs.lookup n = some (val T y)) :
    EV X E env (tFld K te n) (.ok y) (val T) := by
  intro st vs σ H Q gg hm
  refine he st vs σ H _ gg fun u H1 g1 => ?_
  obtain ⟨F, w, g⟩ := g1
  have eu : u = v := g.st.1
  subst eu
  obtain ⟨u0, e1', e2⟩ := g.env.2 i _ h
  obtain ⟨o1, _, ⟨a, dx, ws, o', ev, f, nd, h1, h2, h3, _⟩, _⟩ := l F H1 _ u0 e2
  obtain ⟨v2, o2, l1, _, l3⟩ := h3.look hl
  exact ⟨a, C, dx, ws, v2, ev, h1, c, na, l1, hm v2 H1 ⟨F, w, g.pop.pushV l3⟩⟩
end
end NL

set_option Elab.async false
set_option linter.all false
set_option maxRecDepth 100000
set_option maxHeartbeats 4000000
/-! NL: not in -/
namespace NL
open PySem PySem.Spec PyProof.Rows L2 ML
open PySem.Sem (wp)
theorem op_notIn_seqK {X : Cx} {K : PySem.W.Frag} (h : X.K = K) : OpR X (compareOp .NotIn) (rIn K true) := h ▸ op_notIn_seq
theorem o2_ninU {α : Type} {K : PySem.W.Frag} [DecidableEq α] {T : Ty α} (c : FC T) {x : α} {xs : List α} : O2 (rIn K true) (val T x) (val (tU T) xs) (some (!decide (x ∈ xs))) (val tBool) := o2_mk fun k hm F H Q va vb s ha ⟨p, us, e, h, pp⟩ hq => by
  cases hm
  have e1 := c.rp F va x ha
  have e2 := paired_code c pp
  subst e1 e2
  exact ⟨p, _, e, .inr (.of (s _ _ h)), c.fl x, all_flat c xs, hq _ (by rw [inV_code]; rfl)⟩
theorem o2_ninL {α : Type} {K : PySem.W.Frag} [DecidableEq α] {T : Ty α} (c : FC T) {x : α} {xs : List α} : O2 (rIn K true) (val T x) (val (tL T) xs) (some (!decide (x ∈ xs))) (val tBool) := o2_mk fun k hm F H Q va vb s ha ⟨p, us, e, h, pp⟩ hq => by
  cases hm
  have e1 := c.rp F va x ha
  have e2 := paired_code c pp
  subst e1 e2
  exact ⟨p, _, e, .inl (.of (s _ _ h)), c.fl x, all_flat c xs, hq _ (by rw [inV_code]; rfl)⟩
theorem eqv_os {K : PySem.W.Frag} : ∀ x, PyData.eqv .none ((dStr (K := K)).dat x) = false := fun x => by simp [dStr, PyData.eqv]
theorem eqv_so {K : PySem.W.Frag} : ∀ x, PyData.eqv ((dStr (K := K)).dat x) .none = false := fun x => by simp [dStr, PyData.eqv]
abbrev dOStr {K : PySem.W.Frag} : DT K (tOpt tStr) := dOpt dStr eqv_os eqv_so
end NL
namespace PySem.SeqAt
open AutoSeq1 (wpAny_loadPart')
open MeetsSeq MeetsSeq2 MeetsSeq3 SeqRoads2
section
variable {prog : Program} {w : World}
theorem list_eq_ne (l b : Addr) (items items2 : Array Value) (n n2 : Nat) (dd dd2 : Option Addr) (sl sl2 : Array (Option Value)) (hsz : items.size ≠ items2.size) :
    MeetsIn prog w (Builtin.«list.__eq__» ⟨[.ref l, .ref b], []⟩)
      (fun A R s => s.heap.get? l = some { cls := .type "list", dict := dd, data := .seq items n, slots := sl } ∧ s.heap.get? b = some { cls := .type "list", dict := dd2, data := .seq items2 n2, slots := sl2 } ∧
        R (.ok (.ret (.bool false))) s) := by
  intro A R s h
  obtain ⟨hp, g, d, tk, os⟩ := s; obtain ⟨hl, hb, h⟩ := h
  have f3 := AutoSeq1.sub_list_list
  have hne : (items.size != items2.size) = true := by simp [hsz]
  wp_walk using wpAny_loadPart' hl, wpAny_loadPart' hb
  exact h
theorem rc_lists_ne {A : Around} {s : Shared} {l b : Addr} {items items2 : Array Value} (hl : s.heap.IsList l items) (hb : s.heap.IsList b items2) (hsz : items.size ≠ items2.size) (hu : A.units < cLine)
    (E Q : Value → Shared → Prop) (h : Q (.bool false) s) : wpAny (model prog w) A (richCompare .Eq (.ref l) (.ref b)) Q E s := by
  obtain ⟨⟨cls, dd, data, sl⟩, ho, hc, n, hd⟩ := id hl
  obtain ⟨⟨cls2, dd2, data2, sl2⟩, ho2, hc2, n2, hd2⟩ := id hb
  simp only at hc hd hc2 hd2
  subst hc hd hc2 hd2
  have ta : s.TypeIs (.ref l) "list" := ⟨_, ho, rfl⟩
  have tb : s.TypeIs (.ref b) "list" := ⟨_, ho2, rfl⟩
  exact wpAny_richCompare_same_room (op := .Eq) ta tb F.slot_list_eq (call_meetsIn F.slot_list_eq ta F.entry_list_eq (F.args_list_eq_2 _ _) (list_eq_ne l b items items2 n n2 dd dd2 sl sl2 hsz)
    ⟨ho, ho2, show Value.bool false ≠ Value.notImplemented ∧ Q (.bool false) s from ⟨(fun x => nomatch x), h⟩⟩) hu
end
end PySem.SeqAt
namespace NL
open PySem PySem.Spec PyProof.Rows L2 ML
open PySem.Sem (wp)
/-! a list == [] -/
def rEqNil (K : PySem.W.Frag) : R2 := fun x y H Q => ∃ a b xs, x = .ref a ∧ y = .ref b ∧ SqL K H a xs ∧ SqL K H b [] ∧ Q (.bl xs.isEmpty) H
theorem op_eqNil {X : Cx} {K : PySem.W.Frag} (hK : X.K = K) (hu : X.A.units + 64 < cLine) : OpR X (compareOp .Eq) (rEqNil K) := by
  subst hK
  intro pins s σ H x y v u Q I rx ry h
  obtain ⟨a, b, xs, rfl, rfl, h1, h2, q⟩ := h
  cases rx
  cases ry
  obtain ⟨its, r1, ⟨o1, n1, p1, p2, p3, p4⟩, _⟩ := I.list h1
  obtain ⟨its2, r2, ⟨o2, n2, q1, q2, q3, q4⟩, _⟩ := I.list h2
  have l1 := r1.length
  have l2 := r2.length
  have e2 : its2 = [] := List.eq_nil_of_length_eq_zero l2.symm
  subst e2
  cases xs with
  | nil =>
    have e1 : its = [] := List.eq_nil_of_length_eq_zero l1.symm
    subst e1
    exact SeqAt.rcP_lists (e := fun _ => true) ⟨o1, p1, p2, n1, p4⟩ ⟨o2, q1, q2, n2, q4⟩ rfl (by omega) (fun j hj => absurd hj (Nat.not_lt_zero _)) _ _ ⟨.bl true, H, I, rfl, q⟩
  | cons z zs =>
    refine SeqAt.rc_lists_ne ⟨o1, p1, p2, n1, p4⟩ ⟨o2, q1, q2, n2, q4⟩ ?_ (by omega) _ _ ⟨.bl false, H, I, rfl, q⟩
    simp only [List.size_toArray, List.length_nil]
    rw [List.length_cons] at l1
    omega
theorem o2_eqNil {α β : Type} {K : PySem.W.Frag} {T : Ty α} {U : Ty β} {xs : List α} : O2 (rEqNil K) (val (tL T) xs) (val (tL U) ([] : List β)) (some xs.isEmpty) (val tBool) := o2_mk fun c hm F H Q va vb s ⟨a, us, e, h, p⟩ ⟨b, vs, e2, h2, p2⟩ hq => by
  cases hm
  cases p2
  refine ⟨a, b, us, e, e2, .of (s _ _ h), .of (s _ _ h2), hq _ ?_⟩
  show V.bl _ = V.bl _
  cases p <;> rfl
end NL

set_option Elab.async false
set_option linter.all false
set_option maxRecDepth 100000
set_option maxHeartbeats 4000000
/-! NL: what the top's names reach, counted once -/
namespace NL
open PySem PySem.Spec PyProof.Rows L2 ML
def clsZ (o : Obj) : List Addr := match o.data with
  | .func fd => fd.closure.map (·.2)
  | _ => []
/-- breadth first, each address once; seen: a row of bits -/
def bfsZ (g : Addr → Option Obj) : Nat → List Addr → List Addr → Nat → List Addr → List Addr
  | 0, _, _, _, out => out
  | n + 1, [], nxt, seen, out => (match nxt with
    | [] => out
    | a :: r => bfsZ g n (a :: r) [] seen out)
  | n + 1, a :: cur, nxt, seen, out => if Nat.beq (Nat.land (Nat.shiftRight seen a) 1) 1 then bfsZ g n cur nxt seen out else (match g a with
    | some o => bfsZ g n cur (He.refsD o ++ (clsZ o ++ nxt)) (Nat.lor seen (Nat.shiftLeft 1 a)) (a :: out)
    | none => bfsZ g n cur nxt (Nat.lor seen (Nat.shiftLeft 1 a)) out)
def asZ (g : Addr → Option Obj) (n : Nat) : List Addr := bfsZ g n [mainGlobals, cStatics] [] 0 []
def obsZG (n : Nat) (fa : List FaX) (fn : List DefX) (fs : List DefS) (g : Addr → Option Obj) : He.AlD := obsS fa fn fs (He.frG g (asZ g n))
def hookZ (n : Nat) (fa : List FaX) (fn : List DefX) (fs : List DefS) : PySem.W.Hook where
  α := He.AlD
  obs := fun s => obsZG n fa fn fs s.heap.get?
  val := fun _ => valS fn fs
  says := fun _ h => ∃ K : PySem.W.Frag, K.In h ∧ SaysS fa fn fs K
  of := fun _ _ e => ⟨_, He.frG_in, e⟩
  keeps := fun _ _ _ ⟨K, hK, c⟩ k => ⟨K, PySem.W.Frag.In.keeps hK k, c⟩
theorem obsZG_eq {n : Nat} {fa : List FaX} {fn : List DefX} {fs : List DefS} {g : Addr → Option Obj} {s : Shared} (h : ∀ a, g a = s.heap.get? a) : obsZG n fa fn fs g = (hookZ n fa fn fs).obs s := by
  have e : g = s.heap.get? := funext h
  rw [e] <;> rfl
def obsYG (n : Nat) (fa : List FaX) (fn : List DefX) (fs : List DefS) (ts : List He.Tab) (g : Addr → Option Obj) : AlW := obsW fa fn fs ts (He.frG g (asZ g n))
def hookY (n : Nat) (fa : List FaX) (fn : List DefX) (fs : List DefS) (ts : List He.Tab) : PySem.W.Hook where
  α := AlW
  obs := fun s => obsYG n fa fn fs ts s.heap.get?
  val := fun w => valW fn fs ts w
  says := fun w h => ∃ K : PySem.W.Frag, K.In h ∧ SaysW fa fn fs ts w K
  of := fun _ _ e => ⟨_, He.frG_in, e⟩
  keeps := fun _ _ _ ⟨K, hK, c⟩ k => ⟨K, PySem.W.Frag.In.keeps hK k, c⟩
theorem obsYG_eq {n : Nat} {fa : List FaX} {fn : List DefX} {fs : List DefS} {ts : List He.Tab} {g : Addr → Option Obj} {s : Shared} (h : ∀ a, g a = s.heap.get? a) : obsYG n fa fn fs ts g = (hookY n fa fn fs ts).obs s := by
  have e : g = s.heap.get? := funext h
  rw [e] <;> rfl
end NL

set_option Elab.async false
set_option linter.all false
namespace NL
open PySem PySem.Spec PyProof.Rows L2 ML
/-- a field's lens where another field's place is named outside it -/
theorem lens_fldQ {φ : V → Prop} {C : Addr} {fs fs0 : List (Str × SP)} {n : Str} {S : SP} {v : V} (e : fs0 = putS n S fs) (hp : Pin S v) : Lens (ob φ C fs0) S v (fun B => ob φ C (putS n B fs)) := by
  subst e
  exact lens_fldP hp
/-- a callee's variant, told by the callee itself -/
theorem wc_q {ε ρ : Type} {f g : R ε ρ} (e : f = g) : ∀ (Φ : ρ → Prop) (Ξ : ε → Prop), wp g Φ Ξ → wp f (fun r => Φ (id r)) fun x => Ξ (id x) := by
  subst e
  exact fun _ _ h => h
end NL
namespace NL
open PySem PySem.Spec PyProof.Rows L2 ML
/-- the layout of an optional text does not ask for the constant part -/
def layOS (x : Option Str) : Bool := (dOStr : DT (default : PySem.W.Frag) (tOpt tStr)).lay x
theorem dOStr_lay {K : PySem.W.Frag} (x : Option Str) : (dOStr : DT K (tOpt tStr)).lay x = layOS x := rfl
end NL
namespace NL
open PySem PySem.Spec PyProof.Rows L2 ML
/-- a list == a list that is bound elsewhere and is empty -/
theorem o2_eqNilG {α β : Type} {K : PySem.W.Frag} {T : Ty α} {U : Ty β} {xs : List α} {ys : List β} : O2 (rEqNil K) (val (tL T) xs) (val (tL U) ys) (grd (ys.isEmpty = true) (some xs.isEmpty)) (val tBool) := by
  cases ys with
  | nil => exact o2_eqNil
  | cons y l => exact o2_mk fun c hm => by cases hm
end NL

set_option Elab.async false
set_option linter.all false
set_option maxRecDepth 100000
set_option maxHeartbeats 4000000
/-! NL: what is never asked; a tuple of one kind as a row -/
namespace NL
open PySem PySem.Spec PyProof.Rows L2 ML
section
variable {ε α β : Type} {X : Xc ε} {E : Ent} {env : En}
theorem tp_nev : TP X E env tNevT .no := fun st vs σ H Q g hm => hm.elim
theorem ex_nev {S : α → SP} {e' : α → En} : EX X E env tNevE .no S e' := fun st vs σ H Q g hm => hm.elim
theorem vps_map {F : Hp} {T : Ty β} : ∀ {l : List β} {vs : List V}, VPs F (l.map (vp T)) vs → Paired (T.rp F) vs l
  | [], [], _ => .nil
  | _ :: l, _ :: vs, h => .cons h.1 (vps_map (l := l) (vs := vs) h.2)
  | [], _ :: _, h => h.elim
  | _ :: _, [], h => h.elim
theorem tT_U {view : α → List VP} {T : Ty β} {l : α → List β} (h : ∀ x, view x = (l x).map (vp T)) : ∀ (x : α) F H o v, (val (tT view) x).ok F H o v → (val (tU T) (l x)).ok F H o v := fun x F H o v ⟨a, vs, e, hf, p⟩ => ⟨a, vs, e, hf, vps_map (h x ▸ p)⟩
end
end NL

set_option Elab.async false
set_option linter.all false
set_option maxRecDepth 100000
set_option maxHeartbeats 4000000
/-! NL: own lists of own things -/
namespace NL
open PySem PySem.Spec PyProof.Rows L2 ML
open PySem.Sem (wp)
def LsOk (F H : Hp) : (Addr → Prop) → List SP → List V → Prop
  | _, [], [] => True
  | o, S :: Ss, v :: vs => ∃ o1 o2 : Addr → Prop, (∀ b, o1 b → o b) ∧ (∀ b, o2 b → o b) ∧ (∀ b, o1 b → ¬ o2 b) ∧ S.ok F H o1 v ∧ LsOk F H o2 Ss vs
  | _, _, _ => False
theorem LsOk.mono {F F' H H' : Hp} (s : Same F F') : ∀ {Ss : List SP} {vs : List V} {o : Addr → Prop}, (∀ b, o b → H' b = H b) → LsOk F H o Ss vs → LsOk F' H' o Ss vs
  | [], [], _, _, _ => trivial
  | S :: Ss, v :: vs, o, k, ⟨o1, o2, h1, h2, h3, h4, h5⟩ => ⟨o1, o2, h1, h2, h3, S.mono h4 s fun b hb => k b (h1 b hb), LsOk.mono s (fun b hb => k b (h2 b hb)) h5⟩
  | [], _ :: _, _, _, h => h.elim
  | _ :: _, [], _, _, h => h.elim
theorem LsOk.sub {F H : Hp} : ∀ {Ss : List SP} {vs : List V} {o o' : Addr → Prop}, (∀ b, o b → o' b) → LsOk F H o Ss vs → LsOk F H o' Ss vs
  | [], [], _, _, _, _ => trivial
  | S :: Ss, v :: vs, o, o', k, ⟨o1, o2, h1, h2, h3, h4, h5⟩ => ⟨o1, o2, fun b hb => k b (h1 b hb), fun b hb => k b (h2 b hb), h3, h4, h5⟩
  | [], _ :: _, _, _, _, h => h.elim
  | _ :: _, [], _, _, _, h => h.elim
theorem LsOk.len {F H : Hp} : ∀ {Ss : List SP} {vs : List V} {o : Addr → Prop}, LsOk F H o Ss vs → Ss.length = vs.length
  | [], [], _, _ => rfl
  | _ :: Ss, _ :: vs, _, ⟨_, _, _, _, _, _, h⟩ => by simp [LsOk.len h]
  | [], _ :: _, _, h => h.elim
  | _ :: _, [], _, h => h.elim
/-- one place, and what stands beside it -/
theorem LsOk.one {F H : Hp} {S : SP} : ∀ {Ss : List SP} {vs : List V} {o : Addr → Prop} {k : Nat}, LsOk F H o Ss vs → Ss[k]? = some S → ∃ (v : V) (o1 o2 : Addr → Prop), vs[k]? = some v ∧ (∀ b, o1 b → o b) ∧ (∀ b, o2 b → o b) ∧ (∀ b, o1 b → ¬ o2 b) ∧ S.ok F H o1 v ∧
    ∀ (F' H' : Hp) (o1' : Addr → Prop) (B : SP), Same F F' → (∀ b, o2 b → H' b = H b) → (∀ b, o1' b → ¬ o2 b) → B.ok F' H' o1' v → LsOk F' H' (fun b => o1' b ∨ o2 b) (Ss.set k B) vs
  | [], [], _, _, _, e => by simp at e
  | T :: Ss, v :: vs, o, 0, ⟨o1, o2, h1, h2, h3, h4, h5⟩, e => by
    have e : T = S := by simpa using e
    subst e
    exact ⟨v, o1, o2, rfl, h1, h2, h3, h4, fun F' H' o1' B s hH hd hB => ⟨o1', o2, fun b hb => .inl hb, fun b hb => .inr hb, hd, hB, h5.mono s hH⟩⟩
  | T :: Ss, v :: vs, o, k + 1, ⟨o1, o2, h1, h2, h3, h4, h5⟩, e => by
    obtain ⟨u, p1, p2, q1, q2, q3, q4, q5, q6⟩ := LsOk.one h5 (k := k) (by simpa using e)
    refine ⟨u, p1, fun b => o1 b ∨ p2 b, by simpa using q1, fun b hb => h2 b (q2 b hb), fun b hb => hb.elim (h1 b) fun z => h2 b (q3 b z), fun b hb z => ?_, q5, fun F' H' o1' B s hH hd hB => ?_⟩
    · rcases z with z | z
      · exact h3 b z (q2 b hb)
      · exact q4 b hb z
    · refine ⟨o1, fun b => o1' b ∨ p2 b, fun b hb => .inr (.inl hb), fun b hb => hb.elim .inl fun z => .inr (.inr z), fun b hb z => ?_, T.mono h4 s fun b hb => hH b (.inl hb), q6 F' H' o1' B s (fun b hb => hH b (.inr hb)) (fun b hb z => hd b hb (.inr z)) hB⟩
      rcases z with z | z
      · exact hd b z (.inl hb)
      · exact h3 b hb (q3 b z)
  | [], _ :: _, _, _, h, _ => h.elim
  | _ :: _, [], _, _, h, _ => h.elim
theorem LsOk.snoc {F H : Hp} {S : SP} {v : V} {oN : Addr → Prop} (hS : S.ok F H oN v) : ∀ {Ss : List SP} {vs : List V} {o : Addr → Prop}, (∀ b, oN b → ¬ o b) → LsOk F H o Ss vs → LsOk F H (fun b => o b ∨ oN b) (Ss ++ [S]) (vs ++ [v])
  | [], [], o, k, _ => ⟨oN, fun _ => False, fun b hb => .inr hb, fun b hb => hb.elim, fun b _ z => z, hS, trivial⟩
  | T :: Ss, u :: vs, o, k, ⟨o1, o2, h1, h2, h3, h4, h5⟩ => by
    refine ⟨o1, fun b => o2 b ∨ oN b, fun b hb => .inl (h1 b hb), fun b hb => hb.elim (fun z => .inl (h2 b z)) .inr, fun b hb z => ?_, h4, LsOk.snoc hS (fun b hb z => k b hb (h2 b z)) h5⟩
    rcases z with z | z
    · exact h3 b hb z
    · exact k b z (h1 b hb)
  | [], _ :: _, _, _, h => h.elim
  | _ :: _, [], _, _, h => h.elim
theorem LsOk.weak {F H : Hp} {S S' : SP} (w : ∀ F H o v, S.ok F H o v → S'.ok F H o v) : ∀ {Ss : List SP} {vs : List V} {o : Addr → Prop} {k : Nat}, LsOk F H o (Ss.set k S) vs → LsOk F H o (Ss.set k S') vs
  | [], _, _, _, h => h
  | T :: Ss, [], _, k, h => by cases k <;> exact h.elim
  | T :: Ss, v :: vs, o, 0, ⟨o1, o2, h1, h2, h3, h4, h5⟩ => ⟨o1, o2, h1, h2, h3, w _ _ _ _ h4, h5⟩
  | T :: Ss, v :: vs, o, k + 1, ⟨o1, o2, h1, h2, h3, h4, h5⟩ => ⟨o1, o2, h1, h2, h3, h4, LsOk.weak w (k := k) h5⟩
theorem LsOk.fz {α : Type} {F H F' : Hp} {T : Ty α} {S : α → SP} (z : ∀ x, Fz (S x) (vp T x)) (s : Same F F') : ∀ {xs : List α} {vs : List V} {o : Addr → Prop}, LsOk F H o (xs.map S) vs → (∀ b, o b → F b = none) → (∀ b, o b → F' b = H b) → Paired (T.rp F') vs xs
  | [], [], _, _, _, _ => .nil
  | x :: xs, v :: vs, o, ⟨o1, o2, h1, h2, h3, h4, h5⟩, hn, hk => .cons (z x F H o1 v h4 (fun b hb => hn b (h1 b hb)) F' s fun b hb => hk b (h1 b hb)) (LsOk.fz z s (xs := xs) h5 (fun b hb => hn b (h2 b hb)) fun b hb => hk b (h2 b hb))
  | [], _ :: _, _, h, _, _ => h.elim
  | _ :: _, [], _, h, _, _ => h.elim
/-- a list of own things, of one's own -/
def muO (φ : V → Prop) (Ss : List SP) : SP := ⟨fun F H o v => ∃ (a : Addr) (us : List V) (o' : Addr → Prop), v = .ref a ∧ φ v ∧ H a = some (.lst us) ∧ LsOk F H o' Ss us ∧ ¬ o' a ∧ o a ∧ ∀ b, o' b → o b,
  fun {F F' H H' o v} ⟨a, us, o', e, f, h1, h2, h3, h4, h5⟩ s k => ⟨a, us, o', e, f, (k a h4).trans h1, h2.mono s fun b hb => k b (h5 b hb), h3, h4, h5⟩⟩
theorem pin_muO {Ss : List SP} {p : Addr} : Pin (muO (pinV p) Ss) (.ref p) := fun F H o u ⟨_, _, _, _, f, _⟩ => f
theorem pn_muO {φ : V → Prop} {Ss : List SP} : Pn (muO φ Ss) (fun p => muO (pinV p) Ss) := fun F H o u ⟨a, us, o', e, f, r⟩ => ⟨a, a, us, o', e, e, r⟩
theorem unpin_muO {φ : V → Prop} {Ss : List SP} : ∀ F H o v, (muO φ Ss).ok F H o v → (muO yes Ss).ok F H o v := fun F H o u ⟨a, us, o', e, f, r⟩ => ⟨a, us, o', e, trivial, r⟩
theorem fz_muO {α : Type} {φ : V → Prop} {T : Ty α} {S : α → SP} {xs : List α} (z : ∀ x, Fz (S x) (vp T x)) : Fz (muO φ (xs.map S)) (vp (tL T) xs) := fun F H o v ⟨a, us, o', e, f, h1, h2, h3, h4, h5⟩ hn F' s k =>
  ⟨a, us, e, (k a h4).trans h1, h2.fz z s (fun b hb => hn b (h5 b hb)) fun b hb => k b (h5 b hb)⟩
theorem lens_ix {φ : V → Prop} {Ss : List SP} {k : Nat} {S : SP} {v : V} (hk : k < Ss.length) (hp : Pin S v) : Lens (muO φ (Ss.set k S)) S v (fun B => muO φ (Ss.set k B)) := by
  intro F H o u ⟨a, us, o', e, f, h1, h2, h3, h4, h5⟩
  have hl : (Ss.set k S)[k]? = some S := by rw [List.getElem?_set_self hk]
  obtain ⟨v', o1, o2, e1, e2, e3, e4, e5, e6⟩ := LsOk.one h2 hl
  have ev := hp _ _ _ _ e5
  subst ev
  refine ⟨o1, fun b hb => h5 b (e2 b hb), e5, fun F' H' o1' B s hH hd hB => ?_⟩
  have ha : ¬ o1 a := fun z => h3 (e2 a z)
  have r := e6 F' H' o1' B s (fun b hb => hH b (h5 b (e3 b hb)) fun z => e4 b z hb) (fun b hb z => e4 b (hd b hb (h5 b (e3 b z))) z) hB
  rw [List.set_set] at r
  refine ⟨a, us, fun b => o1' b ∨ o2 b, e, f, (hH a h4 ha).trans h1, r, ?_, .inr ⟨h4, ha⟩, fun b hb => ?_⟩
  · rintro (z | z)
    · exact ha (hd a z h4)
    · exact h3 (e3 a z)
  · rcases hb with z | z
    · exact .inl z
    · exact .inr ⟨h5 b (e3 b z), fun y => e4 b y z⟩
theorem pn_ix {φ : V → Prop} {Ss : List SP} {k : Nat} {S : SP} {S' : Addr → SP} (hl : Ss[k]? = some S) (hp : Pn S S') : Pn (muO φ Ss) (fun p => muO φ (Ss.set k (S' p))) := by
  intro F H o u ⟨a, us, o', e, f, h1, h2, h3, h4, h5⟩
  obtain ⟨v', o1, o2, e1, e2, e3, e4, e5, e6⟩ := LsOk.one h2 hl
  obtain ⟨p, hS⟩ := hp _ _ _ _ e5
  exact ⟨p, a, us, o', e, f, h1, (e6 F H o1 (S' p) (Same.refl F) (fun _ _ => rfl) (fun b hb => e4 b hb) hS).sub fun b hb => hb.elim (e2 b) (e3 b), h3, h4, h5⟩
theorem ls_put {φ φ' : V → Prop} {Ss Ss' : List SP} {k : Nat} {S S' : SP} (e : Ss.set k S' = Ss') (h : ∀ F H o v, S.ok F H o v → S'.ok F H o v) (hφ : ∀ v, φ v → φ' v) : ∀ F H o v, (muO φ (Ss.set k S)).ok F H o v → (muO φ' Ss').ok F H o v := by
  subst e
  intro F H o v ⟨a, us, o', e, f, h1, h2, h3⟩
  exact ⟨a, us, o', e, hφ _ f, h1, h2.weak h, h3⟩
theorem map_set {α : Type} {S : α → SP} {xs : List α} {k : Nat} {y : α} {B : SP} (e : S y = B) : (xs.map S).set k B = (xs.set k y).map S := by subst e; exact List.map_set.symm
/-- a place of a row, the index as Python counts -/
def pickI {α : Type} (xs : List α) (i : Int) : Option (Nat × α) := (ixN xs.length i).bind fun j => xs[j]?.map fun x => (j, x)
theorem pickI_get {α : Type} {xs : List α} {i : Int} {q : Nat × α} (h : pickI xs i = some q) : ixN xs.length i = some q.1 ∧ xs[q.1]? = some q.2 := by
  unfold pickI at h
  obtain ⟨j, e1, e2⟩ := Option.bind_eq_some_iff.mp h
  obtain ⟨x, e3, e4⟩ := Option.map_eq_some_iff.mp e2
  subst e4
  exact ⟨e1, e3⟩
theorem pick_map {α : Type} {S : α → SP} {xs : List α} {i : Int} {q : Nat × α} (h : pickI xs i = some q) : (xs.map S)[q.1]? = some (S q.2) := by
  rw [List.getElem?_map, (pickI_get h).2]; rfl
theorem pick_lt {α : Type} {S : α → SP} {xs : List α} {i : Int} {q : Nat × α} (h : pickI xs i = some q) : q.1 < (xs.map S).length := by
  rw [List.length_map]; exact (List.getElem?_eq_some_iff.mp (pickI_get h).2).1
section
variable {ε α β γ δ τ : Type} {X : Xc ε} {E : Ent} {env : En} {te ti tb to : TE} {tt : TT} {u : TS} {post : Post γ}
theorem bk_pick {xs : List α} {i : Int} {m : Nat × α → R ε γ} (h : ∀ q, pickI xs i = some q → BK X E env u (m q) post) : BK X E env u ((R.of (pickI xs i)).bind m) post := by
  cases e : pickI xs i with
  | none => exact bk_no
  | some q => exact h q e
theorem bk_pickD {o : Option α} {m : α → R ε γ} (h : ∀ q, o = some q → BK X E env u (m q) post) : BK X E env u ((R.of o).bind m) post := by
  cases e : o with
  | none => exact bk_no
  | some q => exact h q e
/-- own[i], i a place that is named -/
theorem ex_ixOO {K : PySem.W.Frag} {φ : V → Prop} {S0 : SP} {a p : Addr} {Ss : List SP} {S : SP} {plug : SP → SP} {i : Nat} {n : Nat} {x : Int} (hb : EV X E env tb (.ok ()) (fun _ => (isVP (.ref a)).sp)) (h : env[i]? = some (some S0)) (l : Lens S0 (muO φ (Ss.set n S)) (.ref a) plug) (hp : Pin S (.ref p))
    (hi : EV X E env ti (.ok x) (val tInt)) (hx : ixN Ss.length x = some n) : EV X E env (tOp (rIxL K) tb ti) (.ok ()) (fun _ => (isVP (.ref p)).sp) := by
  intro st vs σ H Q gg hm
  refine hb st vs σ H _ gg fun v H1 g1 => ?_
  obtain ⟨F, w, g⟩ := id g1
  have ev : v = .ref a := g.st.1
  subst ev
  refine hi _ _ σ H1 _ g1 fun v2 H2 g2 => ?_
  obtain ⟨F2, w2, g2⟩ := g2
  have ei : v2 = .int x := g2.st.1
  subst ei
  obtain ⟨u0, e1', e2⟩ := g2.env.2 i _ h
  obtain ⟨o1, _, ⟨a', us, o', ev, f, h1, h2, h3⟩, _⟩ := l F2 H2 _ u0 e2
  cases ev
  have hlt : n < Ss.length := by
    unfold ixN at hx
    split at hx <;> split at hx <;> (try split at hx) <;> (first | (cases hx; omega) | cases hx)
  have hl : (Ss.set n S)[n]? = some S := by rw [List.getElem?_set_self hlt]
  obtain ⟨v', p1, p2, q1, q2, q3, q4, q5, q6⟩ := LsOk.one h2 hl
  have ev := hp _ _ _ _ q5
  subst ev
  have hlen := h2.len
  rw [List.length_set] at hlen
  exact ⟨a, us, x, _, rfl, rfl, .of h1, by unfold atI; rw [← hlen, hx]; exact q1, hm _ H2 ⟨F2, w2, g2.pop.pop.re (fun a l e => ⟨l, e⟩) g2.pop.pop.env ⟨rfl, g2.pop.pop.st⟩⟩⟩
theorem stok_ls {F H : Hp} {w : Ow} {st : List SP} {vs : List V} : ∀ {S' : List SP} {us' : List V}, StOk F H w (S' ++ st) (us' ++ vs) → us'.length = S'.length →
    LsOk F H (fun b => ∃ k, st.length ≤ k ∧ k < st.length + S'.length ∧ w b = some (.s k)) S'.reverse us'.reverse ∧ StOk F H w st vs
  | [], [], h, _ => ⟨trivial, h⟩
  | S :: S', v :: us', h, e => by
    have e' : us'.length = S'.length := by simpa using e
    obtain ⟨h1, h2⟩ := h
    obtain ⟨l, r⟩ := stok_ls (S' := S') (us' := us') h2 e'
    refine ⟨?_, r⟩
    rw [List.reverse_cons, List.reverse_cons]
    refine (LsOk.snoc h1 (fun b hb z => ?_) l).sub fun b hb => ?_
    · obtain ⟨k, k1, k2, k3⟩ := z
      have hb' : w b = some (.s (S' ++ st).length) := hb
      rw [hb'] at k3
      have := Option.some.inj k3
      simp at this
      omega
    · rcases hb with ⟨k, k1, k2, k3⟩ | hb
      · exact ⟨k, k1, by simp; omega, k3⟩
      · exact ⟨(S' ++ st).length, by simp, by simp; omega, hb⟩
  | [], _ :: _, _, e => by simp at e
  | _ :: _, [], _, e => by simp at e
/-- own things on the stack go into a new list -/
theorem GG.pushLs {st Ss : List SP} {σ : L2.St} {vs us : List V} {H F : Hp} {w : Ow} {a : Addr} (g : GG E env (Ss.reverse ++ st) σ (us.reverse ++ vs) H F w) (hl : us.length = Ss.length) (ha : H a = none) :
    ∃ w', GG E env (muO yes Ss :: st) σ (.ref a :: vs) (upd H a (.lst us)) F w' := by
  classical
  obtain ⟨l, r⟩ := stok_ls (S' := Ss.reverse) (us' := us.reverse) g.st (by simp [hl])
  rw [List.reverse_reverse, List.reverse_reverse] at l
  have u : Ext F H (fun _ => False) F (upd H a (.lst us)) := Ext.newO (o := .lst us) g.ext.s ha
  have wa : w a = none := by
    cases e : w a with
    | none => rfl
    | some l => exact absurd ha (g.own a l e).2.1
  let P : Addr → Prop := fun b => ∃ k, st.length ≤ k ∧ k < st.length + Ss.reverse.length ∧ w b = some (.s k)
  let w' : Ow := fun b => if b = a then some (.s st.length) else if P b then some (.s st.length) else if w b = some (.s st.length) then none else w b
  have we : ∀ (l : Lb), l ≠ .s st.length → (∀ k, st.length ≤ k → k < st.length + Ss.reverse.length → l ≠ .s k) → ∀ b, w' b = some l ↔ w b = some l := fun l h1 h2 b => by
    show (if b = a then some (Lb.s st.length) else if P b then some (.s st.length) else if w b = some (.s st.length) then none else w b) = some l ↔ w b = some l
    by_cases c1 : b = a
    · rw [if_pos c1, c1, wa]
      exact ⟨fun z => absurd (Option.some.inj z).symm h1, fun z => by cases z⟩
    · rw [if_neg c1]
      by_cases c2 : P b
      · rw [if_pos c2]
        obtain ⟨k, k1, k2, k3⟩ := c2
        exact ⟨fun z => absurd (Option.some.inj z).symm h1, fun z => by rw [k3] at z; exact absurd (Option.some.inj z).symm (h2 k k1 k2)⟩
      · rw [if_neg c2]
        by_cases c3 : w b = some (.s st.length)
        · rw [if_pos c3, c3]
          exact ⟨fun z => (by cases z), fun z => absurd (Option.some.inj z).symm h1⟩
        · rw [if_neg c3]
  refine ⟨w', g.step u (fun _ z => z.elim) (fun b l e => ?_) ?_ ⟨?_, ?_⟩⟩
  · by_cases c1 : b = a
    · refine .inr ?_
      rw [c1]
      refine ⟨ha, ?_, by rw [upd_same]; intro q; cases q⟩
      cases q : F a with
      | none => rfl
      | some x => have := g.ext.s a x q; rw [ha] at this; cases this
    · have e' : (if b = a then some (Lb.s st.length) else if P b then some (.s st.length) else if w b = some (.s st.length) then none else w b) = some l := e
      rw [if_neg c1] at e'
      by_cases c2 : P b
      · obtain ⟨k, _, _, k3⟩ := c2
        exact .inl ⟨_, k3⟩
      · rw [if_neg c2] at e'
        by_cases c3 : w b = some (.s st.length)
        · exact .inl ⟨_, c3⟩
        · rw [if_neg c3] at e'
          exact .inl ⟨_, e'⟩
  · exact g.env.step u fun i S _ b => ⟨we (.e i) (fun z => by cases z) (fun k _ _ z => by cases z) b, fun e => ⟨fun z => z, (g.own b _ e).2.1⟩⟩
  · refine ⟨a, us, P, rfl, trivial, upd_same, l.mono (Same.refl F) fun b hb => ?_, ?_, ?_, fun b hb => ?_⟩
    · obtain ⟨k, _, _, k3⟩ := hb
      exact upd_ne fun z => by rw [z, wa] at k3; cases k3
    · rintro ⟨k, _, _, k3⟩
      rw [wa] at k3; cases k3
    · show w' a = _
      show (if a = a then some (Lb.s st.length) else _) = _
      rw [if_pos rfl]
    · show (if b = a then some (Lb.s st.length) else if P b then some (.s st.length) else if w b = some (.s st.length) then none else w b) = _
      by_cases c1 : b = a
      · rw [if_pos c1]
      · rw [if_neg c1, if_pos hb]
  · exact r.step u fun i hi b => ⟨we (.s i) (fun z => by cases z; omega) (fun k k1 _ z => by cases z; omega) b, fun e => ⟨fun z => z, (g.own b _ e).2.1⟩⟩
/-- [..] of own things -/
theorem ex_lstO {t : TA} {m : R ε δ} {S : δ → List SP} {e' : δ → En} (h : AX X E env t [] m fun m' Ss e => ∃ c, m' = .ok c ∧ Ss = (S c).reverse ∧ (S c).length ≤ 1000 ∧ e = e' c) : EX X E env (tLst t) m (fun c => muO yes (S c)) e' := by
  intro st vs σ H Q g hm
  refine h st vs [] σ H _ _ g rfl hm fun us H' Ss e m' hh hl gg hq => ?_
  obtain ⟨c, rfl, hs, hc, he⟩ := hh
  obtain ⟨F, w, g'⟩ := gg
  subst hs he
  have hlen : us.length = (S c).length := by simpa using hl.symm
  refine ⟨Nat.le_of_lt (small1000 (by omega)), fun a ha => ?_⟩
  obtain ⟨w', g2⟩ := GG.pushLs (us := us) (by simpa using g') hlen ha
  exact hq _ _ ⟨F, w', g2⟩
/-- a new thing of one's own goes into a list of such -/
theorem GG.appO {φ : V → Prop} {Ss : List SP} {S1 : SP} {v : V} {i : Nat} {a : Addr} {S0 : SP} {plug : SP → SP} {st : List SP} {σ : L2.St} {vs : List V} {H F : Hp} {w : Ow} (g : GG E env (S1 :: st) σ (v :: vs) H F w) (h : env[i]? = some (some S0)) (l : Lens S0 (muO φ Ss) (.ref a) plug) :
    ∃ us, H a = some (.lst us) ∧ us.length = Ss.length ∧ ∃ w', GG E (env.set i (some (plug (muO φ (Ss ++ [S1]))))) st σ vs (upd H a (.lst (us ++ [v]))) F w' := by
  classical
  obtain ⟨u0, e1, e2⟩ := g.env.2 i _ h
  obtain ⟨o1, k1, ⟨a', us, o', ea, f, h1, h2, h3, h4, h5⟩, k3⟩ := l F H _ u0 e2
  cases ea
  have hi : i < env.length := (List.getElem?_eq_some_iff.mp h).1
  refine ⟨us, h1, h2.len.symm, ?_⟩
  have wa : w a = some (.e i) := k1 a h4
  obtain ⟨q1, q2, q3⟩ := g.own a _ wa
  have u := Ext.chg (o := .lst (us ++ [v])) g.ext.s q1
  have hS : S1.ok F H (w.of (.s st.length)) v := g.st.1
  have tn : ∀ b, w b = some (.s st.length) → b ≠ a := fun b hb z => by rw [z, wa] at hb; cases hb
  let w' : Ow := fun b => if w b = some (.s st.length) then some (.e i) else w b
  have wi : ∀ b, w' b = some (.e i) ↔ (w b = some (.e i) ∨ w b = some (.s st.length)) := fun b => by
    show (if w b = some (.s st.length) then some (Lb.e i) else w b) = some (.e i) ↔ _
    by_cases c : w b = some (.s st.length)
    · rw [if_pos c]; exact ⟨fun _ => .inr c, fun _ => rfl⟩
    · rw [if_neg c]; exact ⟨.inl, fun z => z.elim id fun y => absurd y c⟩
  have wo : ∀ (l : Lb), l ≠ .e i → l ≠ .s st.length → ∀ b, w' b = some l ↔ w b = some l := fun l n1 n2 b => by
    show (if w b = some (.s st.length) then some (Lb.e i) else w b) = some l ↔ _
    by_cases c : w b = some (.s st.length)
    · rw [if_pos c, c]; exact ⟨fun z => absurd (Option.some.inj z).symm n1, fun z => absurd (Option.some.inj z).symm n2⟩
    · rw [if_neg c]
  have key := k3 F (upd H a (.lst (us ++ [v]))) (fun b => o1 b ∨ w b = some (.s st.length)) (muO φ (Ss ++ [S1])) (Same.refl F) (fun b hb nb => upd_ne fun z => nb (by rw [z]; exact h4))
    (fun b hb hw => hb.elim id fun y => by have hw' : w b = some (.e i) := hw; rw [y] at hw'; cases hw')
    ⟨a, us ++ [v], fun b => o' b ∨ w b = some (.s st.length), rfl, f, upd_same, (LsOk.snoc hS (fun b hb z => by have hb' : w b = some (.s st.length) := hb; have := k1 b (h5 b z); rw [show w b = _ from this] at hb'; cases hb') h2).mono (Same.refl F) (fun b hb => upd_ne fun z => by
      rcases hb with y | y
      · exact h3 (by rw [← z]; exact y)
      · exact tn b y z),
      fun z => by
        rcases z with y | y
        · exact h3 y
        · exact tn a y rfl,
      .inl h4, fun b hb => hb.elim (fun y => .inl (h5 b y)) .inr⟩
  refine ⟨w', g.step u (fun b hb => ⟨.e i, by rw [hb]; exact wa⟩) (fun b l e => ?_) ⟨by simpa using g.env.1, fun j S e => ?_⟩ ?_⟩
  · by_cases c : w b = some (.s st.length)
    · exact .inl ⟨_, c⟩
    · have e' : (if w b = some (.s st.length) then some (Lb.e i) else w b) = some l := e
      rw [if_neg c] at e'
      exact .inl ⟨_, e'⟩
  · by_cases hj : i = j
    · subst hj
      rw [List.getElem?_set_self hi] at e
      cases e
      refine ⟨u0, e1, ?_⟩
      have : (fun b => (o1 b ∨ w b = some (.s st.length)) ∨ (w.of (.e i) b ∧ ¬ o1 b)) = w'.of (.e i) := funext fun b => propext ⟨fun z => (wi b).mpr (by
          rcases z with (y | y) | y
          · exact .inl (k1 b y)
          · exact .inr y
          · exact .inl y.1), fun z => by
        rcases (wi b).mp z with y | y
        · by_cases c : o1 b
          · exact .inl (.inl c)
          · exact .inr ⟨y, c⟩
        · exact .inl (.inr y)⟩
      rw [this] at key
      exact key
    · rw [List.getElem?_set_ne hj] at e
      obtain ⟨v', e3, e4⟩ := g.env.2 j S e
      refine ⟨v', e3, SP.step u e4 (fun b => wo (.e j) (fun z => by cases z; exact hj rfl) (fun z => by cases z) b) fun b eb => ⟨fun z => ?_, (g.own b _ eb).2.1⟩⟩
      rw [z, wa] at eb
      cases eb
      exact hj rfl
  · exact g.st.2.step u fun k hk b => ⟨wo (.s k) (fun z => by cases z) (fun z => by cases z; omega) b, fun e => ⟨fun z => (by rw [z, wa] at e; cases e), (g.own b _ e).2.1⟩⟩
/-- own.append(e), e a new thing of one's own -/
theorem ex_appendO {K : PySem.W.Frag} {φ : V → Prop} {Ss0 : List SP} {Ss : δ → List SP} {i : Nat} {a : Addr} {S00 : SP} {plug0 : SP → SP} {S0 : δ → SP} {plug : δ → SP → SP} {m : R ε δ} {S1 : δ → SP} {e1 : δ → En} {e' : τ → En} (out : δ → τ)
    (hr : EV X E env to (.ok ()) (fun _ => (isVP (.ref a)).sp)) (h0 : env[i]? = some (some S00)) (l0 : Lens S00 (muO φ Ss0) (.ref a) plug0) (he : EX X E env te m S1 e1) (h : ∀ x, (e1 x)[i]? = some (some (S0 x))) (l : ∀ x, Lens (S0 x) (muO φ (Ss x)) (.ref a) (plug x)) (hf : ∀ x, Fgt ((e1 x).set i (some (plug x (muO φ (Ss x ++ [S1 x]))))) (e' (out x))) :
    EX X E env (tBM K "list" rAppend to (tCons te tNil)) (m.bind fun x => gR ((Ss x).length < 16777216) (.ok (out x))) (fun _ => val tNon ()) e' := by
  intro st vs σ H Q gg hm
  rw [wp_bind] at hm
  refine hr st vs σ H _ gg fun v H1 g1 => ?_
  obtain ⟨F, w, g⟩ := id g1
  have ev : v = .ref a := g.st.1
  subst ev
  have hh0 : ∃ us, H1 a = some (.lst us) := by
    obtain ⟨u0, _, e2⟩ := g.env.2 i _ h0
    obtain ⟨o1, _, ⟨a', us, o', ea, f, h1, _⟩, _⟩ := l0 F H1 _ u0 e2
    cases ea
    exact ⟨us, h1⟩
  obtain ⟨us0, hh0⟩ := hh0
  refine ⟨tyV_lst hh0, he _ _ σ H1 _ g1 (wp_mono hm (fun x hm v H2 g2 => ?_) xcl_push)⟩
  obtain ⟨F2, w2, g2⟩ := g2
  obtain ⟨hlen, hq⟩ := wp_gR hm
  -- the list's own value lies between
  have g2' : ∃ w3, GG E (e1 x) (S1 x :: st) σ (v :: vs) H2 F2 w3 := by
    classical
    refine ⟨fun b => if w2 b = some (.s st.length) then none else if w2 b = some (.s (st.length + 1)) then some (.s st.length) else w2 b, g2.re (fun b l e => ?_) ?_ ⟨?_, ?_⟩⟩
    · by_cases c : w2 b = some (.s st.length)
      · exact ⟨_, c⟩
      · by_cases c2 : w2 b = some (.s (st.length + 1))
        · exact ⟨_, c2⟩
        · have e' : (if w2 b = some (.s st.length) then none else if w2 b = some (.s (st.length + 1)) then some (Lb.s st.length) else w2 b) = some l := e
          rw [if_neg c, if_neg c2] at e'
          exact ⟨_, e'⟩
    · refine ⟨g2.env.1, fun j S ej => ?_⟩
      obtain ⟨v', e3, e4⟩ := g2.env.2 j S ej
      refine ⟨v', e3, ?_⟩
      rw [show (Ow.of (fun b => if w2 b = some (.s st.length) then none else if w2 b = some (.s (st.length + 1)) then some (.s st.length) else w2 b) (.e j)) = w2.of (.e j) from ofq fun b => ?_]
      · exact e4
      · by_cases c : w2 b = some (.s st.length)
        · rw [if_pos c, c]; exact ⟨fun z => (by cases z), fun z => by cases z⟩
        · rw [if_neg c]
          by_cases c2 : w2 b = some (.s (st.length + 1))
          · rw [if_pos c2, c2]; exact ⟨fun z => (by cases z), fun z => by cases z⟩
          · rw [if_neg c2]
    · have := g2.st.1
      rw [show (Ow.of (fun b => if w2 b = some (.s st.length) then none else if w2 b = some (.s (st.length + 1)) then some (.s st.length) else w2 b) (.s st.length)) = w2.of (.s (st.length + 1)) from funext fun b => propext ?_]
      · exact this
      · show (if w2 b = some (.s st.length) then none else if w2 b = some (.s (st.length + 1)) then some (Lb.s st.length) else w2 b) = some (.s st.length) ↔ w2 b = some (.s (st.length + 1))
        by_cases c : w2 b = some (.s st.length)
        · rw [if_pos c, c]; exact ⟨fun z => (by cases z), fun z => by have := Option.some.inj z; simp at this⟩
        · rw [if_neg c]
          by_cases c2 : w2 b = some (.s (st.length + 1))
          · rw [if_pos c2]; exact ⟨fun _ => c2, fun _ => rfl⟩
          · rw [if_neg c2]; exact ⟨fun z => absurd z c, fun z => absurd z c2⟩
    · have r := g2.st.2.2
      refine StOk.step (M := fun _ => False) (Ext.refl g2.ext.s) r fun k hk b => ⟨?_, fun e => ⟨fun z => z, (g2.own b _ e).2.1⟩⟩
      by_cases c : w2 b = some (.s st.length)
      · rw [if_pos c, c]; exact ⟨fun z => (by cases z), fun z => by have := Option.some.inj z; simp at this; omega⟩
      · rw [if_neg c]
        by_cases c2 : w2 b = some (.s (st.length + 1))
        · rw [if_pos c2, c2]
          exact ⟨fun z => (by have := Option.some.inj z; simp at this; omega), fun z => by have := Option.some.inj z; simp at this; omega⟩
        · rw [if_neg c2]
  obtain ⟨w3, g3⟩ := g2'
  obtain ⟨us, hh, hl, w4, g4⟩ := GG.appO g3 (h x) (l x)
  refine ⟨a, us, v, rfl, rfl, hh, by rw [hl, sizeLine_eq]; exact hlen, ?_⟩
  obtain ⟨F5, w5, g5⟩ := G.fgt ⟨F2, w4, g4⟩ (hf x)
  exact hq _ _ ⟨F5, w5, g5.pushV (T := tNon) rfl⟩
theorem pick_ix {α : Type} {S : α → SP} {xs : List α} {i : Int} {q : Nat × α} (h : pickI xs i = some q) : ixN (xs.map S).length i = some q.1 := by
  rw [List.length_map]; exact (pickI_get h).1
theorem map_app {α : Type} {S : α → SP} {xs : List α} {y : α} : xs.map S ++ [S y] = (xs ++ [y]).map S := by simp
theorem pn_ixP {φ : V → Prop} {Ss : List SP} {k : Nat} {S : SP} {S' : Addr → SP} (hk : k < Ss.length) (hp : Pn S S') : Pn (muO φ (Ss.set k S)) (fun p => muO φ (Ss.set k (S' p))) := by
  have h := pn_ix (φ := φ) (Ss := Ss.set k S) (k := k) (S := S) (by rw [List.getElem?_set_self hk]) hp
  have e : (fun p => muO φ ((Ss.set k S).set k (S' p))) = fun p => muO φ (Ss.set k (S' p)) := funext fun p => by rw [List.set_set]
  rw [e] at h
  exact h
theorem ex_pick {xs : List α} {i : Int} {m : Nat × α → R ε γ} {S : γ → SP} {e' : γ → En} (h : ∀ q, pickI xs i = some q → EX X E env te (m q) S e') : EX X E env te ((R.of (pickI xs i)).bind m) S e' := by
  cases e : pickI xs i with
  | none => exact ex_no
  | some q => exact h q e
theorem tx_pick {xs : List α} {i : Int} {m : Nat × α → R ε γ} {b : γ → Bool} {e' : γ → En} (h : ∀ q, pickI xs i = some q → TX X E env tt (m q) b e') : TX X E env tt ((R.of (pickI xs i)).bind m) b e' := by
  cases e : pickI xs i with
  | none => exact fun st vs σ H Q g hm => hm.elim
  | some q => exact h q e
theorem ex_appendM {K : PySem.W.Frag} {φ : V → Prop} {Ss0 : List SP} {S : β → SP} {xs : δ → List β} {y : δ → β} {i : Nat} {a : Addr} {S00 : SP} {plug0 : SP → SP} {S0 : δ → SP} {plug : δ → SP → SP} {m : R ε δ} {e1 : δ → En} {e' : τ → En} (out : δ → τ)
    (hr : EV X E env to (.ok ()) (fun _ => (isVP (.ref a)).sp)) (h0 : env[i]? = some (some S00)) (l0 : Lens S00 (muO φ Ss0) (.ref a) plug0) (he : EX X E env te m (fun x => S (y x)) e1) (h : ∀ x, (e1 x)[i]? = some (some (S0 x))) (l : ∀ x, Lens (S0 x) (muO φ ((xs x).map S)) (.ref a) (plug x)) (hf : ∀ x, Fgt ((e1 x).set i (some (plug x (muO φ ((xs x ++ [y x]).map S))))) (e' (out x))) :
    EX X E env (tBM K "list" rAppend to (tCons te tNil)) (m.bind fun x => gR ((xs x).length < 16777216) (.ok (out x))) (fun _ => val tNon ()) e' := by
  have z := ex_appendO (K := K) (Ss := fun x => (xs x).map S) (S1 := fun x => S (y x)) out hr h0 l0 he h l (fun x => by rw [map_app]; exact hf x)
  refine ex_eq z ?_
  simp only [List.length_map]
end
end NL

set_option Elab.async false
set_option linter.all false
set_option maxRecDepth 100000
set_option maxHeartbeats 4000000
/-! NL: a walk over a list of one's own that stays as it is -/
namespace NL
open PySem PySem.Spec PyProof.Rows L2 ML
open PySem.Sem (wp)
section
variable {ε α β γ δ τ ρ σs : Type} {X : Xc ε} {E : Ent} {env : En} {te ti tb to : TE} {tt : TT} {u : TS} {post : Post γ}
/-- a part comes to the stack; in its place stands its address alone -/
theorem GG.take {S0 S1 : SP} {plug : SP → SP} {i : Nat} {a : Addr} {st : List SP} {σ : L2.St} {vs : List V} {H F : Hp} {w : Ow} (g : GG E env st σ vs H F w) (h : env[i]? = some (some S0)) (l : Lens S0 S1 (.ref a) plug) : ∃ w', GG E (env.set i (some (plug (isVP (.ref a)).sp))) (S1 :: st) σ (.ref a :: vs) H F w' := by
  classical
  obtain ⟨u0, e1, e2⟩ := g.env.2 i _ h
  obtain ⟨o1, k1, k2, k3⟩ := l F H _ u0 e2
  have hi : i < env.length := (List.getElem?_eq_some_iff.mp h).1
  have key := k3 F H (fun _ => False) (isVP (.ref a)).sp (Same.refl F) (fun _ _ _ => rfl) (fun _ z _ => z.elim) rfl
  let n := st.length
  let w' : Ow := fun b => if o1 b then some (.s n) else if w b = some (.s n) then none else w b
  have wn : ∀ b, w' b = some (.s n) ↔ o1 b := fun b => by
    show (if o1 b then some (Lb.s n) else if w b = some (.s n) then none else w b) = some (.s n) ↔ _
    by_cases c : o1 b
    · rw [if_pos c]; exact ⟨fun _ => c, fun _ => rfl⟩
    · rw [if_neg c]
      by_cases d : w b = some (.s n)
      · rw [if_pos d]; exact ⟨fun z => (by cases z), fun z => absurd z c⟩
      · rw [if_neg d]; exact ⟨fun z => absurd z d, fun z => absurd z c⟩
  have wo : ∀ (l : Lb), l ≠ .s n → l ≠ .e i → ∀ b, w' b = some l ↔ w b = some l := fun l n1 n2 b => by
    show (if o1 b then some (Lb.s n) else if w b = some (.s n) then none else w b) = some l ↔ _
    by_cases c : o1 b
    · rw [if_pos c, k1 b c]; exact ⟨fun z => absurd (Option.some.inj z).symm n1, fun z => absurd (Option.some.inj z).symm n2⟩
    · rw [if_neg c]
      by_cases d : w b = some (.s n)
      · rw [if_pos d, d]; exact ⟨fun z => (by cases z), fun z => absurd (Option.some.inj z).symm n1⟩
      · rw [if_neg d]
  have wi : ∀ b, w' b = some (.e i) ↔ (w b = some (.e i) ∧ ¬ o1 b) := fun b => by
    show (if o1 b then some (Lb.s n) else if w b = some (.s n) then none else w b) = some (.e i) ↔ _
    by_cases c : o1 b
    · rw [if_pos c]; exact ⟨fun z => (by cases z), fun z => absurd c z.2⟩
    · rw [if_neg c]
      by_cases d : w b = some (.s n)
      · rw [if_pos d, d]; exact ⟨fun z => (by cases z), fun z => (by cases z.1)⟩
      · rw [if_neg d]; exact ⟨fun z => ⟨z, c⟩, fun z => z.1⟩
  refine ⟨w', g.re (fun b l e => ?_) ⟨by simpa using g.env.1, fun j S e => ?_⟩ ⟨?_, ?_⟩⟩
  · have e' : (if o1 b then some (Lb.s n) else if w b = some (.s n) then none else w b) = some l := e
    by_cases c : o1 b
    · exact ⟨_, k1 b c⟩
    · rw [if_neg c] at e'
      by_cases d : w b = some (.s n)
      · exact ⟨_, d⟩
      · rw [if_neg d] at e'; exact ⟨_, e'⟩
  · by_cases hj : i = j
    · subst hj
      rw [List.getElem?_set_self hi] at e
      cases e
      refine ⟨u0, e1, ?_⟩
      have : (fun b => False ∨ (w.of (.e i) b ∧ ¬ o1 b)) = w'.of (.e i) := funext fun b => propext ⟨fun z => (wi b).mpr (z.elim False.elim id), fun z => .inr ((wi b).mp z)⟩
      rw [this] at key
      exact key
    · rw [List.getElem?_set_ne hj] at e
      obtain ⟨v', e3, e4⟩ := g.env.2 j S e
      refine ⟨v', e3, ?_⟩
      rw [ofq (wo (.e j) (fun z => by cases z) (fun z => by cases z; exact hj rfl))]
      exact e4
  · show S1.ok F H (w'.of (.s n)) (.ref a)
    rw [show w'.of (.s n) = o1 from funext fun b => propext (wn b)]
    exact k2
  · exact g.st.step (M := fun _ => False) (Ext.refl g.ext.s) fun k hk b => ⟨wo (.s k) (fun z => by cases z; exact Nat.lt_irrefl _ hk) (fun z => by cases z) b, fun e => ⟨fun z => z, (g.own b _ e).2.1⟩⟩
/-- it goes back -/
theorem GG.give {S0 S1 : SP} {plug : SP → SP} {i : Nat} {a : Addr} {st : List SP} {σ : L2.St} {vs : List V} {H F : Hp} {w : Ow} (g : GG E env (S1 :: st) σ (.ref a :: vs) H F w) (h : env[i]? = some (some S0)) (l : Lens S0 (isVP (.ref a)).sp (.ref a) plug) : ∃ w', GG E (env.set i (some (plug S1))) st σ vs H F w' := by
  classical
  obtain ⟨u0, e1, e2⟩ := g.env.2 i _ h
  obtain ⟨o1, k1, k2, k3⟩ := l F H _ u0 e2
  have hi : i < env.length := (List.getElem?_eq_some_iff.mp h).1
  let n := st.length
  have hS : S1.ok F H (w.of (.s n)) (.ref a) := g.st.1
  have key := k3 F H (w.of (.s n)) S1 (Same.refl F) (fun _ _ _ => rfl) (fun b hb hw => by
    have hb' : w b = some (.s n) := hb
    have hw' : w b = some (.e i) := hw
    rw [hb'] at hw'; cases hw') hS
  let w' : Ow := fun b => if w b = some (.s n) then some (.e i) else if o1 b then none else w b
  have wo : ∀ (l : Lb), l ≠ .s n → l ≠ .e i → ∀ b, w' b = some l ↔ w b = some l := fun l n1 n2 b => by
    show (if w b = some (.s n) then some (Lb.e i) else if o1 b then none else w b) = some l ↔ _
    by_cases c : w b = some (.s n)
    · rw [if_pos c, c]; exact ⟨fun z => absurd (Option.some.inj z).symm n2, fun z => absurd (Option.some.inj z).symm n1⟩
    · rw [if_neg c]
      by_cases d : o1 b
      · rw [if_pos d, k1 b d]; exact ⟨fun z => (by cases z), fun z => absurd (Option.some.inj z).symm n2⟩
      · rw [if_neg d]
  have wi : ∀ b, w' b = some (.e i) ↔ (w b = some (.s n) ∨ (w b = some (.e i) ∧ ¬ o1 b)) := fun b => by
    show (if w b = some (.s n) then some (Lb.e i) else if o1 b then none else w b) = some (.e i) ↔ _
    by_cases c : w b = some (.s n)
    · rw [if_pos c]; exact ⟨fun _ => .inl c, fun _ => rfl⟩
    · rw [if_neg c]
      by_cases d : o1 b
      · rw [if_pos d]; exact ⟨fun z => (by cases z), fun z => z.elim (fun y => absurd y c) fun y => absurd d y.2⟩
      · rw [if_neg d]; exact ⟨fun z => .inr ⟨z, d⟩, fun z => z.elim (fun y => absurd y c) fun y => y.1⟩
  refine ⟨w', g.re (fun b l e => ?_) ⟨by simpa using g.env.1, fun j S e => ?_⟩ ?_⟩
  · have e' : (if w b = some (.s n) then some (Lb.e i) else if o1 b then none else w b) = some l := e
    by_cases c : w b = some (.s n)
    · exact ⟨_, c⟩
    · rw [if_neg c] at e'
      by_cases d : o1 b
      · rw [if_pos d] at e'; cases e'
      · rw [if_neg d] at e'; exact ⟨_, e'⟩
  · by_cases hj : i = j
    · subst hj
      rw [List.getElem?_set_self hi] at e
      cases e
      refine ⟨u0, e1, ?_⟩
      have : (fun b => w.of (.s n) b ∨ (w.of (.e i) b ∧ ¬ o1 b)) = w'.of (.e i) := funext fun b => propext ⟨fun z => (wi b).mpr z, fun z => (wi b).mp z⟩
      rw [this] at key
      exact key
    · rw [List.getElem?_set_ne hj] at e
      obtain ⟨v', e3, e4⟩ := g.env.2 j S e
      refine ⟨v', e3, ?_⟩
      rw [ofq (wo (.e j) (fun z => by cases z) (fun z => by cases z; exact hj rfl))]
      exact e4
  · exact g.st.2.step (M := fun _ => False) (Ext.refl g.ext.s) fun k hk b => ⟨wo (.s k) (fun z => by cases z; exact Nat.lt_irrefl _ hk) (fun z => by cases z) b, fun e => ⟨fun z => z, (g.own b _ e).2.1⟩⟩
theorem own_turn {K : PySem.W.Frag} {φ : V → Prop} {T : Ty α} {xs : List α} {a : Addr} {st : List SP} {σ : L2.St} {vs : List V} {H : Hp} {i : Nat} (gg : G E env (muL φ T xs :: st) σ (.ref a :: vs) H) :
    (∀ y, xs[i]? = some y → (Itl K a).go i H ∧ ∀ x H', (Itl K a).yld i H x H' → G E env (val T y :: muL φ T xs :: st) σ (x :: .ref a :: vs) H') ∧ (xs.length ≤ i → (Itl K a).stop i H) := by
  obtain ⟨F, w, g⟩ := gg
  obtain ⟨a', us, e, _, _, h, p⟩ := id g.st.1
  cases e
  have hs : SqL K H a us := .of h
  refine ⟨fun y hy => ?_, fun hl => ⟨us, hs, by rw [p.length]; exact hl⟩⟩
  obtain ⟨x, e1, e2⟩ := ML.Paired.get p hy
  refine ⟨⟨us, x, hs, e1⟩, fun x' H' ⟨eH, hx⟩ => ?_⟩
  cases eH
  have := hx us hs
  rw [e1] at this
  cases this
  exact ⟨F, w, g.pushV e2⟩
theorem bk_forNO {K : PySem.W.Frag} {g : TG} {tb u : TS} {T : Ty α} {φ : V → Prop} {xs : List α} {a : Addr} {i : Nat} {S0 : SP} {plug : SP → SP} {eL : σs → En} {eX : α → σs → En} {s0 : σs} {f : α → σs → R ε σs} {k : σs → R ε γ} {S2 : σs → SP} {plug2 : σs → SP → SP} {eK : σs → En}
    (he : EV X E env te (.ok ()) (fun _ => (isVP (.ref a)).sp)) (h : env[i]? = some (some S0)) (l : Lens S0 (muL φ T xs) (.ref a) plug) (h0 : Fgt (env.set i (some (plug (isVP (.ref a)).sp))) (eL s0)) (hg : ∀ x s, AS E (eL s) g (val T x) (eX x s)) (hb : ∀ x s, BK X E (eX x s) tb (f x s) (pN E eL))
    (h2 : ∀ s, (eL s)[i]? = some (some (S2 s))) (l2 : ∀ s, Lens (S2 s) (isVP (.ref a)).sp (.ref a) (plug2 s)) (hf : ∀ s, Fgt ((eL s).set i (some (plug2 s (muL φ T xs)))) (eK s)) (hk : ∀ s, BK X E (eK s) u (k s) post) :
    BK X E env (tSeq (tFor (iList K te) g tb) u) ((forN xs s0 f).bind k) post := by
  intro st vs σ H D gg hm
  rw [wp_bind] at hm
  refine he st vs σ H _ gg fun v H1 g1 => ?_
  obtain ⟨F, w, g1⟩ := g1
  have ev : v = .ref a := g1.st.1
  subst ev
  have g0 := g1.pop
  obtain ⟨w1, g2⟩ := GG.take g0 h l
  obtain ⟨a', us, e, _, _, hh, _⟩ := id g2.st.1
  cases e
  have bk : ∀ s σ' H', G E (eL s) (muL φ T xs :: st) σ' (.ref a :: vs) H' → G E (eK s) st σ' vs H' := fun s σ' H' ⟨F', w', g'⟩ => by
    obtain ⟨w2, g3⟩ := GG.give g' (h2 s) (l2 s)
    exact G.fgt ⟨F', w2, g3⟩ (hf s)
  refine ⟨a, rfl, ⟨us, .of hh⟩, fun i m σ' H' => m = xs.length - i ∧ ∃ s, G E (eL s) (muL φ T xs :: st) σ' (.ref a :: vs) H' ∧ wp (forN (xs.drop i) s f) (fun s => wp (k s) (fun g => post g st vs D) (fun e => ∀ σ', xcl X E st vs σ' e)) (fun e => ∀ σ', xcl X E st vs σ' e), ⟨_, rfl, s0, G.fgt ⟨F, w1, g2⟩ h0, by simpa using hm⟩, ?_⟩
  rintro i m σ' H' ⟨rfl, s, g2, e⟩
  obtain ⟨w1, w2⟩ := own_turn (K := K) (i := i) g2
  cases hd : xs.drop i with
  | nil =>
    rw [hd] at e
    exact .inl ⟨w2 (drop_nil hd), hk s st vs σ' H' D (bk s σ' H' g2) e⟩
  | cons x r =>
    rw [hd] at e
    obtain ⟨d1, d2⟩ := drop_cons hd
    have e' := (wp_bind (m := f x s) (k := fun s' => forN r s' f)).mp e
    obtain ⟨w3, w4⟩ := w1 x d1
    have hlt : i < xs.length := (List.getElem?_eq_some_iff.mp d1).1
    refine .inr ⟨w3, fun σ'' H'' => ∃ m', m' < xs.length - i ∧ m' = xs.length - (i + 1) ∧ ∃ s, G E (eL s) (muL φ T xs :: st) σ'' (.ref a :: vs) H'' ∧ wp (forN (xs.drop (i + 1)) s f) (fun s => wp (k s) (fun g => post g st vs D) (fun e => ∀ σ', xcl X E st vs σ' e)) (fun e => ∀ σ', xcl X E st vs σ' e), fun σ'' H'' ⟨m', h1, h2, h3⟩ => ⟨m', h1, h2, h3⟩, fun xv H'' hy => ?_⟩
    refine hg x s _ _ σ' H'' _ xv (w4 xv H'' hy) fun σ2 H2 g3 => ?_
    exact hb x s _ _ σ2 H2 _ g3 (wp_mono e' (fun s' e2 σ3 H3 g4 => ⟨_, by omega, rfl, s', g4, by rw [d2]; exact e2⟩) fun e h σ' => xcl_push e (h σ'))
theorem bk_forLO {K : PySem.W.Frag} {g : TG} {tb u : TS} {T : Ty α} {φ : V → Prop} {xs : List α} {a : Addr} {i : Nat} {S0 : SP} {plug : SP → SP} {eL : σs → En} {eX : α → σs → En} {s0 : σs} {f : α → σs → R ε (Out σs σs ρ)} {k : σs → R ε γ} {S2 : σs → SP} {plug2 : σs → SP → SP} {eK : σs → En} {R : ρ → SP} {eR : ρ → En} {emb : ρ → γ} (he0 : Emb E post R eR emb)
    (he : EV X E env te (.ok ()) (fun _ => (isVP (.ref a)).sp)) (h : env[i]? = some (some S0)) (l : Lens S0 (muL φ T xs) (.ref a) plug) (h0 : Fgt (env.set i (some (plug (isVP (.ref a)).sp))) (eL s0)) (hg : ∀ x s, AS E (eL s) g (val T x) (eX x s)) (hb : ∀ x s, BK X E (eX x s) tb (f x s) (pL E eL eL R eR))
    (h2 : ∀ s, (eL s)[i]? = some (some (S2 s))) (l2 : ∀ s, Lens (S2 s) (isVP (.ref a)).sp (.ref a) (plug2 s)) (hf : ∀ s, Fgt ((eL s).set i (some (plug2 s (muL φ T xs)))) (eK s)) (hk : ∀ s, BK X E (eK s) u (k s) post) :
    BK X E env (tSeq (tFor (iList K te) g tb) u) (thenS (forL xs s0 f) k emb) post := by
  intro st vs σ H D gg hm
  refine he st vs σ H _ gg fun v H1 g1 => ?_
  obtain ⟨F, w, g1⟩ := g1
  have ev : v = .ref a := g1.st.1
  subst ev
  have g0 := g1.pop
  obtain ⟨w1, g2⟩ := GG.take g0 h l
  obtain ⟨a', us, e, _, _, hh, _⟩ := id g2.st.1
  cases e
  have bk : ∀ s σ' H', G E (eL s) (muL φ T xs :: st) σ' (.ref a :: vs) H' → G E (eK s) st σ' vs H' := fun s σ' H' ⟨F', w', g'⟩ => by
    obtain ⟨w2, g3⟩ := GG.give g' (h2 s) (l2 s)
    exact G.fgt ⟨F', w2, g3⟩ (hf s)
  unfold thenS at hm
  rw [wp_bind] at hm
  let Φ : Sum σs ρ → Prop := fun o => wp (match o with | .inl s => k s | .inr r => (.ok (emb r) : NL.R ε γ)) (fun g => post g st vs D) (fun e => ∀ σ', xcl X E st vs σ' e)
  let Ξ : ε → Prop := fun e => ∀ σ', xcl X E st vs σ' e
  have hm : wp (forL xs s0 f) Φ Ξ := wp_mono hm (fun o h => by cases o <;> exact h) fun e h => h
  have nxt : ∀ s, Φ (.inl s) → ∀ σ' H', G E (eL s) (muL φ T xs :: st) σ' (.ref a :: vs) H' → u D σ' H' := fun s e σ' H' g2 => hk s st vs σ' H' D (bk s σ' H' g2) e
  refine ⟨a, rfl, ⟨us, .of hh⟩, fun i m σ' H' => m = xs.length - i ∧ ∃ s, G E (eL s) (muL φ T xs :: st) σ' (.ref a :: vs) H' ∧ wp (forL (xs.drop i) s f) Φ Ξ, ⟨_, rfl, s0, G.fgt ⟨F, w1, g2⟩ h0, by simpa using hm⟩, ?_⟩
  rintro i m σ' H' ⟨rfl, s, g2, e⟩
  obtain ⟨w1, w2⟩ := own_turn (K := K) (i := i) g2
  cases hd : xs.drop i with
  | nil =>
    rw [hd] at e
    exact .inl ⟨w2 (drop_nil hd), nxt s e σ' H' g2⟩
  | cons x r =>
    rw [hd] at e
    obtain ⟨d1, d2⟩ := drop_cons hd
    have e' := (wp_bind (m := f x s) (k := forK fun s' => forL r s' f)).mp e
    obtain ⟨w3, w4⟩ := w1 x d1
    have hlt : i < xs.length := (List.getElem?_eq_some_iff.mp d1).1
    refine .inr ⟨w3, fun σ'' H'' => ∃ m', m' < xs.length - i ∧ m' = xs.length - (i + 1) ∧ ∃ s, G E (eL s) (muL φ T xs :: st) σ'' (.ref a :: vs) H'' ∧ wp (forL (xs.drop (i + 1)) s f) Φ Ξ, fun σ'' H'' ⟨m', h1, h2, h3⟩ => ⟨m', h1, h2, h3⟩, fun xv H'' hy => ?_⟩
    refine hg x s _ _ σ' H'' _ xv (w4 xv H'' hy) fun σ2 H2 g3 => ?_
    refine hb x s _ _ σ2 H2 _ g3 (wp_mono e' (fun o e2 => ?_) fun e h σ' => xcl_push e (h σ'))
    cases o with
    | nx s' => exact fun σ3 H3 g4 => ⟨_, by omega, rfl, s', g4, by rw [d2]; exact e2⟩
    | ct s' => exact fun σ3 H3 g4 => ⟨_, by omega, rfl, s', g4, by rw [d2]; exact e2⟩
    | brk s' => exact fun σ3 H3 g4 => nxt s' e2 σ3 H3 g4
    | ret r' => exact fun v' σ3 H3 g4 => he0 r' st vs D e2 v' σ3 H3 g4.nip
/-- own.extend(own) -/
theorem ex_extendO {K : PySem.W.Frag} {φ φ2 : V → Prop} {T : Ty α} {xs ys : List α} {i j : Nat} {a b : Addr} {S0 S2 : SP} {plug plug2 : SP → SP} {e' : τ → En} (out : τ)
    (hr : EV X E env to (.ok ()) (fun _ => (isVP (.ref a)).sp)) (h : env[i]? = some (some S0)) (l : Lens S0 (muL φ T xs) (.ref a) plug) (ha : EV X E env te (.ok ()) (fun _ => (isVP (.ref b)).sp)) (h2 : env[j]? = some (some S2)) (l2 : Lens S2 (muL φ2 T ys) (.ref b) plug2) (hf : Fgt (env.set i (some (plug (muL φ T (xs ++ ys))))) (e' out)) :
    EX X E env (tBM K "list" rExtend to (tCons te tNil)) (gR (xs.length + ys.length ≤ 16777216) (.ok out)) (fun _ => val tNon ()) e' := by
  intro st vs σ H Q gg hm
  refine hr st vs σ H _ gg fun v H1 g1 => ?_
  obtain ⟨F, w, g⟩ := id g1
  have ev : v = .ref a := g.st.1
  subst ev
  obtain ⟨us0, hh0, _, _⟩ := GG.mutP g h l
  refine ⟨tyV_lst hh0, ha _ _ σ H1 _ g1 fun v H2 g2 => ?_⟩
  obtain ⟨F2, w2, g2⟩ := g2
  have ev : v = .ref b := g2.st.1
  subst ev
  obtain ⟨hlen, hq⟩ := wp_gR hm
  obtain ⟨u2, _, e2⟩ := g2.env.2 j _ h2
  obtain ⟨o2, _, ⟨b', zs, eb, _, _, hb, pb⟩, _⟩ := l2 F2 H2 _ u2 e2
  cases eb
  obtain ⟨us, hh, p, k⟩ := GG.mutP g2.pop.pop h l
  refine ⟨a, b, us, zs, rfl, rfl, hh, hb, by rw [p.length, pb.length, sizeLine_eq]; exact hlen, ?_⟩
  obtain ⟨F3, w3, g3⟩ := G.fgt ⟨F2, w2, k (us ++ zs) (xs ++ ys) (ML.Paired.app p pb)⟩ hf
  exact hq _ _ ⟨F3, w3, g3.pushV (T := tNon) rfl⟩
end
theorem cr_sumK {X : Cx} {K : PySem.W.Frag} (hK : X.K = K) (hc : X.calm = true := by rfl) : CallR X (.builtin "sum") (rSum K) := hK ▸ cr_sum hc
theorem o1_sum {K : PySem.W.Frag} {xs : List Int} : O1 (fun v H Q => rSum K [v] H Q) (val (tL tInt) xs) (some xs.sum) (val tInt) := o1_mk fun c hm F H Q va s ⟨a, us, e, h, p⟩ hq => by
  cases hm
  have e2 := paired_ints p
  exact ⟨a, xs, by rw [e], by rw [← e2]; exact .of (s _ _ h), hq _ rfl⟩
theorem map_same {α : Type} {S : α → SP} {xs : List α} {i : Int} {q : Nat × α} (h : pickI xs i = some q) : (xs.map S).set q.1 (S q.2) = xs.map S := by
  have e := (pickI_get h).2
  rw [← List.map_set]
  congr 1
  apply List.ext_getElem? 
  intro k
  rw [List.getElem?_set]
  by_cases c : q.1 = k
  · subst c
    rw [if_pos rfl, e]
    have := (List.getElem?_eq_some_iff.mp e).1
    rw [if_pos this]
  · rw [if_neg c]
theorem ex_at {ε α : Type} {X : Xc ε} {E : Ent} {env : En} {te : TE} {m : R ε α} {S : α → SP} {e' : α → En} (h : EX X E env te m S e') : EX X E env te m S e' := h
end NL

namespace NL
open PySem PySem.Spec PyProof.Rows L2 ML
namespace LW
set_option maxHeartbeats 0
abbrev law_ : PySem.W.OpenLaw := PySem.Challenge.rw_throughline_k54_messages
def topS (i : Nat) : Stmt := PySem.Challenge.pw_throughline_k54_messages.main.body.getD i (.Pass ⟨0, 0, 0, 0⟩)
abbrev s__law_start : Stmt := topS 11
abbrev s__law_cell : Stmt := topS 9
abbrev s__law_digit : Stmt := topS 12
abbrev s__law_message : Stmt := topS 13
abbrev s_frame_message : Stmt := topS 6
abbrev s_Messages_init : Stmt := inClass (topS 7) 0
abbrev s__law_whole : Stmt := topS 14
abbrev s_Messagessize_at : Stmt := inClass (topS 7) 3
abbrev s_Messages_feed : Stmt := inClass (topS 7) 2
abbrev s__law_is_integer : Stmt := topS 10
abbrev s__law_same : Stmt := topS 15
abbrev s_Messages_pending : Stmt := inClass (topS 7) 1
abbrev s__law_too_long : Stmt := topS 16
abbrev s_law : Stmt := topS 17
def d__law_start : DefX := ⟨fun K => He.ga K "_law_start", "_law_start", "_law_start", defArgs s__law_start, defBody s__law_start, defScope s__law_start, [], []⟩
def d__law_cell : DefX := ⟨fun K => He.ga K "_law_cell", "_law_cell", "_law_cell", defArgs s__law_cell, defBody s__law_cell, defScope s__law_cell, [], []⟩
def d__law_digit : DefX := ⟨fun K => He.ga K "_law_digit", "_law_digit", "_law_digit", defArgs s__law_digit, defBody s__law_digit, defScope s__law_digit, [], []⟩
def d__law_message : DefX := ⟨fun K => He.ga K "_law_message", "_law_message", "_law_message", defArgs s__law_message, defBody s__law_message, defScope s__law_message, [], []⟩
def d_frame_message : DefX := ⟨fun K => He.ga K "frame_message", "frame_message", "frame_message", defArgs s_frame_message, defBody s_frame_message, defScope s_frame_message, [], []⟩
def d_Messages_init : DefX := ⟨fun K => He.ma K (He.ga K "Messages") "__init__", "__init__", "Messages.__init__", defArgs s_Messages_init, defBody s_Messages_init, defScope s_Messages_init, [], []⟩
def d__law_whole : DefX := ⟨fun K => He.ga K "_law_whole", "_law_whole", "_law_whole", defArgs s__law_whole, defBody s__law_whole, defScope s__law_whole, [], []⟩
def d_Messagessize_at : DefX := ⟨fun K => He.ma K (He.ga K "Messages") "_size_at", "_size_at", "Messages._size_at", defArgs s_Messagessize_at, defBody s_Messagessize_at, defScope s_Messagessize_at, [], []⟩
def d_Messages_feed : DefX := ⟨fun K => He.ma K (He.ga K "Messages") "feed", "feed", "Messages.feed", defArgs s_Messages_feed, defBody s_Messages_feed, defScope s_Messages_feed, [], []⟩
def d__law_is_integer : DefX := ⟨fun K => He.ga K "_law_is_integer", "_law_is_integer", "_law_is_integer", defArgs s__law_is_integer, defBody s__law_is_integer, defScope s__law_is_integer, [], []⟩
def d__law_same : DefX := ⟨fun K => He.ga K "_law_same", "_law_same", "_law_same", defArgs s__law_same, defBody s__law_same, defScope s__law_same, [], []⟩
def d_Messages_pending : DefX := ⟨fun K => pgA K (He.ga K "Messages") "pending", "pending", "Messages.pending", defArgs s_Messages_pending, defBody s_Messages_pending, defScope s_Messages_pending, [], []⟩
def d__law_too_long : DefX := ⟨fun K => He.ga K "_law_too_long", "_law_too_long", "_law_too_long", defArgs s__law_too_long, defBody s__law_too_long, defScope s__law_too_long, [], []⟩
def d_law : DefX := ⟨fun K => He.ga K "law", "law", "law", defArgs s_law, defBody s_law, defScope s_law, [], []⟩
theorem unc {α : Type} {l : List α} {n : Nat} (h : l.length = n + 1) : ∃ a t, l = a :: t ∧ t.length = n := by
  cases l with
  | nil => cases h
  | cons a t => exact ⟨a, t, rfl, by simpa using h⟩
def fn_ : List DefX := [d__law_start, d__law_cell, d__law_digit, d__law_message, d_frame_message, d_Messages_init, d__law_whole, d_Messagessize_at, d_Messages_feed, d__law_is_integer, d__law_same, d_Messages_pending, d__law_too_long, d_law]
def fa_ : List FaX := [faOf (.free "bool"), faOf (.free "int"), faOf (.free "isinstance"), faOf (.free "len"), faOf (.free "list"), faOf (.free "min"), faOf (.free "range"), faOf (.free "sum"), faOf (.int "MOST_OCTETS" 65535), faOf (.glo "_law_cell"), faOf (.keep "_law_cell"), faOf (.glo "_law_start"), faOf (.keep "_law_start"), faOf (.glo "_law_digit"), faOf (.keep "_law_digit"), faOf (.glo "_law_message"), faOf (.keep "_law_message"), faOf (.exc "InvalidAmount"), faOf (.glo "InvalidAmount"), faOf (.glo "frame_message"), faOf (.keep "frame_message"), faOf (.cls "Messages"), faOf (.noat "Messages" "_waiting"), faOf (.mkr "Messages"), faOf (.glo "Messages"), faOf (.glo "_law_whole"), faOf (.keep "_law_whole"), faOf (.meth "Messages" "_size_at"), faOf (.meth "Messages" "feed"), faOf (.glo "_law_is_integer"), faOf (.keep "_law_is_integer"), faOf (.glo "_law_same"), faOf (.keep "_law_same"), propB "Messages" "pending", faOf (.exm "InvalidAmount" "InvalidAmount" true), kieB "InvalidAmount" (fun K => (.ref (He.ga K "ThroughlineError"))) true, faOf (.glo "ThroughlineError"), exCB "InvalidAmount", kieB "InvalidAmount" (fun K => (.ref (He.ga K "InvalidFrame"))) false, faOf (.glo "InvalidFrame"), faOf (.glo "_law_too_long"), faOf (.keep "_law_too_long"), faOf (.glo "law")]
def loose_ : List Str := [("ThroughlineError" : Str), ("InvalidAmount" : Str), ("InvalidFrame" : Str), ("frame_message" : Str), ("Messages" : Str), ("_law_cell" : Str), ("_law_is_integer" : Str), ("_law_start" : Str), ("_law_digit" : Str), ("_law_message" : Str), ("_law_whole" : Str), ("_law_same" : Str), ("_law_too_long" : Str), ("MOST_OCTETS" : Str)]
abbrev R__ : PySem.W.OpenRow := PySem.W.OpenLaw.row law_
abbrev hk : PySem.W.Hook := hookX 6 fa_ fn_
def obs_ (s : PySem.W.SharedT) : He.AlD := obsXG 6 fa_ fn_ (HandSHeadRun.getT s)
theorem obs_eq (s : PySem.W.SharedT) : obs_ s = hk.obs s.abs := obsXG_eq (HandSHeadRun.getT_eq s)
theorem run_ (w : World) : HandSHeadRun.RunEq R__ (PySem.W.view R__.prog [17]) hk obs_ 20000 loose_ w := by
  intro os
  kernel_rfl

end LW
end NL

set_option Elab.async false
set_option linter.all false
set_option maxRecDepth 100000
set_option maxHeartbeats 2000000
namespace NL
open PySem PySem.Spec PyProof.Rows L2 ML
namespace LW
structure R_Messages where
  waiting : (List Int)
def vO_Messages (K : PySem.W.Frag) (x : R_Messages) : List (Str × SP) := [("_waiting", muL yes tInt x.waiting)]
def vI_Messages (K : PySem.W.Frag) (x : R_Messages) : List (Str × VP) := [("_waiting", vp (tL tInt) x.waiting)]
abbrev tI_Messages (K : PySem.W.Frag) : Ty R_Messages := tI (He.ga K "Messages") (vI_Messages K)
theorem fz_Messages (K : PySem.W.Frag) {φ : V → Prop} (x : R_Messages) : Fz (ML.ob φ (He.ga K "Messages") (vO_Messages K x)) (vp (tI_Messages K) x) := fz_ob (.cons fz_mu .nil)
theorem lk_Messages_waiting (K : PySem.W.Frag) (x : R_Messages) : (vO_Messages K x).lookup ("_waiting" : Str) = some (muL yes tInt x.waiting) := rfl
theorem pt_Messages_waiting (K : PySem.W.Frag) (x : R_Messages) (y : (List Int)) : putS "_waiting" (muL yes tInt y) (vO_Messages K x) = vO_Messages K { x with waiting := y } := rfl
theorem lki_Messages_waiting (K : PySem.W.Frag) (x : R_Messages) : (vI_Messages K x).lookup ("_waiting" : Str) = some (vp (tL tInt) x.waiting) := rfl
theorem ln_Messages_size_at (K : PySem.W.Frag) (x : R_Messages) : (vO_Messages K x).lookup ("_size_at" : Str) = none := rfl
theorem ln_Messages_feed (K : PySem.W.Frag) (x : R_Messages) : (vO_Messages K x).lookup ("feed" : Str) = none := rfl
theorem ln_Messages_pending (K : PySem.W.Frag) (x : R_Messages) : (vO_Messages K x).lookup ("pending" : Str) = none := rfl
inductive XC where
  | InvalidAmount
@[reducible] def XC.on {α : Type} (a0 : α) : XC → α
  | .InvalidAmount => a0
def XC.ex : XC → Exn
  | .InvalidAmount => ("InvalidAmount", [])
structure Txt (K : PySem.W.Frag) (mg : Str → Option Value) : Prop where
  b_bool : mg "bool" = none
  b_int : mg "int" = none
  b_isinstance : mg "isinstance" = none
  b_len : mg "len" = none
  b_list : mg "list" = none
  b_min : mg "min" = none
  b_range : mg "range" = none
  b_sum : mg "sum" = none
  c_MOST_OCTETS : ∃ t, mg "MOST_OCTETS" = some (.int 65535 t)
  gf__law_cell : mg "_law_cell" = some (.ref (He.ga K "_law_cell"))
  kf__law_cell : PySem.W.keepIn K (.ref (He.ga K "_law_cell")) = true
  gf__law_start : mg "_law_start" = some (.ref (He.ga K "_law_start"))
  kf__law_start : PySem.W.keepIn K (.ref (He.ga K "_law_start")) = true
  gf__law_digit : mg "_law_digit" = some (.ref (He.ga K "_law_digit"))
  kf__law_digit : PySem.W.keepIn K (.ref (He.ga K "_law_digit")) = true
  gf__law_message : mg "_law_message" = some (.ref (He.ga K "_law_message"))
  kf__law_message : PySem.W.keepIn K (.ref (He.ga K "_law_message")) = true
  exc_InvalidAmount : ExcF K "InvalidAmount"
  gc_InvalidAmount : mg "InvalidAmount" = some (.ref (He.ga K "InvalidAmount"))
  gf_frame_message : mg "frame_message" = some (.ref (He.ga K "frame_message"))
  kf_frame_message : PySem.W.keepIn K (.ref (He.ga K "frame_message")) = true
  cls_Messages : Cls K (He.ga K "Messages")
  na_Messages__waiting : NoAttr K (He.ga K "Messages") "_waiting"
  mk_Messages : Mk K (He.ga K "Messages") (He.ma K (He.ga K "Messages") "__init__")
  gc_Messages : mg "Messages" = some (.ref (He.ga K "Messages"))
  gf__law_whole : mg "_law_whole" = some (.ref (He.ga K "_law_whole"))
  kf__law_whole : PySem.W.keepIn K (.ref (He.ga K "_law_whole")) = true
  mt_Messages__size_at : Meth K (He.ga K "Messages") "_size_at" (He.ma K (He.ga K "Messages") "_size_at")
  mt_Messages_feed : Meth K (He.ga K "Messages") "feed" (He.ma K (He.ga K "Messages") "feed")
  gf__law_is_integer : mg "_law_is_integer" = some (.ref (He.ga K "_law_is_integer"))
  kf__law_is_integer : PySem.W.keepIn K (.ref (He.ga K "_law_is_integer")) = true
  gf__law_same : mg "_law_same" = some (.ref (He.ga K "_law_same"))
  kf__law_same : PySem.W.keepIn K (.ref (He.ga K "_law_same")) = true
  pr_Messages_pending : PropOf K (He.ga K "Messages") "pending" (ppA K (He.ga K "Messages") "pending") (pgA K (He.ga K "Messages") "pending")
  exm_InvalidAmount_InvalidAmount_true : PySem.W.exmOne K (.ref (He.ga K "InvalidAmount")) (.ref (He.ga K "InvalidAmount")) = some true
  kie_InvalidAmount_o_ThroughlineError_true : PySem.W.kitOne K (.ref (He.ga K "InvalidAmount")) (.ref (He.ga K "ThroughlineError")) = some true
  gc_ThroughlineError : mg "ThroughlineError" = some (.ref (He.ga K "ThroughlineError"))
  exf_InvalidAmount : ExcC K (He.ga K "InvalidAmount")
  kie_InvalidAmount_o_InvalidFrame_false : PySem.W.kitOne K (.ref (He.ga K "InvalidAmount")) (.ref (He.ga K "InvalidFrame")) = some false
  gc_InvalidFrame : mg "InvalidFrame" = some (.ref (He.ga K "InvalidFrame"))
  gf__law_too_long : mg "_law_too_long" = some (.ref (He.ga K "_law_too_long"))
  kf__law_too_long : PySem.W.keepIn K (.ref (He.ga K "_law_too_long")) = true
@[irreducible] def m__law_start (cell_here : Int) (k : Int) : R Empty (List Int) :=
  let prime_1 : Int := (618970019642690137449562111 : Int)
  (((if (decide ((-(1000000000000000000 : Int)) < cell_here)) = true then (R.ok (decide (cell_here < (1000000000000000000 : Int)))) else R.ok false)).bind fun t2 =>
  if t2 = true then
  (R.of (grd (0 < prime_1) (some (((cell_here * (2654435761 : Int)) + ((k + (1 : Int)) * (6700417 : Int))) % prime_1)))).bind fun (mixed_3 : Int) =>
  ((((((R.of (grd ((mixed_3 : Int).natAbs.log2 + (mixed_3 : Int).natAbs.log2 < 1000000) (some (mixed_3 * mixed_3)))).bind fun v4 => R.ok (v4 + ((7 : Int) * mixed_3))).bind fun v5 => R.ok (v5 + k)).bind fun v6 => R.ok v6).bind fun v7 => R.of (grd (0 < prime_1) (some (v7 % prime_1)))).bind fun v9 => R.ok ([v9] : List Int))
  else
  R.ok ([cell_here] : List Int))
@[irreducible] def m__law_cell (script : (List Int)) (k : Int) : R Empty Int :=
  (if (decide (k < (script.length : Int))) = true then
  (R.of (atI script k))
  else
  R.ok (0 : Int))
@[irreducible] def m__law_digit (state_ : (List Int)) (many : Int) : R Empty (Int × (List Int)) :=
  (((R.of (atI state_ (0 : Int))).bind fun v25 => R.ok v25).bind fun v26 => R.of (grd (0 < many) (some (v26 % many)))).bind fun (digit_here_27 : Int) =>
  (((R.of (atI state_ (0 : Int))).bind fun v28 => R.of (grd (0 < many ∧ (many : Int).natAbs.log2 < 9000) (some (v28 / many)))).bind fun v31 => (R.of (setI state_ (0 : Int) v31)).bind fun (l29 : List Int) =>
  R.ok (digit_here_27, l29))
@[irreducible] def m__law_message (state_ : (List Int)) (many : Int) : R Empty ((List Int) × (List Int)) :=
  (m__law_digit state_ many).bind fun (size_56 : (Int × (List Int))) =>
  (m__law_digit size_56.2 (256 : Int)).bind fun (base__59 : (Int × (List Int))) =>
  ((R.of (range1 size_56.1)).bind fun c60 => gR (c60.length ≤ 16777216) (mapR c60 (fun x61 => R.ok (((base__59.1 + ((3 : Int) * x61)) + (x61 / (7 : Int))) % (256 : Int))))).bind fun r63 => R.ok (r63, base__59.2)
@[irreducible] def m_frame_message (octets : (List Int)) : R XC (List Int) :=
  (if (decide ((65535 : Int) < (octets.length : Int))) = true then
  R.er XC.InvalidAmount
  else
  (R.of (grd (([((octets.length : Int) / (256 : Int)), ((octets.length : Int) % (256 : Int))] : List Int).length + octets.length ≤ 16777216) (some (([((octets.length : Int) / (256 : Int)), ((octets.length : Int) % (256 : Int))] : List Int) ++ octets)))))
@[irreducible] def m_Messages_init  : R Empty R_Messages :=
  let waiting_112 : (List Int) := ([] : List Int)
  R.ok ({ waiting := waiting_112 } : R_Messages)
@[irreducible] def m__law_whole (messages : (List (List Int))) (count : Int) : R Empty (List (List Int)) :=
  let told_144 : (List (List Int)) := ([] : List (List Int))
  let at__145 : Int := (0 : Int)
  (forN messages (at__145, told_144) fun x148 (s147 : Int × (List (List Int))) =>
  let at__150 : Int := ((s147.1 + (2 : Int)) + (x148.length : Int))
  (if (decide (at__150 ≤ count)) = true then
  (gR (s147.2.length < 16777216) (R.ok ((), (s147.2 ++ [x148])))).bind fun y154 =>
  R.ok (at__150, y154.2)
  else
  R.ok (at__150, s147.2))).bind fun (s149 : Int × (List (List Int))) =>
  R.ok s149.2
@[irreducible] def m_Messagessize_at (self : R_Messages) (at_ : Int) : R Empty (Option Int) :=
  (if (decide ((self.waiting.length : Int) < (at_ + (2 : Int)))) = true then
  R.ok (none : (Option Int))
  else
  (((R.of (atI self.waiting at_)).bind fun v172 => R.ok (v172 * (256 : Int))).bind fun v173 => (R.of (atI self.waiting (at_ + (1 : Int)))).bind fun v174 => R.ok (v173 + v174)).bind fun (size_175 : Int) =>
  (if (decide ((self.waiting.length : Int) < ((at_ + (2 : Int)) + size_175))) = true then
  R.ok (none : (Option Int))
  else
  R.ok (some size_175)))
@[irreducible] def m_Messages_feed (self : R_Messages) (octets : (List Int)) : R Empty ((List (List Int)) × R_Messages) :=
  (gR (self.waiting.length + octets.length ≤ 16777216) (R.ok ((), ({ self with waiting := (self.waiting ++ octets) } : R_Messages)))).bind fun y167 =>
  (R.ok ([] : List (List Int))).bind fun (messages_168 : (List (List Int))) =>
  let at__169 : Int := (0 : Int)
  (m_Messagessize_at y167.2 at__169).bind fun (size_181 : (Option Int)) =>
  (whileN 1000 (messages_168, at__169, size_181) (fun (s182 : (List (List Int)) × Int × (Option Int)) => (R.ok (s182.2.2.isSome, s182))) (fun x => x.1) fun (w184 : (Bool × (List (List Int)) × Int × (Option Int))) =>
  (((((R.of w184.2.2.2).bind fun v187 => R.ok ((w184.2.2.1 + (2 : Int)) + v187)).bind fun a => R.ok (some a)).bind fun v188 => R.ok (cutL y167.2.waiting (some (w184.2.2.1 + (2 : Int))) v188)).bind fun y189 => gR (w184.2.1.length < 16777216) (R.ok ((), (w184.2.1 ++ [y189])))).bind fun y190 =>
  (((R.of w184.2.2.2).bind fun v191 => R.ok ((2 : Int) + v191)).bind fun v196 => R.ok (w184.2.2.1 + v196)).bind fun (at__192 : Int) =>
  (m_Messagessize_at y167.2 at__192).bind fun (size_195 : (Option Int)) =>
  R.ok (y190.2, at__192, size_195)).bind fun (s185 : (Bool × (List (List Int)) × Int × (Option Int))) =>
  let waiting_197 : (List Int) := (cutL y167.2.waiting (some s185.2.2.1) none)
  R.ok (s185.2.1, ({ y167.2 with waiting := waiting_197 } : R_Messages))
@[irreducible] def m__law_is_integer (told : Int) : R Empty Bool :=
  ((if true = true then R.ok (!false) else R.ok false))
@[irreducible] def m__law_same (told : (List (List Int))) (due : (List (List Int))) : R Empty (Bool × (List (List Int))) :=
  (((if (!true) = true then R.ok true else R.ok (!decide ((told.length : Int) = (due.length : Int))))).bind fun t215 =>
  if t215 = true then
  (R.no)
  else
  R.ok ()).bind fun (s216 : Unit) =>
  (R.of (range1 (due.length : Int))).bind fun c217 =>
  thenS (forL c217 told fun x219 (s218 : (List (List Int))) =>
  (((((R.of (atI s218 x219)).bind fun v221 => R.ok true).bind fun v222 => R.ok (!v222)).bind fun v225 => (if v225 = true then R.ok true else ((R.of (atI s218 x219)).bind fun v223 => (R.of (atI due x219)).bind fun v224 => R.ok (!decide (v223 = v224))))).bind fun t226 =>
  if t226 = true then
  (R.no)
  else
  R.ok ()).bind fun (s227 : Unit) =>
  ((R.of (pickI s218 x219)).bind fun q0_ => thenS (forL q0_.2 () fun x230 (s229 : Unit) =>
  (((m__law_is_integer x230).bind fun v235 => R.ok (!v235)).bind fun t236 =>
  if t236 = true then
  (R.no)
  else
  R.ok (.nx ()))) (fun (s231 : Unit) =>
  ((R.of (pickI s218 x219)).bind fun q1_ => (gR (q1_.2.length < 16777216) (R.ok ((), (s218.set q1_.1 (q1_.2 ++ [(300 : Int)])))))).bind fun y239 =>
  R.ok (.nx y239.2)) Out.ret)) (fun (s220 : (List (List Int))) =>
  R.ok (true, s220)) id
@[irreducible] def m_Messages_pending (self : R_Messages) : R Empty Int :=
  R.ok (self.waiting.length : Int)
@[irreducible] def m__law_too_long (state_ : (List Int)) : R Empty (Bool × (List Int)) :=
  thenO (R.tryE (((((R.mapE Empty.elim (m__law_digit state_ (3 : Int))).bind fun y305 => (R.of (some ((65536 : Int) + y305.1))).bind fun y307 => R.ok (y307, y305.2)).bind fun y308 => (R.of (grd (-(2 ^ 63) ≤ y308.1 ∧ y308.1 < 2 ^ 63 ∧ ([(1 : Int)] : List Int).length * (y308.1).toNat ≤ 16777216) (some (List.replicate (y308.1).toNat ([(1 : Int)] : List Int)).flatten))).bind fun y310 => R.ok (y310, y308.2)).bind fun a311 => (R.mapE (fun e => (e, a311.2)) (m_frame_message a311.1)).bind fun r312 => R.ok (r312, a311.2)).bind fun y313 =>
  R.ok (.nx y313.2)) (fun (e_ : (XC × (List Int))) => XC.on ((((if true = true then R.ok (!false) else R.ok false)).bind fun r314 => R.ok (r314, e_.2)).bind fun r => R.ok (.ret r)) e_.1)) (fun (s301 : (List Int)) =>
  R.ok (false, s301)) (Empty.elim) (Empty.elim) id
@[irreducible] def m_law (script : (List Int)) : R Empty Bool :=
  ((m__law_cell script (0 : Int)).bind fun a19 => m__law_start a19 (0 : Int)).bind fun (state__22 : (List Int)) =>
  ((((m__law_digit state__22 (4 : Int)).bind fun y35 => (R.of (some (decide (y35.1 = (0 : Int))))).bind fun y37 => R.ok (y37, y35.2)).bind fun y38 => (R.of (some (if y38.1 then 1 else 0 : Int))).bind fun y39 => R.ok (y39, y38.2)).bind fun y40 => (R.of (atI ([(10 : Int), (701 : Int)] : List Int) y40.1)).bind fun y42 => R.ok (y42, y40.2)).bind fun (many_43 : (Int × (List Int))) =>
  let messages_44 : (List (List Int)) := ([] : List (List Int))
  let octets_45 : (List Int) := ([] : List Int)
  ((m__law_digit many_43.2 (13 : Int)).bind fun y49 => R.of ((range1 y49.1).map fun l => (y49, l))).bind fun c50 =>
  thenS (forL c50.2 (messages_44, octets_45) fun x52 (s51 : (List (List Int)) × (List Int)) =>
  (((m__law_cell script ((2 : Int) + x52)).bind fun a67 => m__law_start a67 x52).bind fun a70 => (m__law_message a70 many_43.1).bind fun r73 => R.ok r73.1).bind fun (message_here_74 : (List Int)) =>
  let given_75 : (List Int) := message_here_74
  (R.dropE (m_frame_message given_75)).bind fun (told_82 : (List Int)) =>
  (gR (given_75.length < 16777216) (R.ok ((), (given_75 ++ [(1 : Int)])))).bind fun y85 =>
  (((if (!true) = true then R.ok true else ((R.of (grd (([((message_here_74.length : Int) / (256 : Int)), ((message_here_74.length : Int) % (256 : Int))] : List Int).length + message_here_74.length ≤ 16777216) (some (([((message_here_74.length : Int) / (256 : Int)), ((message_here_74.length : Int) % (256 : Int))] : List Int) ++ message_here_74)))).bind fun v88 => R.ok (!decide (told_82 = v88))))).bind fun t89 =>
  if t89 = true then
  (R.ok false).bind fun r => R.ok (.ret r)
  else
  (gR (s51.1.length < 16777216) (R.ok ((), (s51.1 ++ [message_here_74])))).bind fun y93 =>
  (R.of (grd (s51.2.length + told_82.length ≤ 16777216) (some (s51.2 ++ told_82)))).bind fun (octets_94 : (List Int)) =>
  R.ok (.nx (y93.2, octets_94)))) (fun (s53 : (List (List Int)) × (List Int)) =>
  let end__95 : Int := (s53.2.length : Int)
  (((m__law_digit c50.1.2 (3 : Int)).bind fun y99 => (R.of (some (decide (y99.1 = (0 : Int))))).bind fun y101 => R.ok (y101, y99.2)).bind fun t102 =>
  if t102.1 = true then
  (m__law_digit t102.2 ((s53.2.length : Int) + (1 : Int))).bind fun (end__111 : (Int × (List Int))) =>
  R.ok (end__111.1, end__111.2)
  else
  R.ok (end__95, t102.2)).bind fun (s107 : Int × (List Int)) =>
  (m_Messages_init).bind fun (reader_114 : R_Messages) =>
  ((m__law_cell script (1 : Int)).bind fun a118 => m__law_start a118 (1 : Int)).bind fun (state__121 : (List Int)) =>
  let at__122 : Int := (0 : Int)
  (R.of (range1 (21 : Int))).bind fun c123 =>
  thenS (forL c123 (state__121, at__122, reader_114) fun x125 (s124 : (List Int) × Int × R_Messages) =>
  (((m__law_digit s124.1 (3 : Int)).bind fun y133 => (R.of (atI ([(3 : Int), (9 : Int), ((s107.1 - s124.2.1) + (1 : Int))] : List Int) y133.1)).bind fun y135 => R.ok (y135, y133.2)).bind fun a136 => m__law_digit a136.2 a136.1).bind fun (size_138 : (Int × (List Int))) =>
  (if (decide (x125 = (20 : Int))) = true then
  let size_142 : Int := (s107.1 - s124.2.1)
  R.ok size_142
  else
  R.ok size_138.1).bind fun (s141 : Int) =>
  let part_143 : (List Int) := (cutL s53.2 (some s124.2.1) (some (if s107.1 < (s124.2.1 + s141) then s107.1 else (s124.2.1 + s141))))
  (m__law_whole s53.1 s124.2.1).bind fun (before_159 : (List (List Int))) =>
  let at__160 : Int := (s124.2.1 + (part_143.length : Int))
  ((m__law_whole s53.1 at__160).bind fun v164 => R.ok (cutL v164 (some (before_159.length : Int)) none)).bind fun (due_165 : (List (List Int))) =>
  (m_Messages_feed s124.2.2 part_143).bind fun (told_202 : ((List (List Int)) × R_Messages)) =>
  (gR (part_143.length < 16777216) (R.ok ((), (part_143 ++ [(5 : Int)])))).bind fun y205 =>
  ((((m__law_whole s53.1 at__160).bind fun c209 => gR (c209.length ≤ 16777216) (mapR c209 (fun x210 => R.ok ((x210.length : Int) + (2 : Int))))).bind fun v212 => R.ok (List.sum v212)).bind fun v213 => R.ok (at__160 - v213)).bind fun (left_214 : Int) =>
  ((((m__law_same told_202.1 due_165).bind fun y269 => R.ok (!y269.1, y269.2)).bind fun y270 => if y270.1 = true then R.ok (true, y270.2) else ((((m_Messages_pending told_202.2).bind fun a273 => m__law_is_integer a273).bind fun v275 => R.ok (!v275)).bind fun y276 => if y276 = true then R.ok (true, y270.2) else (((m_Messages_pending told_202.2).bind fun v279 => R.ok (!decide (v279 = left_214))).bind fun y280 => R.ok (y280, y270.2)))).bind fun t281 =>
  if t281.1 = true then
  R.ok (.ret false)
  else
  R.ok (.nx (size_138.2, at__160, told_202.2)))) (fun (s126 : (List Int) × Int × R_Messages) =>
  (((m__law_digit s126.1 (8 : Int)).bind fun y329 => (R.of (some (decide ((0 : Int) < y329.1)))).bind fun y331 => R.ok (y331, y329.2)).bind fun y332 => if y332.1 = true then R.ok (true, y332.2) else ((m__law_too_long y332.2).bind fun y335 => R.ok (y335.1, y335.2))).bind fun r336 => R.ok r336.1) id) id
/-! ### _law_start -/
abbrev N__law_start : List Str := ["_law_cell_here", "_law_k", "_law_prime", "_law_mixed"]
theorem sc__law_start : FnScope N__law_start ["_law_cell_here", "_law_k"] (defScope s__law_start) := ⟨rfl, rfl, rfl, by decide +kernel, rfl, by decide +kernel, by decide +kernel⟩
abbrev sp__law_start (K : PySem.W.Frag) (mg : Str → Option Value) : Sp := spX mg (fun a : Int × Int => [val tInt a.1, val tInt a.2]) (fun a => m__law_start a.1 a.2) (fun a r => own tInt r) (fun a r => []) (fun e : Empty => e.elim) (fun _ _ => [])
set_option maxHeartbeats 4000000 in
theorem ok__law_start {P : Program} {w : World} {K : PySem.W.Frag} {mg : Str → Option Value} {base : Heap} {f : Addr} {fd : FuncData} {dvs : List V} {kws : List (Str × V)} (T : Txt K mg) (F : FunD K "_law_start" "_law_start" (defArgs s__law_start) (defBody s__law_start) (defScope s__law_start) dvs kws f fd)  : FnOk P w K mg base (L2.CX P w) 1 f fd ["_law_cell_here", "_law_k"] (sp__law_start K mg) := by
  refine F.ok sc__law_start (fun vs H Q E h => spX_len h fun _ => rfl) (fun cdv A outer s H vs Q Wx hr h => ?_)
  refine ⟨_, (pss_cons (ps_set (i := 2) sc__law_start.nd rfl (.inl rfl) pe_int)
       (pss_cons (ps_if (pt_chain op_lt op_lt (pe_un un_neg pe_int) (pv 0) pe_int)
       (pss_cons (ps_set (i := 3) sc__law_start.nd rfl (.inl rfl) (pe_op op_mod (pe_callTy call_int1 (by rfl) T.b_int boot_int (pa_cons (pe_op op_add (pe_op op_mul (pv 0) pe_int) (pe_op op_mul (pe_op op_add (pv 1) pe_int) pe_int)) pa_nil)) (pv 2)))
       (pss_one (ps_ret (pe_lst (pa_cons (pe_op op_mod (pe_callTy call_int1 (by rfl) T.b_int boot_int (pa_cons (pe_op op_add (pe_op op_add (pe_op op_mulW (pv 3) (pv 3)) (pe_op op_mul pe_int (pv 3))) (pv 1)) pa_nil)) (pv 2)) pa_nil)))))
       pss_nil)
       (pss_one (ps_ret (pe_lst (pa_cons (pv 0) pa_nil)))))), ?_⟩
  refine run_X (N := N__law_start) h (fun _ => Nat.le_of_ble_eq_true rfl) rfl (by intros _ _ _ _ h; simp at h) (by intros _ _ _ _ h; simp at h) ?_
  rintro ⟨cell_here, k⟩ E0
  show BK _ _ [some (val tInt cell_here), some (val tInt k), none, none] _ (m__law_start cell_here k) _
  exact bk_eq
    (bk_at [some (val tInt cell_here), some (val tInt k), none, none] (bk_asg (α := Int) (S := fun prime_1 => val tInt prime_1) (e1 := fun prime_1 => [some (val tInt cell_here), some (val tInt k), none, none]) ex_int fun prime_1 => (bk_at [some (val tInt cell_here), some (val tInt k), some (val tInt prime_1), none] (bk_ifr (emb := id) emb_R (tp_e (ex_chain (ex_1q (a := (1000000000000000000 : Int)) (Sa := fun x => val tInt x) (c := (-(1000000000000000000 : Int))) (S := fun x => val tInt x) (r := rU fun i => V.int (-i)) (fun _ _ _ h => h) ex_int o1_neg) (ex_var (i := 0) (T := tInt) rfl) ex_int (fun _ _ => o2_cmp) (fun _ _ => o2_cmp))) (fun t2 => (bk_at [some (val tInt cell_here), some (val tInt k), some (val tInt prime_1), none] (bk_asg (α := Int) (S := fun mixed_3 => val tInt mixed_3) (e1 := fun mixed_3 => [some (val tInt cell_here), some (val tInt k), some (val tInt prime_1), none]) (ex_opp (ex_1q (a := ((cell_here * (2654435761 : Int)) + ((k + (1 : Int)) * (6700417 : Int)))) (Sa := fun x => val tInt x) (c := ((cell_here * (2654435761 : Int)) + ((k + (1 : Int)) * (6700417 : Int)))) (S := fun x => val tInt x) ht_cb1 (ex_opq (ex_opq (ex_var (i := 0) (T := tInt) rfl) ex_int (o2_int (C := CMul) (.inr ⟨by decide, by decide⟩))) (ex_opq (ex_opq (ex_var (i := 1) (T := tInt) rfl) ex_int o2_int0) ex_int (o2_int (C := CMul) (.inr ⟨by decide, by decide⟩))) o2_int0) o1_int) (ex_var (i := 2) (T := tInt) rfl) o2_mod) fun mixed_3 => (bk_at [some (val tInt cell_here), some (val tInt k), some (val tInt prime_1), some (val tInt mixed_3)] (br_ret (ex_lst (T := tInt) (S := id) (e' := fun _ => [some (val tInt cell_here), some (val tInt k), some (val tInt prime_1), some (val tInt mixed_3)]) (ax_cons (ex_opr (ex_1m ht_cb1 (ex_opr (ex_opr (ex_opp (ex_var (i := 3) (T := tInt) rfl) (ex_var (i := 3) (T := tInt) rfl) o2_mulW) (ex_opq ex_int (ex_var (i := 3) (T := tInt) rfl) (o2_int (C := CMul) (.inl ⟨by decide, by decide⟩))) fun _ => o2_int0) (ex_var (i := 1) (T := tInt) rfl) fun _ => o2_int0) fun _ => o1_int) (ex_var (i := 2) (T := tInt) rfl) fun _ => o2_mod) fun a8 => (ax_nil ⟨([a8] : List Int), rfl, rfl, Nat.le_of_ble_eq_true rfl, rfl⟩))) (fun _ => fgt_nil)))))) (fun t2 => (bk_at [some (val tInt cell_here), some (val tInt k), some (val tInt prime_1), none] (br_ret (ex_lst (T := tInt) (S := id) (e' := fun _ => [some (val tInt cell_here), some (val tInt k), some (val tInt prime_1), none]) (ax_consq (ex_var (i := 0) (T := tInt) rfl) (ax_nil ⟨([cell_here] : List Int), rfl, rfl, Nat.le_of_ble_eq_true rfl, rfl⟩))) (fun _ => fgt_nil))))))))
    (by unfold m__law_start; first | (simp -implicitDefEqProofs only [R.bind_ok, R.of_some, R.mapE_ok, id_eq, R.bind_ok', R.mapE_E]; done) | (simp -implicitDefEqProofs only [R.bind_ok, R.of_some, R.mapE_ok, id_eq, R.bind_ok', R.bind_assoc, R.mapE_E]; done) | (simp -implicitDefEqProofs only [R.bind_ok, R.of_some, R.mapE_ok, id_eq, R.bind_ok', R.bind_assoc, R.mapE_E, R.gR_bind]; done) | (simp -implicitDefEqProofs only [R.bind_ok, R.of_some, R.mapE_ok, id_eq, R.bind_ok', R.bind_assoc, R.mapE_E, R.gR_bind]; rfl) | (simp -implicitDefEqProofs only [R.bind_ok, R.of_some, R.mapE_ok, id_eq, R.bind_ok', R.bind_assoc, R.mapE_E]; rfl))
/-! ### _law_cell -/
abbrev N__law_cell : List Str := ["_law_script", "_law_k"]
theorem sc__law_cell : FnScope N__law_cell ["_law_script", "_law_k"] (defScope s__law_cell) := ⟨rfl, rfl, rfl, by decide +kernel, rfl, by decide +kernel, by decide +kernel⟩
abbrev sp__law_cell (K : PySem.W.Frag) (mg : Str → Option Value) : Sp := spX mg (fun a : (List Int) × Int => [val (tS K tInt) a.1, val tInt a.2]) (fun a => m__law_cell a.1 a.2) (fun a r => val tInt r) (fun a r => []) (fun e : Empty => e.elim) (fun _ _ => [])
set_option maxHeartbeats 4000000 in
theorem ok__law_cell {P : Program} {w : World} {K : PySem.W.Frag} {mg : Str → Option Value} {base : Heap} {f : Addr} {fd : FuncData} {dvs : List V} {kws : List (Str × V)} (T : Txt K mg) (F : FunD K "_law_cell" "_law_cell" (defArgs s__law_cell) (defBody s__law_cell) (defScope s__law_cell) dvs kws f fd)  : FnOk P w K mg base (L2.CX P w) 1 f fd ["_law_script", "_law_k"] (sp__law_cell K mg) := by
  refine F.ok sc__law_cell (fun vs H Q E h => spX_len h fun _ => rfl) (fun cdv A outer s H vs Q Wx hr h => ?_)
  refine ⟨_, (pss_cons (ps_if (pt_cmpR op_lt (pv 1) (pe_callB (call_len_seqK (K := K) rfl) (by rfl) T.b_len boot_len (pa_cons (pv 0) pa_nil)) (nomark _))
       (pss_one (ps_ret (pe_ix (ix_listK (K := K) rfl) (pv 0) (pv 1) (fun _ _ => rfl))))
       pss_nil)
       (pss_one (ps_ret pe_int))), ?_⟩
  refine run_X (N := N__law_cell) h (fun _ => Nat.le_of_ble_eq_true rfl) rfl (by intros _ _ _ _ h; simp at h) (by intros _ _ _ _ h; simp at h) ?_
  rintro ⟨script, k⟩ E0
  show BK _ _ [some (val (tS K tInt) script), some (val tInt k)] _ (m__law_cell script k) _
  exact bk_eq
    (bk_at [some (val (tS K tInt) script), some (val tInt k)] (bk_ifr (emb := id) emb_R (tp_e (ex_opq (ex_var (i := 1) (T := tInt) rfl) (ex_1q (a := script) (Sa := fun x => val (tS K tInt) x) (c := (script.length : Int)) (S := fun x => val tInt x) ht_cb1 (ex_var (i := 0) (T := (tS K tInt)) rfl) o1_lenS) o2_cmp)) (fun t13 => (bk_at [some (val (tS K tInt) script), some (val tInt k)] (br_ret (ex_opp (ex_var (i := 0) (T := (tS K tInt)) rfl) (ex_var (i := 1) (T := tInt) rfl) o2_ixS) (fun _ => fgt_nil)))) (fun t13 => (bk_at [some (val (tS K tInt) script), some (val tInt k)] (br_ret ex_int (fun _ => fgt_nil))))))
    (by unfold m__law_cell; first | (simp -implicitDefEqProofs only [R.bind_ok, R.of_some, R.mapE_ok, id_eq, R.bind_ok', R.mapE_E]; done) | (simp -implicitDefEqProofs only [R.bind_ok, R.of_some, R.mapE_ok, id_eq, R.bind_ok', R.bind_assoc, R.mapE_E]; done) | (simp -implicitDefEqProofs only [R.bind_ok, R.of_some, R.mapE_ok, id_eq, R.bind_ok', R.bind_assoc, R.mapE_E, R.gR_bind]; done) | (simp -implicitDefEqProofs only [R.bind_ok, R.of_some, R.mapE_ok, id_eq, R.bind_ok', R.bind_assoc, R.mapE_E, R.gR_bind]; rfl) | (simp -implicitDefEqProofs only [R.bind_ok, R.of_some, R.mapE_ok, id_eq, R.bind_ok', R.bind_assoc, R.mapE_E]; rfl))
/-! ### _law_digit -/
abbrev N__law_digit : List Str := ["_law_state", "_law_many", "_law_digit_here"]
theorem sc__law_digit : FnScope N__law_digit ["_law_state", "_law_many"] (defScope s__law_digit) := ⟨rfl, rfl, rfl, by decide +kernel, rfl, by decide +kernel, by decide +kernel⟩
abbrev sp__law_digit (K : PySem.W.Frag) (mg : Str → Option Value) : Sp := spX mg (fun a : (Addr × (List Int)) × Int => [muL (pinV a.1.1) tInt a.1.2, val tInt a.2]) (fun a => m__law_digit a.1.2 a.2) (fun a r => val tInt r.1) (fun a r => [some (muL (pinV a.1.1) tInt r.2)]) (fun e : Empty => e.elim) (fun _ _ => [])
set_option maxHeartbeats 4000000 in
theorem ok__law_digit {P : Program} {w : World} {K : PySem.W.Frag} {mg : Str → Option Value} {base : Heap} {f : Addr} {fd : FuncData} {dvs : List V} {kws : List (Str × V)} (T : Txt K mg) (F : FunD K "_law_digit" "_law_digit" (defArgs s__law_digit) (defBody s__law_digit) (defScope s__law_digit) dvs kws f fd)  : FnOk P w K mg base (L2.CX P w) 1 f fd ["_law_state", "_law_many"] (sp__law_digit K mg) := by
  refine F.ok sc__law_digit (fun vs H Q E h => spX_len h fun _ => rfl) (fun cdv A outer s H vs Q Wx hr h => ?_)
  refine ⟨_, (pss_cons (ps_set (i := 2) sc__law_digit.nd rfl (.inl rfl) (pe_op op_mod (pe_callTy call_int1 (by rfl) T.b_int boot_int (pa_cons (pe_ix (ix_listK (K := K) rfl) (pv 0) pe_int (fun _ _ => rfl)) pa_nil)) (pv 1)))
       (pss_cons (ps_asg (pe_op op_fdivW (pe_ix (ix_listK (K := K) rfl) (pv 0) pe_int (fun _ _ => rfl)) (pv 1)) (pg_sub (pv 0) pe_int set_list))
       (pss_one (ps_ret (pv 2))))), ?_⟩
  refine run_X (N := N__law_digit) h (fun _ => Nat.le_of_ble_eq_true rfl) rfl (by
    intro a r k S h
    match k, h with
    | 0, h => cases h; exact ⟨.ref a.1.1, _, pin_mu, rfl, pin_mu⟩
    | (k + 1), h => simp at h) (by intros _ _ _ _ h; simp at h) ?_
  rintro ⟨⟨p_state_, state_⟩, many⟩ E0
  show BK _ _ [some (muL (pinV p_state_) tInt state_), some (val tInt many), none] _ (m__law_digit state_ many) _
  exact bk_eq
    (bk_at [some (muL (pinV p_state_) tInt state_), some (val tInt many), none] (bk_asg (α := Int) (S := fun digit_here_27 => val tInt digit_here_27) (e1 := fun digit_here_27 => [some (muL (pinV p_state_) tInt state_), some (val tInt many), none]) (ex_opr (ex_1m ht_cb1 (ex_brF flat_int (brf_s fz_mu (brf_v (brf_n brf_0))) fun _ _ => (ex_opp (ex_var (i := 0) (T := (tL tInt)) rfl) ex_int o2_ixL)) fun _ => o1_int) (ex_var (i := 1) (T := tInt) rfl) fun _ => o2_mod) fun digit_here_27 => (bk_at [some (muL (pinV p_state_) tInt state_), some (val tInt many), some (val tInt digit_here_27)] (bk_setI (i := 0) (ex_ad rfl pin_mu) rfl (lens_id pin_mu) (ex_opr (ex_brF flat_int (brf_s fz_mu (brf_v (brf_v brf_0))) fun _ _ => (ex_opp (ex_var (i := 0) (T := (tL tInt)) rfl) ex_int o2_ixL)) (ex_var (i := 1) (T := tInt) rfl) fun _ => o2_divW) ex_int fun l29 => (bk_from (fgt_c (fgt_c (fgt_c fgt_0))) (bk_at [some (muL (pinV p_state_) tInt l29), some (val tInt many), some (val tInt digit_here_27)] (br_ret (ex_ev (δ := (Int × (List Int))) (S := fun x => val tInt x.1) (e' := fun x => [some (muL (pinV p_state_) tInt x.2), some (val tInt many), some (val tInt digit_here_27)]) (fun r30 => (r30, l29)) (ex_var (i := 2) (T := tInt) rfl)) (fun _ => (fgt_c fgt_nil)))))))))
    (by unfold m__law_digit; first | (simp -implicitDefEqProofs only [R.bind_ok, R.of_some, R.mapE_ok, id_eq, R.bind_ok', R.mapE_E]; done) | (simp -implicitDefEqProofs only [R.bind_ok, R.of_some, R.mapE_ok, id_eq, R.bind_ok', R.bind_assoc, R.mapE_E]; done) | (simp -implicitDefEqProofs only [R.bind_ok, R.of_some, R.mapE_ok, id_eq, R.bind_ok', R.bind_assoc, R.mapE_E, R.gR_bind]; done) | (simp -implicitDefEqProofs only [R.bind_ok, R.of_some, R.mapE_ok, id_eq, R.bind_ok', R.bind_assoc, R.mapE_E, R.gR_bind]; rfl) | (simp -implicitDefEqProofs only [R.bind_ok, R.of_some, R.mapE_ok, id_eq, R.bind_ok', R.bind_assoc, R.mapE_E]; rfl))
/-! ### _law_message -/
abbrev N__law_message : List Str := ["_law_state", "_law_many", "_law_size", "_law_base", "_law_k"]
theorem sc__law_message : FnScope N__law_message ["_law_state", "_law_many"] (defScope s__law_message) := ⟨rfl, rfl, rfl, by decide +kernel, rfl, by decide +kernel, by decide +kernel⟩
abbrev sp__law_message (K : PySem.W.Frag) (mg : Str → Option Value) : Sp := spX mg (fun a : (Addr × (List Int)) × Int => [muL (pinV a.1.1) tInt a.1.2, val tInt a.2]) (fun a => m__law_message a.1.2 a.2) (fun a r => own tInt r.1) (fun a r => [some (muL (pinV a.1.1) tInt r.2)]) (fun e : Empty => e.elim) (fun _ _ => [])
set_option maxHeartbeats 4000000 in
theorem ok__law_message {P : Program} {w : World} {K : PySem.W.Frag} {mg : Str → Option Value} {base : Heap} {f : Addr} {fd : FuncData} {dvs : List V} {kws : List (Str × V)} (T : Txt K mg) (F : FunD K "_law_message" "_law_message" (defArgs s__law_message) (defBody s__law_message) (defScope s__law_message) dvs kws f fd) (C__law_digit_k0 : CalB P w K mg base 1 (He.ga K "_law_digit") ["_law_state", "_law_many"] (sp__law_digit K mg) []) : FnOk P w K mg base (L2.CX P w) 2 f fd ["_law_state", "_law_many"] (sp__law_message K mg) := by
  obtain ⟨fd__law_digit_k0, ds__law_digit_k0, v__law_digit_k0, b__law_digit_k0, G__law_digit_k0⟩ := C__law_digit_k0
  refine F.ok sc__law_message (fun vs H Q E h => spX_len h fun _ => rfl) (fun cdv A outer s H vs Q Wx hr h => ?_)
  refine ⟨_, (pss_cons (ps_set (i := 2) sc__law_message.nd rfl (.inl rfl) (pe_callSD G__law_digit_k0 (hr.mono (by decide)) (by rfl) T.gf__law_digit T.kf__law_digit b__law_digit_k0 v__law_digit_k0 (passAt (W := fun c d _ H => Wx c d H) (takes_of rfl rfl rfl rfl)) (pa_cons (pv 0) (pa_cons (pv 1) pa_nil))))
       (pss_cons (ps_set (i := 3) sc__law_message.nd rfl (.inr rfl) (pe_callSD G__law_digit_k0 (hr.mono (by decide)) (by rfl) T.gf__law_digit T.kf__law_digit b__law_digit_k0 v__law_digit_k0 (passAt (W := fun c d _ H => Wx c d H) (takes_of rfl rfl rfl rfl)) (pa_cons (pv 0) (pa_cons pe_int pa_nil))))
       (pss_one (ps_ret (pe_lc (own := [("_law_k", 4)]) rfl sc__law_message.nd (pi_range1 (by rfl) T.b_range (pa_cons (pv 2) pa_nil)) (blkOk_by (own := [("_law_k", 4)]) (N := N__law_message) (sc := defScope s__law_message) (by decide +kernel)) (fun _ _ _ _ _ => (pg_name (i := 4) sc__law_message.nd rfl (.inl rfl))) (fun _ _ _ _ _ => pts_nil) (fun _ _ _ _ _ => (pe_op op_mod (pe_callTy call_int1 (by rfl) T.b_int boot_int (pa_cons (pe_op op_add (pe_op op_add (pv 3) (pe_op op_mul pe_int (pv 4))) (pe_op op_fdiv (pv 4) pe_int)) pa_nil)) pe_int))))))), ?_⟩
  refine run_X (N := N__law_message) h (fun _ => Nat.le_of_ble_eq_true rfl) rfl (by
    intro a r k S h
    match k, h with
    | 0, h => cases h; exact ⟨.ref a.1.1, _, pin_mu, rfl, pin_mu⟩
    | (k + 1), h => simp at h) (by intros _ _ _ _ h; simp at h) ?_
  rintro ⟨⟨p_state_, state_⟩, many⟩ E0
  show BK _ _ [some (muL (pinV p_state_) tInt state_), some (val tInt many), none, none, none] _ (m__law_message state_ many) _
  exact bk_eq
    (bk_at [some (muL (pinV p_state_) tInt state_), some (val tInt many), none, none, none] (bk_asg (α := (Int × (List Int))) (S := fun size_56 => val tInt size_56.1) (e1 := fun size_56 => [some (muL (pinV p_state_) tInt size_56.2), some (val tInt many), none, none, none]) (ex_call (δ := (Int × (List Int))) (S := fun x => val tInt x.1) (e' := fun x => [some (muL (pinV p_state_) tInt x.2), some (val tInt many), none, none, none]) [.arg 0, .arg 1] 2 (fun us h => match us, h with | [_, _], _ => rfl) (ax_cons (ex_ad rfl pin_mu) fun _ => (ax_cons (ex_var (i := 1) (T := tInt) rfl) fun a54 => (ax_nil ⟨rfl, ⟨(p_state_, state_), a54⟩, [⟨0, 0, muL (pinV p_state_) tInt state_, muL (pinV p_state_) tInt state_, .ref p_state_, fun B => B⟩], [], id, id, (lok10 rfl (lens_id pin_mu)), ⟨.inr (.inl ⟨_, .head _, rfl, rfl, rfl⟩), .inl ⟨_, rfl, rfl⟩, trivial⟩, (all1 ⟨0, rfl, rfl⟩), wc_id (f := m__law_digit state_ a54), (fun _ _ _ _ _ h => h), (fun r55 => (fgt_c (fgt_c (fgt_n (fgt_n (fgt_n fgt_0)))))), (fun (e : Empty) => e.elim), (fun (e : Empty) => e.elim)⟩)))) fun size_56 => (bk_at [some (muL (pinV p_state_) tInt size_56.2), some (val tInt many), some (val tInt size_56.1), none, none] (bk_asg (α := (Int × (List Int))) (S := fun base__59 => val tInt base__59.1) (e1 := fun base__59 => [some (muL (pinV p_state_) tInt base__59.2), some (val tInt many), some (val tInt size_56.1), none, none]) (ex_call (δ := (Int × (List Int))) (S := fun x => val tInt x.1) (e' := fun x => [some (muL (pinV p_state_) tInt x.2), some (val tInt many), some (val tInt size_56.1), none, none]) [.arg 0, .arg 1] 2 (fun us h => match us, h with | [_, _], _ => rfl) (ax_cons (ex_ad rfl pin_mu) fun _ => (ax_cons ex_int fun a57 => (ax_nil ⟨rfl, ⟨(p_state_, size_56.2), a57⟩, [⟨0, 0, muL (pinV p_state_) tInt size_56.2, muL (pinV p_state_) tInt size_56.2, .ref p_state_, fun B => B⟩], [], id, id, (lok10 rfl (lens_id pin_mu)), ⟨.inr (.inl ⟨_, .head _, rfl, rfl, rfl⟩), .inl ⟨_, rfl, rfl⟩, trivial⟩, (all1 ⟨0, rfl, rfl⟩), wc_id (f := m__law_digit size_56.2 a57), (fun _ _ _ _ _ h => h), (fun r58 => (fgt_c (fgt_c (fgt_c (fgt_n (fgt_n fgt_0)))))), (fun (e : Empty) => e.elim), (fun (e : Empty) => e.elim)⟩)))) fun base__59 => (bk_at [some (muL (pinV p_state_) tInt base__59.2), some (val tInt many), some (val tInt size_56.1), some (val tInt base__59.1), none] (br_ret (ex_ev (δ := ((List Int) × (List Int))) (S := fun x => own tInt x.1) (e' := fun x => [some (muL (pinV p_state_) tInt x.2), some (val tInt many), some (val tInt size_56.1), some (val tInt base__59.1), none]) (fun r63 => (r63, base__59.2)) (ex_lc1 (T := tInt) (eX := fun x61 => [some (muL (pinV p_state_) tInt base__59.2), some (val tInt many), some (val tInt size_56.1), some (val tInt base__59.1), some (val tInt x61)]) (ix_R1p (ex_var (i := 2) (T := tInt) rfl)) (noW1 rfl) (fun x61 => (ac_name)) (fun x61 => (fgt_c (fgt_c (fgt_c (fgt_c (fgt_n fgt_0)))))) (fun x61 => (ex_opq (ex_1q (a := ((base__59.1 + ((3 : Int) * x61)) + (x61 / (7 : Int)))) (Sa := fun x => val tInt x) (c := ((base__59.1 + ((3 : Int) * x61)) + (x61 / (7 : Int)))) (S := fun x => val tInt x) ht_cb1 (ex_opq (ex_opq (ex_var (i := 3) (T := tInt) rfl) (ex_opq ex_int (ex_var (i := 4) (T := tInt) rfl) (o2_int (C := CMul) (.inl ⟨by decide, by decide⟩))) o2_int0) (ex_opq (ex_var (i := 4) (T := tInt) rfl) ex_int (o2_int (C := CDiv) ⟨by decide, by decide⟩)) o2_int0) o1_int) ex_int (o2_int (C := fun _ j => 0 < j) (by decide)))))) (fun _ => (fgt_c fgt_nil))))))))
    (by unfold m__law_message; first | (simp -implicitDefEqProofs only [R.bind_ok, R.of_some, R.mapE_ok, id_eq, R.bind_ok', R.mapE_E]; done) | (simp -implicitDefEqProofs only [R.bind_ok, R.of_some, R.mapE_ok, id_eq, R.bind_ok', R.bind_assoc, R.mapE_E]; done) | (simp -implicitDefEqProofs only [R.bind_ok, R.of_some, R.mapE_ok, id_eq, R.bind_ok', R.bind_assoc, R.mapE_E, R.gR_bind]; done) | (simp -implicitDefEqProofs only [R.bind_ok, R.of_some, R.mapE_ok, id_eq, R.bind_ok', R.bind_assoc, R.mapE_E, R.gR_bind]; rfl) | (simp -implicitDefEqProofs only [R.bind_ok, R.of_some, R.mapE_ok, id_eq, R.bind_ok', R.bind_assoc, R.mapE_E]; rfl))
/-! ### frame_message -/
abbrev N_frame_message : List Str := ["octets"]
theorem sc_frame_message : FnScope N_frame_message ["octets"] (defScope s_frame_message) := ⟨rfl, rfl, rfl, by decide +kernel, rfl, by decide +kernel, by decide +kernel⟩
abbrev sp_frame_message (K : PySem.W.Frag) (mg : Str → Option Value) : Sp := spX mg (fun a : (List Int) => [val (tL tInt) a]) (fun a => m_frame_message a) (fun a r => own tInt r) (fun a r => []) XC.ex (fun _ _ => [])
set_option maxHeartbeats 4000000 in
theorem ok_frame_message {P : Program} {w : World} {K : PySem.W.Frag} {mg : Str → Option Value} {base : Heap} {f : Addr} {fd : FuncData} {dvs : List V} {kws : List (Str × V)} (T : Txt K mg) (F : FunD K "frame_message" "frame_message" (defArgs s_frame_message) (defBody s_frame_message) (defScope s_frame_message) dvs kws f fd)  : FnOk P w K mg base (L2.CX P w) 1 f fd ["octets"] (sp_frame_message K mg) := by
  refine F.ok sc_frame_message (fun vs H Q E h => spX_len h fun _ => rfl) (fun cdv A outer s H vs Q Wx hr h => ?_)
  refine ⟨_, (pss_cons (ps_if (pt_cmpR op_gt (pe_callB (call_len_seqK (K := K) rfl) (by rfl) T.b_len boot_len (pa_cons (pv 0) pa_nil)) (pe_gint (by rfl) T.c_MOST_OCTETS) (nomark _))
       (pss_one (ps_rse (W := fun c d _ H => Wx c d H) rfl (takes_of rfl rfl rfl rfl) T.exc_InvalidAmount T.gc_InvalidAmount (by rfl)))
       pss_nil)
       (pss_one (ps_ret (pe_op op_cat (pe_lst (pa_cons (pe_op op_fdiv (pe_callB (call_len_seqK (K := K) rfl) (by rfl) T.b_len boot_len (pa_cons (pv 0) pa_nil)) pe_int) (pa_cons (pe_op op_mod (pe_callB (call_len_seqK (K := K) rfl) (by rfl) T.b_len boot_len (pa_cons (pv 0) pa_nil)) pe_int) pa_nil))) (pe_callTy (call_list_ofK (K := K) rfl) (by rfl) T.b_list boot_list (pa_cons (pv 0) pa_nil)))))), ?_⟩
  refine run_X (N := N_frame_message) h (fun _ => Nat.le_of_ble_eq_true rfl) rfl (by intros _ _ _ _ h; simp at h) (by intros _ _ _ _ h; simp at h) ?_
  rintro octets E0
  show BK _ _ [some (val (tL tInt) octets)] _ (m_frame_message octets) _
  exact bk_eq
    (bk_at [some (val (tL tInt) octets)] (bk_ifr (emb := id) emb_R (tp_e (ex_opq (ex_1q (a := octets) (Sa := fun x => val (tL tInt) x) (c := (octets.length : Int)) (S := fun x => val tInt x) ht_cb1 (ex_var (i := 0) (T := (tL tInt)) rfl) o1_lenL) ex_int o2_cmp)) (fun t76 => (bk_at [some (val (tL tInt) octets)] (bk_raise (fun _ => ⟨T.gc_InvalidAmount, .inl ⟨rfl, rfl⟩⟩) fgt_nil))) (fun t76 => (bk_at [some (val (tL tInt) octets)] (br_ret (ex_opp (ex_frz (q := fun x => vp (tL tInt) x) (ex_lst (T := tInt) (S := id) (e' := fun _ => [some (val (tL tInt) octets)]) (ax_consq (ex_opq (ex_1q (a := octets) (Sa := fun x => val (tL tInt) x) (c := (octets.length : Int)) (S := fun x => val tInt x) ht_cb1 (ex_var (i := 0) (T := (tL tInt)) rfl) o1_lenL) ex_int (o2_int (C := CDiv) ⟨by decide, by decide⟩)) (ax_consq (ex_opq (ex_1q (a := octets) (Sa := fun x => val (tL tInt) x) (c := (octets.length : Int)) (S := fun x => val tInt x) ht_cb1 (ex_var (i := 0) (T := (tL tInt)) rfl) o1_lenL) ex_int (o2_int (C := fun _ j => 0 < j) (by decide))) (ax_nil ⟨([((octets.length : Int) / (256 : Int)), ((octets.length : Int) % (256 : Int))] : List Int), rfl, rfl, Nat.le_of_ble_eq_true rfl, rfl⟩)))) fun _ => fz_mu) (ex_frz (q := fun x => vp (tL tInt) x) (ex_1q (a := octets) (Sa := fun x => val (tL tInt) x) (c := octets) (S := fun x => own tInt x) ht_cb1 (ex_var (i := 0) (T := (tL tInt)) rfl) o1_listL) fun _ => fz_mu) o2_cat) (fun _ => fgt_nil))))))
    (by unfold m_frame_message; first | (simp -implicitDefEqProofs only [R.bind_ok, R.of_some, R.mapE_ok, id_eq, R.bind_ok', R.mapE_E]; done) | (simp -implicitDefEqProofs only [R.bind_ok, R.of_some, R.mapE_ok, id_eq, R.bind_ok', R.bind_assoc, R.mapE_E]; done) | (simp -implicitDefEqProofs only [R.bind_ok, R.of_some, R.mapE_ok, id_eq, R.bind_ok', R.bind_assoc, R.mapE_E, R.gR_bind]; done) | (simp -implicitDefEqProofs only [R.bind_ok, R.of_some, R.mapE_ok, id_eq, R.bind_ok', R.bind_assoc, R.mapE_E, R.gR_bind]; rfl) | (simp -implicitDefEqProofs only [R.bind_ok, R.of_some, R.mapE_ok, id_eq, R.bind_ok', R.bind_assoc, R.mapE_E]; rfl))
/-! ### Messages.__init__ -/
abbrev N_Messages_init : List Str := ["self"]
theorem sc_Messages_init : FnScope N_Messages_init ["self"] (defScope s_Messages_init) := ⟨rfl, rfl, rfl, by decide +kernel, rfl, by decide +kernel, by decide +kernel⟩
abbrev sp_Messages_init (K : PySem.W.Frag) (mg : Str → Option Value) : Sp := spX mg (fun a : Addr => [ML.ob (pinV a) (He.ga K "Messages") []]) (fun a => m_Messages_init ) (fun a r => val tNon ()) (fun a r => [some (ML.ob (pinV a) (He.ga K "Messages") (vO_Messages K r))]) (fun e : Empty => e.elim) (fun _ _ => [])
set_option maxHeartbeats 4000000 in
theorem ok_Messages_init {P : Program} {w : World} {K : PySem.W.Frag} {mg : Str → Option Value} {base : Heap} {f : Addr} {fd : FuncData} {dvs : List V} {kws : List (Str × V)} (T : Txt K mg) (F : FunD K "__init__" "Messages.__init__" (defArgs s_Messages_init) (defBody s_Messages_init) (defScope s_Messages_init) dvs kws f fd)  : FnOk P w K mg base (L2.CX P w) 1 f fd ["self"] (sp_Messages_init K mg) := by
  refine F.ok sc_Messages_init (fun vs H Q E h => spX_len h fun _ => rfl) (fun cdv A outer s H vs Q Wx hr h => ?_)
  refine ⟨_, (pss_cons (ps_fld (pv 0) (pe_lst pa_nil) rfl)
       pss_nil), ?_⟩
  refine run_XP (N := N_Messages_init) h (fun _ => Nat.le_of_ble_eq_true rfl) rfl rfl (by
    intro a r k S h
    match k, h with
    | 0, h => cases h; exact ⟨.ref a, _, pin_ob, rfl, pin_ob⟩
    | (k + 1), h => simp at h) (by intros _ _ _ _ h; simp at h) ?_
  rintro p_self E0
  show BK _ _ [some (ML.ob (pinV p_self) (He.ga K "Messages") [])] _ (m_Messages_init ) _
  exact bk_eq
    (bk_at [some (ML.ob (pinV p_self) (He.ga K "Messages") [])] (bk_fldG (i := 0) (e1 := fun waiting_112 => [some (ML.ob (pinV p_self) (He.ga K "Messages") [])]) (e2 := fun waiting_112 => [some (ML.ob (pinV p_self) (He.ga K "Messages") [("_waiting", muL yes tInt waiting_112)])]) (fun _ => rfl) T.cls_Messages T.na_Messages__waiting (Nat.le_of_ble_eq_true rfl) (ex_lst (T := tInt) (S := id) (e' := fun _ => [some (ML.ob (pinV p_self) (He.ga K "Messages") [])]) (ax_nil ⟨([] : List Int), rfl, rfl, Nat.le_of_ble_eq_true rfl, rfl⟩)) (fun waiting_112 => (fgt_c fgt_0)) fun waiting_112 => (bk_at [some (ML.ob (pinV p_self) (He.ga K "Messages") [("_waiting", muL yes tInt waiting_112)])] (bp_nx (r := ({ waiting := waiting_112 } : R_Messages)) (fgt_c fgt_nil)))))
    (by unfold m_Messages_init; first | (simp -implicitDefEqProofs only [R.bind_ok, R.of_some, R.mapE_ok, id_eq, R.bind_ok', R.mapE_E]; done) | (simp -implicitDefEqProofs only [R.bind_ok, R.of_some, R.mapE_ok, id_eq, R.bind_ok', R.bind_assoc, R.mapE_E]; done) | (simp -implicitDefEqProofs only [R.bind_ok, R.of_some, R.mapE_ok, id_eq, R.bind_ok', R.bind_assoc, R.mapE_E, R.gR_bind]; done) | (simp -implicitDefEqProofs only [R.bind_ok, R.of_some, R.mapE_ok, id_eq, R.bind_ok', R.bind_assoc, R.mapE_E, R.gR_bind]; rfl) | (simp -implicitDefEqProofs only [R.bind_ok, R.of_some, R.mapE_ok, id_eq, R.bind_ok', R.bind_assoc, R.mapE_E]; rfl))
/-! ### _law_whole -/
abbrev N__law_whole : List Str := ["_law_messages", "_law_count", "_law_told", "_law_at", "_law_message_here"]
theorem sc__law_whole : FnScope N__law_whole ["_law_messages", "_law_count"] (defScope s__law_whole) := ⟨rfl, rfl, rfl, by decide +kernel, rfl, by decide +kernel, by decide +kernel⟩
abbrev sp__law_whole (K : PySem.W.Frag) (mg : Str → Option Value) : Sp := spX mg (fun a : (List (List Int)) × Int => [val (tL (tL tInt)) a.1, val tInt a.2]) (fun a => m__law_whole a.1 a.2) (fun a r => own (tL tInt) r) (fun a r => []) (fun e : Empty => e.elim) (fun _ _ => [])
set_option maxHeartbeats 4000000 in
theorem ok__law_whole {P : Program} {w : World} {K : PySem.W.Frag} {mg : Str → Option Value} {base : Heap} {f : Addr} {fd : FuncData} {dvs : List V} {kws : List (Str × V)} (T : Txt K mg) (F : FunD K "_law_whole" "_law_whole" (defArgs s__law_whole) (defBody s__law_whole) (defScope s__law_whole) dvs kws f fd)  : FnOk P w K mg base (L2.CX P w) 1 f fd ["_law_messages", "_law_count"] (sp__law_whole K mg) := by
  refine F.ok sc__law_whole (fun vs H Q E h => spX_len h fun _ => rfl) (fun cdv A outer s H vs Q Wx hr h => ?_)
  refine ⟨_, (pss_cons (ps_set (i := 2) sc__law_whole.nd rfl (.inl rfl) (pe_lst pa_nil))
       (pss_cons (ps_set (i := 3) sc__law_whole.nd rfl (.inl rfl) pe_int)
       (pss_cons (ps_for (passes_of rfl) rfl (pi_listK (K := K) rfl (pv 0)) (pg_name (i := 4) sc__law_whole.nd rfl (.inl rfl))
       (pss_cons (ps_set (i := 3) sc__law_whole.nd rfl (.inl rfl) (pe_op op_add (pe_op op_add (pv 3) pe_int) (pe_callB (call_len_seqK (K := K) rfl) (by rfl) T.b_len boot_len (pa_cons (pv 4) pa_nil))))
       (pss_one (ps_if (pt_cmpR op_le (pv 3) (pv 1) (nomark _))
       (pss_cons (ps_expr (pe_bm PySem.F.plainAttrs_list PySem.F.slot_list_append PySem.F.type_list_append mt_append (pv 2) (pa_cons (pv 4) pa_nil)))
       pss_nil)
       pss_nil))))
       (pss_one (ps_ret (pv 2)))))), ?_⟩
  refine run_X (N := N__law_whole) h (fun _ => Nat.le_of_ble_eq_true rfl) rfl (by intros _ _ _ _ h; simp at h) (by intros _ _ _ _ h; simp at h) ?_
  rintro ⟨messages, count⟩ E0
  show BK _ _ [some (val (tL (tL tInt)) messages), some (val tInt count), none, none, none] _ (m__law_whole messages count) _
  exact bk_eq
    (bk_at [some (val (tL (tL tInt)) messages), some (val tInt count), none, none, none] (bk_asg (α := (List (List Int))) (S := fun told_144 => own (tL tInt) told_144) (e1 := fun told_144 => [some (val (tL (tL tInt)) messages), some (val tInt count), none, none, none]) (ex_lst (T := (tL tInt)) (S := id) (e' := fun _ => [some (val (tL (tL tInt)) messages), some (val tInt count), none, none, none]) (ax_nil ⟨([] : List (List Int)), rfl, rfl, Nat.le_of_ble_eq_true rfl, rfl⟩)) fun told_144 => (bk_at [some (val (tL (tL tInt)) messages), some (val tInt count), some (muL yes (tL tInt) told_144), none, none] (bk_asg (α := Int) (S := fun at__145 => val tInt at__145) (e1 := fun at__145 => [some (val (tL (tL tInt)) messages), some (val tInt count), some (muL yes (tL tInt) told_144), none, none]) ex_int fun at__145 => (bk_at [some (val (tL (tL tInt)) messages), some (val tInt count), some (muL yes (tL tInt) told_144), some (val tInt at__145), none] (bk_forN (eL := fun c146 (s147 : Int × (List (List Int))) => [some (val (tL (tL tInt)) messages), some (val tInt count), some (muL yes (tL tInt) s147.2), some (val tInt s147.1), none]) (s0 := fun c146 => (at__145, told_144)) (eX := fun c146 x148 (s147 : Int × (List (List Int))) => [some (val (tL (tL tInt)) messages), some (val tInt count), some (muL yes (tL tInt) s147.2), some (val tInt s147.1), some (val (tL tInt) x148)]) (ix_L (xs := fun c => c) (ex_var (i := 0) (T := (tL (tL tInt))) rfl)) (fun c146 => (fgt_c (fgt_c (fgt_c (fgt_c (fgt_n fgt_0)))))) (fun c146 x148 s147 => (as_name)) (fun c146 x148 s147 => (bk_at [some (val (tL (tL tInt)) messages), some (val tInt count), some (muL yes (tL tInt) s147.2), some (val tInt s147.1), some (val (tL tInt) x148)] (bk_asg (α := Int) (S := fun at__150 => val tInt at__150) (e1 := fun at__150 => [some (val (tL (tL tInt)) messages), some (val tInt count), some (muL yes (tL tInt) s147.2), some (val tInt s147.1), some (val (tL tInt) x148)]) (ex_opq (ex_opq (ex_var (i := 3) (T := tInt) rfl) ex_int o2_int0) (ex_1q (a := x148) (Sa := fun x => val (tL tInt) x) (c := (x148.length : Int)) (S := fun x => val tInt x) ht_cb1 (ex_var (i := 4) (T := (tL tInt)) rfl) o1_lenL) o2_int0) fun at__150 => (bk_at [some (val (tL (tL tInt)) messages), some (val tInt count), some (muL yes (tL tInt) s147.2), some (val tInt at__150), some (val (tL tInt) x148)] (bk_if (tp_e (ex_opq (ex_var (i := 3) (T := tInt) rfl) (ex_var (i := 1) (T := tInt) rfl) o2_cmp)) (fun t151 => (bk_at [some (val (tL (tL tInt)) messages), some (val tInt count), some (muL yes (tL tInt) s147.2), some (val tInt at__150), some (val (tL tInt) x148)] (bk_expr (α := (Unit × (List (List Int)))) (S := fun y154 => val tNon y154.1) (e1 := fun y154 => [some (val (tL (tL tInt)) messages), some (val tInt count), some (muL yes (tL tInt) y154.2), some (val tInt at__150), some (val (tL tInt) x148)]) (ex_pin (S' := fun p152 => muL (pinV p152) (tL tInt) s147.2) 2 rfl pn_mu fun p152 => (ex_append (i := 2) (δ := (List Int)) (xs := fun (y153 : (List Int)) => s147.2) (y := fun (y153 : (List Int)) => y153) (τ := (Unit × (List (List Int)))) (e' := fun x => [some (val (tL (tL tInt)) messages), some (val tInt count), some (muL yes (tL tInt) x.2), some (val tInt at__150), some (val (tL tInt) x148)]) (fun (y153 : (List Int)) => ((), (s147.2 ++ [y153]))) (ex_ad rfl pin_mu) rfl (lens_id pin_mu) (ex_var (i := 4) (T := (tL tInt)) rfl) (fun _ => rfl) (fun y153 => lens_id pin_mu) fun y153 => (fgt_c (fgt_c (fgt_w unpin_mu (fgt_c (fgt_c fgt_0))))))) fun y154 => (bk_at [some (val (tL (tL tInt)) messages), some (val tInt count), some (muL yes (tL tInt) y154.2), some (val tInt at__150), some (val (tL tInt) x148)] (bn_nx (a := (at__150, y154.2)) (fgt_c (fgt_c (fgt_c (fgt_c (fgt_n fgt_0)))))))))) (fun t151 => (bk_at [some (val (tL (tL tInt)) messages), some (val tInt count), some (muL yes (tL tInt) s147.2), some (val tInt at__150), some (val (tL tInt) x148)] (bn_nx (a := (at__150, s147.2)) (fgt_c (fgt_c (fgt_c (fgt_c (fgt_n fgt_0))))))))))))) fun c146 s149 => (bk_at [some (val (tL (tL tInt)) messages), some (val tInt count), some (muL yes (tL tInt) s149.2), some (val tInt s149.1), none] (br_ret (ex_out (δ := (List (List Int))) (S2 := fun x => own (tL tInt) x) (e2 := fun _ => []) (fun _ => s149.2) (ex_fgt (ex_to (S' := fun _ => own (tL tInt) s149.2) (ex_mov rfl) (fun _ _ _ _ _ h => h)) fun _ => fgt_nil)) (fun _ => fgt_nil)))))))))
    (by unfold m__law_whole; first | (simp -implicitDefEqProofs only [R.bind_ok, R.of_some, R.mapE_ok, id_eq, R.bind_ok', R.mapE_E]; done) | (simp -implicitDefEqProofs only [R.bind_ok, R.of_some, R.mapE_ok, id_eq, R.bind_ok', R.bind_assoc, R.mapE_E]; done) | (simp -implicitDefEqProofs only [R.bind_ok, R.of_some, R.mapE_ok, id_eq, R.bind_ok', R.bind_assoc, R.mapE_E, R.gR_bind]; done) | (simp -implicitDefEqProofs only [R.bind_ok, R.of_some, R.mapE_ok, id_eq, R.bind_ok', R.bind_assoc, R.mapE_E, R.gR_bind]; rfl) | (simp -implicitDefEqProofs only [R.bind_ok, R.of_some, R.mapE_ok, id_eq, R.bind_ok', R.bind_assoc, R.mapE_E]; rfl))
/-! ### Messages._size_at -/
abbrev N_Messagessize_at : List Str := ["self", "at", "size"]
theorem sc_Messagessize_at : FnScope N_Messagessize_at ["self", "at"] (defScope s_Messagessize_at) := ⟨rfl, rfl, rfl, by decide +kernel, rfl, by decide +kernel, by decide +kernel⟩
abbrev sp_Messagessize_at (K : PySem.W.Frag) (mg : Str → Option Value) : Sp := spX mg (fun a : (Addr × R_Messages) × Int => [ML.ob (pinV a.1.1) (He.ga K "Messages") (vO_Messages K a.1.2), val tInt a.2]) (fun a => m_Messagessize_at a.1.2 a.2) (fun a r => val (tOpt tInt) r) (fun a r => [some (ML.ob (pinV a.1.1) (He.ga K "Messages") (vO_Messages K a.1.2))]) (fun e : Empty => e.elim) (fun _ _ => [])
set_option maxHeartbeats 4000000 in
theorem ok_Messagessize_at {P : Program} {w : World} {K : PySem.W.Frag} {mg : Str → Option Value} {base : Heap} {f : Addr} {fd : FuncData} {dvs : List V} {kws : List (Str × V)} (T : Txt K mg) (F : FunD K "_size_at" "Messages._size_at" (defArgs s_Messagessize_at) (defBody s_Messagessize_at) (defScope s_Messagessize_at) dvs kws f fd)  : FnOk P w K mg base (L2.CX P w) 1 f fd ["self", "at"] (sp_Messagessize_at K mg) := by
  refine F.ok sc_Messagessize_at (fun vs H Q E h => spX_len h fun _ => rfl) (fun cdv A outer s H vs Q Wx hr h => ?_)
  refine ⟨_, (pss_cons (ps_if (pt_cmpR op_lt (pe_callB (call_len_seqK (K := K) rfl) (by rfl) T.b_len boot_len (pa_cons (pe_fld (pv 0) rfl) pa_nil)) (pe_op op_add (pv 1) pe_int) (nomark _))
       (pss_one (ps_ret pe_non))
       pss_nil)
       (pss_cons (ps_set (i := 2) sc_Messagessize_at.nd rfl (.inl rfl) (pe_op op_add (pe_op op_mul (pe_ix (ix_listK (K := K) rfl) (pe_fld (pv 0) rfl) (pv 1) (fun _ _ => rfl)) pe_int) (pe_ix (ix_listK (K := K) rfl) (pe_fld (pv 0) rfl) (pe_op op_add (pv 1) pe_int) (fun _ _ => rfl))))
       (pss_cons (ps_if (pt_cmpR op_lt (pe_callB (call_len_seqK (K := K) rfl) (by rfl) T.b_len boot_len (pa_cons (pe_fld (pv 0) rfl) pa_nil)) (pe_op op_add (pe_op op_add (pv 1) pe_int) (pv 2)) (nomark _))
       (pss_one (ps_ret pe_non))
       pss_nil)
       (pss_one (ps_ret (pv 2)))))), ?_⟩
  refine run_X (N := N_Messagessize_at) h (fun _ => Nat.le_of_ble_eq_true rfl) rfl (by
    intro a r k S h
    match k, h with
    | 0, h => cases h; exact ⟨.ref a.1.1, _, pin_ob, rfl, pin_ob⟩
    | (k + 1), h => simp at h) (by intros _ _ _ _ h; simp at h) ?_
  rintro ⟨⟨p_self, self⟩, at_⟩ E0
  show BK _ _ [some (ML.ob (pinV p_self) (He.ga K "Messages") (vO_Messages K self)), some (val tInt at_), none] _ (m_Messagessize_at self at_) _
  exact bk_eq
    (bk_at [some (ML.ob (pinV p_self) (He.ga K "Messages") (vO_Messages K self)), some (val tInt at_), none] (bk_ifr (emb := id) emb_R (tp_e (ex_opq (ex_brF flat_int (brf_s (fz_Messages K _) (brf_v (brf_n brf_0))) fun _ _ => (ex_1q (a := self.waiting) (Sa := fun x => val (tL tInt) x) (c := (self.waiting.length : Int)) (S := fun x => val tInt x) ht_cb1 (ex_1q (a := self) (Sa := fun x => val (tI_Messages K) x) (c := self.waiting) (S := fun x => val (tL tInt) x) ht_fld (ex_var (i := 0) (T := (tI_Messages K)) rfl) (o1_fldI T.cls_Messages T.na_Messages__waiting (lki_Messages_waiting K _))) o1_lenL)) (ex_opq (ex_var (i := 1) (T := tInt) rfl) ex_int o2_int0) o2_cmp)) (fun t170 => (bk_at [some (ML.ob (pinV p_self) (He.ga K "Messages") (vO_Messages K self)), some (val tInt at_), none] (br_ret (ex_none (T := tInt)) (fun _ => (fgt_c fgt_nil))))) (fun t170 => (bk_at [some (ML.ob (pinV p_self) (He.ga K "Messages") (vO_Messages K self)), some (val tInt at_), none] (bk_asg (α := Int) (S := fun size_175 => val tInt size_175) (e1 := fun size_175 => [some (ML.ob (pinV p_self) (He.ga K "Messages") (vO_Messages K self)), some (val tInt at_), none]) (ex_opm (ex_opr (ex_brF flat_int (brf_s (fz_Messages K _) (brf_v (brf_n brf_0))) fun _ _ => (ex_opp (ex_1q (a := self) (Sa := fun x => val (tI_Messages K) x) (c := self.waiting) (S := fun x => val (tL tInt) x) ht_fld (ex_var (i := 0) (T := (tI_Messages K)) rfl) (o1_fldI T.cls_Messages T.na_Messages__waiting (lki_Messages_waiting K _))) (ex_var (i := 1) (T := tInt) rfl) o2_ixL)) ex_int fun _ => (o2_int (C := CMul) (.inr ⟨by decide, by decide⟩))) (ex_brF flat_int (brf_s (fz_Messages K _) (brf_v (brf_n brf_0))) fun _ _ => (ex_opp (ex_1q (a := self) (Sa := fun x => val (tI_Messages K) x) (c := self.waiting) (S := fun x => val (tL tInt) x) ht_fld (ex_var (i := 0) (T := (tI_Messages K)) rfl) (o1_fldI T.cls_Messages T.na_Messages__waiting (lki_Messages_waiting K _))) (ex_opq (ex_var (i := 1) (T := tInt) rfl) ex_int o2_int0) o2_ixL)) fun _ _ => o2_int0) fun size_175 => (bk_at [some (ML.ob (pinV p_self) (He.ga K "Messages") (vO_Messages K self)), some (val tInt at_), some (val tInt size_175)] (bk_ifr (emb := id) emb_R (tp_e (ex_opq (ex_brF flat_int (brf_s (fz_Messages K _) (brf_v (brf_v brf_0))) fun _ _ => (ex_1q (a := self.waiting) (Sa := fun x => val (tL tInt) x) (c := (self.waiting.length : Int)) (S := fun x => val tInt x) ht_cb1 (ex_1q (a := self) (Sa := fun x => val (tI_Messages K) x) (c := self.waiting) (S := fun x => val (tL tInt) x) ht_fld (ex_var (i := 0) (T := (tI_Messages K)) rfl) (o1_fldI T.cls_Messages T.na_Messages__waiting (lki_Messages_waiting K _))) o1_lenL)) (ex_opq (ex_opq (ex_var (i := 1) (T := tInt) rfl) ex_int o2_int0) (ex_var (i := 2) (T := tInt) rfl) o2_int0) o2_cmp)) (fun t176 => (bk_at [some (ML.ob (pinV p_self) (He.ga K "Messages") (vO_Messages K self)), some (val tInt at_), some (val tInt size_175)] (br_ret (ex_none (T := tInt)) (fun _ => (fgt_c fgt_nil))))) (fun t176 => (bk_at [some (ML.ob (pinV p_self) (He.ga K "Messages") (vO_Messages K self)), some (val tInt at_), some (val tInt size_175)] (br_ret (ex_somep (ex_var (i := 2) (T := tInt) rfl)) (fun _ => (fgt_c fgt_nil))))))))))))
    (by unfold m_Messagessize_at; first | (simp -implicitDefEqProofs only [R.bind_ok, R.of_some, R.mapE_ok, id_eq, R.bind_ok', R.mapE_E]; done) | (simp -implicitDefEqProofs only [R.bind_ok, R.of_some, R.mapE_ok, id_eq, R.bind_ok', R.bind_assoc, R.mapE_E]; done) | (simp -implicitDefEqProofs only [R.bind_ok, R.of_some, R.mapE_ok, id_eq, R.bind_ok', R.bind_assoc, R.mapE_E, R.gR_bind]; done) | (simp -implicitDefEqProofs only [R.bind_ok, R.of_some, R.mapE_ok, id_eq, R.bind_ok', R.bind_assoc, R.mapE_E, R.gR_bind]; rfl) | (simp -implicitDefEqProofs only [R.bind_ok, R.of_some, R.mapE_ok, id_eq, R.bind_ok', R.bind_assoc, R.mapE_E]; rfl))
/-! ### Messages.feed -/
abbrev N_Messages_feed : List Str := ["self", "octets", "messages", "at", "size"]
theorem sc_Messages_feed : FnScope N_Messages_feed ["self", "octets"] (defScope s_Messages_feed) := ⟨rfl, rfl, rfl, by decide +kernel, rfl, by decide +kernel, by decide +kernel⟩
abbrev sp_Messages_feed (K : PySem.W.Frag) (mg : Str → Option Value) : Sp := spX mg (fun a : (Addr × R_Messages) × (Addr × (List Int)) => [ML.ob (pinV a.1.1) (He.ga K "Messages") (vO_Messages K a.1.2), muL (pinV a.2.1) tInt a.2.2]) (fun a => m_Messages_feed a.1.2 a.2.2) (fun a r => muO yes (r.1.map fun x => muL yes tInt x)) (fun a r => [some (ML.ob (pinV a.1.1) (He.ga K "Messages") (vO_Messages K r.2)), some (muL (pinV a.2.1) tInt a.2.2)]) (fun e : Empty => e.elim) (fun _ _ => [])
set_option maxHeartbeats 4000000 in
theorem ok_Messages_feed {P : Program} {w : World} {K : PySem.W.Frag} {mg : Str → Option Value} {base : Heap} {f : Addr} {fd : FuncData} {dvs : List V} {kws : List (Str × V)} (T : Txt K mg) (F : FunD K "feed" "Messages.feed" (defArgs s_Messages_feed) (defBody s_Messages_feed) (defScope s_Messages_feed) dvs kws f fd) (C_Messagessize_at_k0 : CalB P w K mg base 1 (He.ma K (He.ga K "Messages") "_size_at") ["self", "at"] (sp_Messagessize_at K mg) []) : FnOk P w K mg base (L2.CX P w) 2 f fd ["self", "octets"] (sp_Messages_feed K mg) := by
  obtain ⟨fd_Messagessize_at_k0, ds_Messagessize_at_k0, v_Messagessize_at_k0, b_Messagessize_at_k0, G_Messagessize_at_k0⟩ := C_Messagessize_at_k0
  refine F.ok sc_Messages_feed (fun vs H Q E h => spX_len h fun _ => rfl) (fun cdv A outer s H vs Q Wx hr h => ?_)
  refine ⟨_, (pss_cons (ps_expr (pe_bm PySem.F.plainAttrs_list PySem.F.slot_list_extend PySem.F.type_list_extend mt_extend (pe_fld (pv 0) rfl) (pa_cons (pv 1) pa_nil)))
       (pss_cons (ps_set (i := 2) sc_Messages_feed.nd rfl (.inl rfl) (pe_lst pa_nil))
       (pss_cons (ps_set (i := 3) sc_Messages_feed.nd rfl (.inl rfl) pe_int)
       (pss_cons (ps_set (i := 4) sc_Messages_feed.nd rfl (.inl rfl) (pe_methSD (pv 0) T.cls_Messages T.mt_Messages__size_at G_Messagessize_at_k0 (hr.mono (by decide)) b_Messagessize_at_k0 v_Messagessize_at_k0 (passAt (W := fun c d _ H => Wx c d H) (takes_of rfl rfl rfl rfl)) (pa_cons (pv 3) pa_nil)))
       (pss_cons (ps_while (passes_of rfl) (pt_cmpR op_notN (pv 4) pe_non (nomark _))
       (pss_cons (ps_expr (pe_bm PySem.F.plainAttrs_list PySem.F.slot_list_append PySem.F.type_list_append mt_append (pv 2) (pa_cons (pe_slice (sl_listK (K := K) rfl) (pe_fld (pv 0) rfl) (po_some (pe_op op_add (pv 3) pe_int)) (po_some (pe_op op_add (pe_op op_add (pv 3) pe_int) (pv 4)))) pa_nil)))
       (pss_cons (ps_aug (i := 3) sc_Messages_feed.nd rfl (.inl rfl) (pe_op op_add pe_int (pv 4)) ip_add)
       (pss_cons (ps_set (i := 4) sc_Messages_feed.nd rfl (.inl rfl) (pe_methSD (pv 0) T.cls_Messages T.mt_Messages__size_at G_Messagessize_at_k0 (hr.mono (by decide)) b_Messagessize_at_k0 v_Messagessize_at_k0 (passAt (W := fun c d _ H => Wx c d H) (takes_of rfl rfl rfl rfl)) (pa_cons (pv 3) pa_nil)))
       pss_nil))))
       (pss_cons (ps_fld (pv 0) (pe_slice (sl_listK (K := K) rfl) (pe_fld (pv 0) rfl) (po_some (pv 3)) po_none) rfl)
       (pss_one (ps_ret (pv 2))))))))), ?_⟩
  refine run_X (N := N_Messages_feed) h (fun _ => Nat.le_of_ble_eq_true rfl) rfl (by
    intro a r k S h
    match k, h with
    | 0, h => cases h; exact ⟨.ref a.1.1, _, pin_ob, rfl, pin_ob⟩
    | 1, h => cases h; exact ⟨.ref a.2.1, _, pin_mu, rfl, pin_mu⟩
    | (k + 2), h => simp at h) (by intros _ _ _ _ h; simp at h) ?_
  rintro ⟨⟨p_self, self⟩, ⟨p_octets, octets⟩⟩ E0
  show BK _ _ [some (ML.ob (pinV p_self) (He.ga K "Messages") (vO_Messages K self)), some (muL (pinV p_octets) tInt octets), none, none, none] _ (m_Messages_feed self octets) _
  exact bk_eq
    (bk_at [some (ML.ob (pinV p_self) (He.ga K "Messages") (vO_Messages K self)), some (muL (pinV p_octets) tInt octets), none, none, none] (bk_expr (α := (Unit × R_Messages)) (S := fun y167 => val tNon y167.1) (e1 := fun y167 => [some (ML.ob (pinV p_self) (He.ga K "Messages") (vO_Messages K y167.2)), some (muL (pinV p_octets) tInt octets), none, none, none]) (ex_pin (S' := fun p166 => ML.ob (pinV p_self) (He.ga K "Messages") (putS "_waiting" (muL (pinV p166) tInt self.waiting) (vO_Messages K self))) 0 rfl (pn_fld (lk_Messages_waiting K self) pn_mu) fun p166 => (ex_extendO (i := 0) (j := 1) (τ := (Unit × R_Messages)) (e' := fun x => [some (ML.ob (pinV p_self) (He.ga K "Messages") (vO_Messages K x.2)), some (muL (pinV p_octets) tInt octets), none, none, none]) ((), ({ self with waiting := (self.waiting ++ octets) } : R_Messages)) (ex_fldA (i := 0) (ex_ad rfl pin_ob) (fun _ => rfl) (lens_id pin_ob) T.cls_Messages T.na_Messages__waiting (lookup_put _) pin_mu) rfl (lens_fldP pin_mu) (ex_ad rfl pin_mu) rfl (lens_id pin_mu) (fgt_w (ob_put (pt_Messages_waiting K _ _) unpin_mu f_same) (fgt_c (fgt_n (fgt_n (fgt_n fgt_0))))))) fun y167 => (bk_at [some (ML.ob (pinV p_self) (He.ga K "Messages") (vO_Messages K y167.2)), some (muL (pinV p_octets) tInt octets), none, none, none] (bk_asg (α := (List (List Int))) (S := fun messages_168 => muO yes (messages_168.map fun x => muL yes tInt x)) (e1 := fun messages_168 => [some (ML.ob (pinV p_self) (He.ga K "Messages") (vO_Messages K y167.2)), some (muL (pinV p_octets) tInt octets), none, none, none]) (ex_lstO (S := fun (c : (List (List Int))) => c.map (fun x => muL yes tInt x)) (e' := fun _ => [some (ML.ob (pinV p_self) (He.ga K "Messages") (vO_Messages K y167.2)), some (muL (pinV p_octets) tInt octets), none, none, none]) (ax_nil ⟨([] : List (List Int)), rfl, rfl, Nat.le_of_ble_eq_true rfl, rfl⟩)) fun messages_168 => (bk_at [some (ML.ob (pinV p_self) (He.ga K "Messages") (vO_Messages K y167.2)), some (muL (pinV p_octets) tInt octets), some (muO yes (messages_168.map fun x => muL yes tInt x)), none, none] (bk_asg (α := Int) (S := fun at__169 => val tInt at__169) (e1 := fun at__169 => [some (ML.ob (pinV p_self) (He.ga K "Messages") (vO_Messages K y167.2)), some (muL (pinV p_octets) tInt octets), some (muO yes (messages_168.map fun x => muL yes tInt x)), none, none]) ex_int fun at__169 => (bk_at [some (ML.ob (pinV p_self) (He.ga K "Messages") (vO_Messages K y167.2)), some (muL (pinV p_octets) tInt octets), some (muO yes (messages_168.map fun x => muL yes tInt x)), some (val tInt at__169), none] (bk_asg (α := (Option Int)) (S := fun size_181 => val (tOpt tInt) size_181) (e1 := fun size_181 => [some (ML.ob (pinV p_self) (He.ga K "Messages") (vO_Messages K y167.2)), some (muL (pinV p_octets) tInt octets), some (muO yes (messages_168.map fun x => muL yes tInt x)), some (val tInt at__169), none]) (ex_meth (δ := (Option Int)) (S := fun x => val (tOpt tInt) x) (e' := fun _ => [some (ML.ob (pinV p_self) (He.ga K "Messages") (vO_Messages K y167.2)), some (muL (pinV p_octets) tInt octets), some (muO yes (messages_168.map fun x => muL yes tInt x)), some (val tInt at__169), none]) [.arg 0, .arg 1] 2 (fun us h => match us, h with | [_, _], _ => rfl) (ex_ad rfl pin_ob) (fun _ => rec_O (i := 0) rfl (lens_id pin_ob) (ln_Messages_size_at K y167.2)) fun _ => (ax_cons (ex_var (i := 3) (T := tInt) rfl) fun a179 => (ax_nil ⟨rfl, ⟨(p_self, y167.2), a179⟩, [⟨0, 0, ML.ob (pinV p_self) (He.ga K "Messages") (vO_Messages K y167.2), ML.ob (pinV p_self) (He.ga K "Messages") (vO_Messages K y167.2), .ref p_self, fun B => B⟩], [], id, id, (lok10 rfl (lens_id pin_ob)), ⟨.inr (.inl ⟨_, .head _, rfl, rfl, rfl⟩), .inl ⟨_, rfl, rfl⟩, trivial⟩, (all1 ⟨0, rfl, rfl⟩), wc_id (f := m_Messagessize_at y167.2 a179), (fun _ _ _ _ _ h => h), (fun r180 => (fgt_c (fgt_c (fgt_c (fgt_c (fgt_n fgt_0)))))), (fun (e : Empty) => e.elim), (fun (e : Empty) => e.elim)⟩))) fun size_181 => (bk_at [some (ML.ob (pinV p_self) (He.ga K "Messages") (vO_Messages K y167.2)), some (muL (pinV p_octets) tInt octets), some (muO yes (messages_168.map fun x => muL yes tInt x)), some (val tInt at__169), some (val (tOpt tInt) size_181)] (bk_whileN (eL := fun (s182 : (List (List Int)) × Int × (Option Int)) => [some (ML.ob (pinV p_self) (He.ga K "Messages") (vO_Messages K y167.2)), some (muL (pinV p_octets) tInt octets), some (muO yes (s182.1.map fun x => muL yes tInt x)), some (val tInt s182.2.1), some (val (tOpt tInt) s182.2.2)]) (et := fun (w184 : (Bool × (List (List Int)) × Int × (Option Int))) => [some (ML.ob (pinV p_self) (He.ga K "Messages") (vO_Messages K y167.2)), some (muL (pinV p_octets) tInt octets), some (muO yes (w184.2.1.map fun x => muL yes tInt x)), some (val tInt w184.2.2.1), some (val (tOpt tInt) w184.2.2.2)]) (b := fun x => x.1) (s0 := (messages_168, at__169, size_181)) 1000 (fgt_c (fgt_c (fgt_c (fgt_c (fgt_c fgt_0))))) (fun s182 => (tx_out (δ := (Bool × (List (List Int)) × Int × (Option Int))) (b2 := fun x => x.1) (e2 := fun w184 => [some (ML.ob (pinV p_self) (He.ga K "Messages") (vO_Messages K y167.2)), some (muL (pinV p_octets) tInt octets), some (muO yes (w184.2.1.map fun x => muL yes tInt x)), some (val tInt w184.2.2.1), some (val (tOpt tInt) w184.2.2.2)]) (fun t183 => (t183, (s182.1, s182.2.1, s182.2.2))) (tp_e (ex_opq (ex_var (i := 4) (T := (tOpt tInt)) rfl) ex_non (o2_notN nn_int))))) (fun w184 => (bk_at [some (ML.ob (pinV p_self) (He.ga K "Messages") (vO_Messages K y167.2)), some (muL (pinV p_octets) tInt octets), some (muO yes (w184.2.1.map fun x => muL yes tInt x)), some (val tInt w184.2.2.1), some (val (tOpt tInt) w184.2.2.2)] (bk_expr (α := (Unit × (List (List Int)))) (S := fun y190 => val tNon y190.1) (e1 := fun y190 => [some (ML.ob (pinV p_self) (He.ga K "Messages") (vO_Messages K y167.2)), some (muL (pinV p_octets) tInt octets), some (muO yes (y190.2.map fun x => muL yes tInt x)), some (val tInt w184.2.2.1), some (val (tOpt tInt) w184.2.2.2)]) (ex_pin (S' := fun p186 => muO (pinV p186) (w184.2.1.map fun x => muL yes tInt x)) 2 rfl pn_muO fun p186 => (ex_appendM (i := 2) (δ := (List Int)) (S := (fun x => muL yes tInt x)) (xs := fun (y189 : (List Int)) => w184.2.1) (y := fun (y189 : (List Int)) => y189) (τ := (Unit × (List (List Int)))) (e' := fun x => [some (ML.ob (pinV p_self) (He.ga K "Messages") (vO_Messages K y167.2)), some (muL (pinV p_octets) tInt octets), some (muO yes (x.2.map fun x => muL yes tInt x)), some (val tInt w184.2.2.1), some (val (tOpt tInt) w184.2.2.2)]) (fun (y189 : (List Int)) => ((), (w184.2.1 ++ [y189]))) (ex_ad rfl pin_muO) rfl (lens_id pin_muO) (ex_brFO (fun _ => flo_mu flat_int) (brf_s (fz_Messages K _) (brf_s fz_mu (brf_s (fz_muO fun x => fz_mu) (brf_v (brf_v brf_0))))) fun _ _ => (ex_slL (ex_1q (a := y167.2) (Sa := fun x => val (tI_Messages K) x) (c := y167.2.waiting) (S := fun x => val (tL tInt) x) ht_fld (ex_var (i := 0) (T := (tI_Messages K)) rfl) (o1_fldI T.cls_Messages T.na_Messages__waiting (lki_Messages_waiting K _))) (to_some (ex_opq (ex_var (i := 3) (T := tInt) rfl) ex_int o2_int0)) (to_some (ex_opl (ex_opq (ex_var (i := 3) (T := tInt) rfl) ex_int o2_int0) (ex_get (ex_var (i := 4) (T := (tOpt tInt)) rfl)) fun _ => o2_int0)))) (fun _ => rfl) (fun y189 => lens_id pin_muO) fun y189 => (fgt_c (fgt_c (fgt_w unpin_muO (fgt_c (fgt_c fgt_0))))))) fun y190 => (bk_at [some (ML.ob (pinV p_self) (He.ga K "Messages") (vO_Messages K y167.2)), some (muL (pinV p_octets) tInt octets), some (muO yes (y190.2.map fun x => muL yes tInt x)), some (val tInt w184.2.2.1), some (val (tOpt tInt) w184.2.2.2)] (bk_aug rfl (ex_opl ex_int (ex_get (ex_var (i := 4) (T := (tOpt tInt)) rfl)) fun _ => o2_int0) (fun _ => o2_ipI) fun at__192 => (bk_at [some (ML.ob (pinV p_self) (He.ga K "Messages") (vO_Messages K y167.2)), some (muL (pinV p_octets) tInt octets), some (muO yes (y190.2.map fun x => muL yes tInt x)), some (val tInt at__192), some (val (tOpt tInt) w184.2.2.2)] (bk_asg (α := (Option Int)) (S := fun size_195 => val (tOpt tInt) size_195) (e1 := fun size_195 => [some (ML.ob (pinV p_self) (He.ga K "Messages") (vO_Messages K y167.2)), some (muL (pinV p_octets) tInt octets), some (muO yes (y190.2.map fun x => muL yes tInt x)), some (val tInt at__192), some (val (tOpt tInt) w184.2.2.2)]) (ex_meth (δ := (Option Int)) (S := fun x => val (tOpt tInt) x) (e' := fun _ => [some (ML.ob (pinV p_self) (He.ga K "Messages") (vO_Messages K y167.2)), some (muL (pinV p_octets) tInt octets), some (muO yes (y190.2.map fun x => muL yes tInt x)), some (val tInt at__192), some (val (tOpt tInt) w184.2.2.2)]) [.arg 0, .arg 1] 2 (fun us h => match us, h with | [_, _], _ => rfl) (ex_ad rfl pin_ob) (fun _ => rec_O (i := 0) rfl (lens_id pin_ob) (ln_Messages_size_at K y167.2)) fun _ => (ax_cons (ex_var (i := 3) (T := tInt) rfl) fun a193 => (ax_nil ⟨rfl, ⟨(p_self, y167.2), a193⟩, [⟨0, 0, ML.ob (pinV p_self) (He.ga K "Messages") (vO_Messages K y167.2), ML.ob (pinV p_self) (He.ga K "Messages") (vO_Messages K y167.2), .ref p_self, fun B => B⟩], [], id, id, (lok10 rfl (lens_id pin_ob)), ⟨.inr (.inl ⟨_, .head _, rfl, rfl, rfl⟩), .inl ⟨_, rfl, rfl⟩, trivial⟩, (all1 ⟨0, rfl, rfl⟩), wc_id (f := m_Messagessize_at y167.2 a193), (fun _ _ _ _ _ h => h), (fun r194 => (fgt_c (fgt_c (fgt_c (fgt_c (fgt_c fgt_0)))))), (fun (e : Empty) => e.elim), (fun (e : Empty) => e.elim)⟩))) fun size_195 => (bk_at [some (ML.ob (pinV p_self) (He.ga K "Messages") (vO_Messages K y167.2)), some (muL (pinV p_octets) tInt octets), some (muO yes (y190.2.map fun x => muL yes tInt x)), some (val tInt at__192), some (val (tOpt tInt) size_195)] (bn_nx (a := (y190.2, at__192, size_195)) (fgt_c (fgt_c (fgt_c (fgt_c (fgt_c fgt_0)))))))))))))) fun s185 => (bk_at [some (ML.ob (pinV p_self) (He.ga K "Messages") (vO_Messages K y167.2)), some (muL (pinV p_octets) tInt octets), some (muO yes (s185.2.1.map fun x => muL yes tInt x)), some (val tInt s185.2.2.1), some (val (tOpt tInt) s185.2.2.2)] (bk_fldG (i := 0) (e1 := fun waiting_197 => [some (ML.ob (pinV p_self) (He.ga K "Messages") (vO_Messages K y167.2)), some (muL (pinV p_octets) tInt octets), some (muO yes (s185.2.1.map fun x => muL yes tInt x)), some (val tInt s185.2.2.1), some (val (tOpt tInt) s185.2.2.2)]) (e2 := fun waiting_197 => [some (ML.ob (pinV p_self) (He.ga K "Messages") (vO_Messages K ({ y167.2 with waiting := waiting_197 } : R_Messages))), some (muL (pinV p_octets) tInt octets), some (muO yes (s185.2.1.map fun x => muL yes tInt x)), some (val tInt s185.2.2.1), some (val (tOpt tInt) s185.2.2.2)]) (fun _ => rfl) T.cls_Messages T.na_Messages__waiting (Nat.le_of_ble_eq_true rfl) (ex_brFO (fun _ => flo_mu flat_int) (brf_s (fz_Messages K _) (brf_s fz_mu (brf_s (fz_muO fun x => fz_mu) (brf_v (brf_v brf_0))))) fun _ _ => (ex_slL (ex_1q (a := y167.2) (Sa := fun x => val (tI_Messages K) x) (c := y167.2.waiting) (S := fun x => val (tL tInt) x) ht_fld (ex_var (i := 0) (T := (tI_Messages K)) rfl) (o1_fldI T.cls_Messages T.na_Messages__waiting (lki_Messages_waiting K _))) (to_some (ex_var (i := 3) (T := tInt) rfl)) to_none)) (fun waiting_197 => (fgt_w (ob_put (pt_Messages_waiting K _ _) w_id f_same) (fgt_c (fgt_c (fgt_c (fgt_c fgt_0)))))) fun waiting_197 => (bk_at [some (ML.ob (pinV p_self) (He.ga K "Messages") (vO_Messages K ({ y167.2 with waiting := waiting_197 } : R_Messages))), some (muL (pinV p_octets) tInt octets), some (muO yes (s185.2.1.map fun x => muL yes tInt x)), some (val tInt s185.2.2.1), some (val (tOpt tInt) s185.2.2.2)] (br_ret (ex_out (δ := ((List (List Int)) × R_Messages)) (S2 := fun x => muO yes (x.1.map fun x => muL yes tInt x)) (e2 := fun x => [some (ML.ob (pinV p_self) (He.ga K "Messages") (vO_Messages K x.2)), some (muL (pinV p_octets) tInt octets), none, some (val tInt s185.2.2.1), some (val (tOpt tInt) s185.2.2.2)]) (fun r198 => (s185.2.1, ({ y167.2 with waiting := waiting_197 } : R_Messages))) (ex_to (S' := fun _ => muO yes (s185.2.1.map fun x => muL yes tInt x)) (ex_mov rfl) (fun _ _ _ _ _ h => h))) (fun _ => (fgt_c (fgt_c fgt_nil)))))))))))))))))
    (by unfold m_Messages_feed; first | (simp -implicitDefEqProofs only [R.bind_ok, R.of_some, R.mapE_ok, id_eq, R.bind_ok', R.mapE_E]; done) | (simp -implicitDefEqProofs only [R.bind_ok, R.of_some, R.mapE_ok, id_eq, R.bind_ok', R.bind_assoc, R.mapE_E]; done) | (simp -implicitDefEqProofs only [R.bind_ok, R.of_some, R.mapE_ok, id_eq, R.bind_ok', R.bind_assoc, R.mapE_E, R.gR_bind]; done) | (simp -implicitDefEqProofs only [R.bind_ok, R.of_some, R.mapE_ok, id_eq, R.bind_ok', R.bind_assoc, R.mapE_E, R.gR_bind]; rfl) | (simp -implicitDefEqProofs only [R.bind_ok, R.of_some, R.mapE_ok, id_eq, R.bind_ok', R.bind_assoc, R.mapE_E]; rfl))
/-! ### _law_is_integer -/
abbrev N__law_is_integer : List Str := ["_law_told"]
theorem sc__law_is_integer : FnScope N__law_is_integer ["_law_told"] (defScope s__law_is_integer) := ⟨rfl, rfl, rfl, by decide +kernel, rfl, by decide +kernel, by decide +kernel⟩
abbrev sp__law_is_integer (K : PySem.W.Frag) (mg : Str → Option Value) : Sp := spX mg (fun a : Int => [val tInt a]) (fun a => m__law_is_integer a) (fun a r => val tBool r) (fun a r => []) (fun e : Empty => e.elim) (fun _ _ => [])
set_option maxHeartbeats 4000000 in
theorem ok__law_is_integer {P : Program} {w : World} {K : PySem.W.Frag} {mg : Str → Option Value} {base : Heap} {f : Addr} {fd : FuncData} {dvs : List V} {kws : List (Str × V)} (T : Txt K mg) (F : FunD K "_law_is_integer" "_law_is_integer" (defArgs s__law_is_integer) (defBody s__law_is_integer) (defScope s__law_is_integer) dvs kws f fd)  : FnOk P w K mg base (L2.CX P w) 1 f fd ["_law_told"] (sp__law_is_integer K mg) := by
  refine F.ok sc__law_is_integer (fun vs H Q E h => spX_len h fun _ => rfl) (fun cdv A outer s H vs Q Wx hr h => ?_)
  refine ⟨_, (pss_one (ps_ret (pe_and (pe_callB (call_isiKK (K := K) rfl) (by rfl) T.b_isinstance boot_isinstance (pa_cons (pv 0) (pa_cons (pe_bltn (v := .ty "int") (by rfl) T.b_int boot_int rfl) pa_nil))) (pe_one (pe_not (pe_callB (call_isiKK (K := K) rfl) (by rfl) T.b_isinstance boot_isinstance (pa_cons (pv 0) (pa_cons (pe_bltn (v := .ty "bool") (by rfl) T.b_bool boot_bool rfl) pa_nil)))))))), ?_⟩
  refine run_X (N := N__law_is_integer) h (fun _ => Nat.le_of_ble_eq_true rfl) rfl (by intros _ _ _ _ h; simp at h) (by intros _ _ _ _ h; simp at h) ?_
  rintro told E0
  show BK _ _ [some (val tInt told)] _ (m__law_is_integer told) _
  exact bk_eq
    (bk_at [some (val tInt told)] (br_ret (ex_and (ex_as2 ht_cb2 (ex_opq (ex_var (i := 0) (T := tInt) rfl) ex_ty (o2_is (b := true) ty_int (by decide +kernel)))) (ex_notp (ex_as2 ht_cb2 (ex_opq (ex_var (i := 0) (T := tInt) rfl) ex_ty (o2_is (b := false) ty_int (by decide +kernel)))))) (fun _ => fgt_nil)))
    (by unfold m__law_is_integer; first | (simp -implicitDefEqProofs only [R.bind_ok, R.of_some, R.mapE_ok, id_eq, R.bind_ok', R.mapE_E]; done) | (simp -implicitDefEqProofs only [R.bind_ok, R.of_some, R.mapE_ok, id_eq, R.bind_ok', R.bind_assoc, R.mapE_E]; done) | (simp -implicitDefEqProofs only [R.bind_ok, R.of_some, R.mapE_ok, id_eq, R.bind_ok', R.bind_assoc, R.mapE_E, R.gR_bind]; done) | (simp -implicitDefEqProofs only [R.bind_ok, R.of_some, R.mapE_ok, id_eq, R.bind_ok', R.bind_assoc, R.mapE_E, R.gR_bind]; rfl) | (simp -implicitDefEqProofs only [R.bind_ok, R.of_some, R.mapE_ok, id_eq, R.bind_ok', R.bind_assoc, R.mapE_E]; rfl))
/-! ### _law_same -/
abbrev N__law_same : List Str := ["_law_told", "_law_due", "_law_k", "_law_octet"]
theorem sc__law_same : FnScope N__law_same ["_law_told", "_law_due"] (defScope s__law_same) := ⟨rfl, rfl, rfl, by decide +kernel, rfl, by decide +kernel, by decide +kernel⟩
abbrev sp__law_same (K : PySem.W.Frag) (mg : Str → Option Value) : Sp := spX mg (fun a : (Addr × (List (List Int))) × (List (List Int)) => [muO (pinV a.1.1) (a.1.2.map fun x => muL yes tInt x), val (tL (tL tInt)) a.2]) (fun a => m__law_same a.1.2 a.2) (fun a r => val tBool r.1) (fun a r => [some (muO (pinV a.1.1) (r.2.map fun x => muL yes tInt x))]) (fun e : Empty => e.elim) (fun _ _ => [])
set_option maxHeartbeats 4000000 in
theorem ok__law_same {P : Program} {w : World} {K : PySem.W.Frag} {mg : Str → Option Value} {base : Heap} {f : Addr} {fd : FuncData} {dvs : List V} {kws : List (Str × V)} (T : Txt K mg) (F : FunD K "_law_same" "_law_same" (defArgs s__law_same) (defBody s__law_same) (defScope s__law_same) dvs kws f fd) (C__law_is_integer_k0 : CalB P w K mg base 1 (He.ga K "_law_is_integer") ["_law_told"] (sp__law_is_integer K mg) []) : FnOk P w K mg base (L2.CX P w) 2 f fd ["_law_told", "_law_due"] (sp__law_same K mg) := by
  obtain ⟨fd__law_is_integer_k0, ds__law_is_integer_k0, v__law_is_integer_k0, b__law_is_integer_k0, G__law_is_integer_k0⟩ := C__law_is_integer_k0
  refine F.ok sc__law_same (fun vs H Q E h => spX_len h fun _ => rfl) (fun cdv A outer s H vs Q Wx hr h => ?_)
  refine ⟨_, (pss_cons (ps_if (PW.pt (pw_or (pt_not (pt_val (pe_callB (call_isiKK (K := K) rfl) (by rfl) T.b_isinstance boot_isinstance (pa_cons (pv 0) (pa_cons (pe_bltn (v := .ty "list") (by rfl) T.b_list boot_list rfl) pa_nil))))) (pw_or1 (pt_cmpR op_ne (pe_callB (call_len_seqK (K := K) rfl) (by rfl) T.b_len boot_len (pa_cons (pv 0) pa_nil)) (pe_callB (call_len_seqK (K := K) rfl) (by rfl) T.b_len boot_len (pa_cons (pv 1) pa_nil)) (nomark _)))))
       pss_never
       pss_nil)
       (pss_cons (ps_for (passes_of rfl) rfl (pi_range1 (by rfl) T.b_range (pa_cons (pe_callB (call_len_seqK (K := K) rfl) (by rfl) T.b_len boot_len (pa_cons (pv 1) pa_nil)) pa_nil)) (pg_name (i := 2) sc__law_same.nd rfl (.inl rfl))
       (pss_cons (ps_if (PW.pt (pw_or (pt_not (pt_val (pe_callB (call_isiKK (K := K) rfl) (by rfl) T.b_isinstance boot_isinstance (pa_cons (pe_ix (ix_listK (K := K) rfl) (pv 0) (pv 2) (fun _ _ => rfl)) (pa_cons (pe_bltn (v := .ty "list") (by rfl) T.b_list boot_list rfl) pa_nil))))) (pw_or1 (pt_cmpR (op_neDK (K := K) rfl hr.units) (pe_ix (ix_listK (K := K) rfl) (pv 0) (pv 2) (fun _ _ => rfl)) (pe_ix (ix_listK (K := K) rfl) (pv 1) (pv 2) (fun _ _ => rfl)) (nomark _)))))
       pss_never
       pss_nil)
       (pss_cons (ps_for (passes_of rfl) rfl (pi_listK (K := K) rfl (pe_ix (ix_listK (K := K) rfl) (pv 0) (pv 2) (fun _ _ => rfl))) (pg_name (i := 3) sc__law_same.nd rfl (.inl rfl))
       (pss_one (ps_if (pt_not (pt_val (pe_callSD G__law_is_integer_k0 (hr.mono (by decide)) (by rfl) T.gf__law_is_integer T.kf__law_is_integer b__law_is_integer_k0 v__law_is_integer_k0 (passAt (W := fun c d _ H => Wx c d H) (takes_of rfl rfl rfl rfl)) (pa_cons (pv 3) pa_nil))))
       pss_never
       pss_nil)))
       (pss_cons (ps_expr (pe_bm PySem.F.plainAttrs_list PySem.F.slot_list_append PySem.F.type_list_append mt_append (pe_ix (ix_listK (K := K) rfl) (pv 0) (pv 2) (fun _ _ => rfl)) (pa_cons pe_int pa_nil)))
       pss_nil))))
       (pss_one (ps_ret pe_bl)))), ?_⟩
  refine run_X (N := N__law_same) h (fun _ => Nat.le_of_ble_eq_true rfl) rfl (by
    intro a r k S h
    match k, h with
    | 0, h => cases h; exact ⟨.ref a.1.1, _, pin_muO, rfl, pin_muO⟩
    | (k + 1), h => simp at h) (by intros _ _ _ _ h; simp at h) ?_
  rintro ⟨⟨p_told, told⟩, due⟩ E0
  show BK _ _ [some (muO (pinV p_told) (told.map fun x => muL yes tInt x)), some (val (tL (tL tInt)) due), none, none] _ (m__law_same told due) _
  exact bk_eq
    (bk_at [some (muO (pinV p_told) (told.map fun x => muL yes tInt x)), some (val (tL (tL tInt)) due), none, none] (bk_ifj (eJ := fun (s216 : Unit) => [some (muO (pinV p_told) (told.map fun x => muL yes tInt x)), some (val (tL (tL tInt)) due), none, none]) (tp_or (tp_notp (tp_b (ex_brF flat_bool (brf_s (fz_muO fun x => fz_mu) (brf_v (brf_n (brf_n brf_0)))) fun _ _ => (ex_as2 ht_cb2 (ex_opq (ex_var (i := 0) (T := (tL (tL tInt))) rfl) ex_ty (o2_is (b := true) ty_L (by decide +kernel))))))) (tp_e (ex_opq (ex_brF flat_int (brf_s (fz_muO fun x => fz_mu) (brf_v (brf_n (brf_n brf_0)))) fun _ _ => (ex_1q (a := told) (Sa := fun x => val (tL (tL tInt)) x) (c := (told.length : Int)) (S := fun x => val tInt x) ht_cb1 (ex_var (i := 0) (T := (tL (tL tInt))) rfl) o1_lenL)) (ex_1q (a := due) (Sa := fun x => val (tL (tL tInt)) x) (c := (due.length : Int)) (S := fun x => val tInt x) ht_cb1 (ex_var (i := 1) (T := (tL (tL tInt))) rfl) o1_lenL) o2_neI))) (fun t215 => bk_no) (fun t215 => (bk_at [some (muO (pinV p_told) (told.map fun x => muL yes tInt x)), some (val (tL (tL tInt)) due), none, none] (bn_nx (a := ()) (fgt_c (fgt_c (fgt_n (fgt_n fgt_0))))))) fun s216 => (bk_at [some (muO (pinV p_told) (told.map fun x => muL yes tInt x)), some (val (tL (tL tInt)) due), none, none] (bk_forL (eL := fun c217 (s218 : (List (List Int))) => [some (muO (pinV p_told) (s218.map fun x => muL yes tInt x)), some (val (tL (tL tInt)) due), none, none]) (s0 := fun c217 => told) (eX := fun c217 x219 (s218 : (List (List Int))) => [some (muO (pinV p_told) (s218.map fun x => muL yes tInt x)), some (val (tL (tL tInt)) due), some (val tInt x219), none]) (emb := id) emb_R (ix_R1p (ex_1q (a := due) (Sa := fun x => val (tL (tL tInt)) x) (c := (due.length : Int)) (S := fun x => val tInt x) ht_cb1 (ex_var (i := 1) (T := (tL (tL tInt))) rfl) o1_lenL)) (fun c217 => (fgt_c (fgt_c (fgt_n (fgt_n fgt_0))))) (fun c217 x219 s218 => (as_name)) (fun c217 x219 s218 => (bk_at [some (muO (pinV p_told) (s218.map fun x => muL yes tInt x)), some (val (tL (tL tInt)) due), some (val tInt x219), none] (bk_ifj (eJ := fun (s227 : Unit) => [some (muO (pinV p_told) (s218.map fun x => muL yes tInt x)), some (val (tL (tL tInt)) due), some (val tInt x219), none]) (tp_or (tp_not (tp_b (ex_brF flat_bool (brf_s (fz_muO fun x => fz_mu) (brf_v (brf_v (brf_n brf_0)))) fun _ _ => (ex_as2 ht_cb2 (ex_opr (ex_opp (ex_var (i := 0) (T := (tL (tL tInt))) rfl) (ex_var (i := 2) (T := tInt) rfl) o2_ixL) ex_ty fun _ => (o2_is (b := true) ty_L (by decide +kernel))))))) (tx_brF (brf_s (fz_muO fun x => fz_mu) (brf_v (brf_v (brf_n brf_0)))) fun _ _ => (tp_e (ex_opm (ex_opp (ex_var (i := 0) (T := (tL (tL tInt))) rfl) (ex_var (i := 2) (T := tInt) rfl) o2_ixL) (ex_opp (ex_var (i := 1) (T := (tL (tL tInt))) rfl) (ex_var (i := 2) (T := tInt) rfl) o2_ixL) fun _ _ => (o2_neDt (dL dInt) (Nat.le_of_ble_eq_true rfl) (lay_L lay_int)))))) (fun t226 => bk_no) (fun t226 => (bk_at [some (muO (pinV p_told) (s218.map fun x => muL yes tInt x)), some (val (tL (tL tInt)) due), some (val tInt x219), none] (bn_nx (a := ()) (fgt_c (fgt_c (fgt_c (fgt_n fgt_0))))))) fun s227 => (bk_at [some (muO (pinV p_told) (s218.map fun x => muL yes tInt x)), some (val (tL (tL tInt)) due), some (val tInt x219), none] (bk_pick fun q0_ hq0_ => (bk_pin (S' := fun p228 => muO (pinV p_told) ((s218.map fun x => muL yes tInt x).set q0_.1 (muL (pinV p228) tInt q0_.2))) 0 rfl (pn_ix (pick_map hq0_) pn_mu) fun p228 => (bk_forLO (i := 0) (eL := fun (s229 : Unit) => [some ((muO (pinV p_told) ((s218.map fun x => muL yes tInt x).set q0_.1 ((isVP (.ref p228)).sp)))), some (val (tL (tL tInt)) due), some (val tInt x219), none]) (s0 := ()) (eX := fun x230 (s229 : Unit) => [some ((muO (pinV p_told) ((s218.map fun x => muL yes tInt x).set q0_.1 ((isVP (.ref p228)).sp)))), some (val (tL (tL tInt)) due), some (val tInt x219), some (val tInt x230)]) (S2 := fun _ => (muO (pinV p_told) ((s218.map fun x => muL yes tInt x).set q0_.1 ((isVP (.ref p228)).sp)))) (plug2 := fun _ B => (muO (pinV p_told) ((s218.map fun x => muL yes tInt x).set q0_.1 B))) (eK := fun (s231 : Unit) => [some (muO (pinV p_told) (s218.map fun x => muL yes tInt x)), some (val (tL (tL tInt)) due), some (val tInt x219), none]) (emb := Out.ret) emb_L (ex_ixOO (i := 0) (ex_ad rfl pin_muO) rfl (lens_id pin_muO) pin_mu (ex_var (i := 2) (T := tInt) rfl) (pick_ix hq0_)) rfl (lens_ix (pick_lt hq0_) pin_mu) (fgt_c (fgt_c (fgt_c (fgt_n fgt_0)))) (fun x230 s229 => (as_name)) (fun x230 s229 => (bk_at [some ((muO (pinV p_told) ((s218.map fun x => muL yes tInt x).set q0_.1 ((isVP (.ref p228)).sp)))), some (val (tL (tL tInt)) due), some (val tInt x219), some (val tInt x230)] (bk_if (tp_not (tp_b (ex_call (δ := Bool) (S := fun x => val tBool x) (e' := fun _ => [some ((muO (pinV p_told) ((s218.map fun x => muL yes tInt x).set q0_.1 ((isVP (.ref p228)).sp)))), some (val (tL (tL tInt)) due), some (val tInt x219), some (val tInt x230)]) [.arg 0] 1 (fun us h => match us, h with | [_], _ => rfl) (ax_cons (ex_var (i := 3) (T := tInt) rfl) fun a233 => (ax_nil ⟨rfl, a233, [], [], id, id, lok00, ⟨.inl ⟨_, rfl, rfl⟩, trivial⟩, (fun n hn => nomatch hn), wc_id (f := m__law_is_integer a233), (fun _ _ _ _ _ h => h), (fun r234 => (fgt_c (fgt_c (fgt_c (fgt_c fgt_0))))), (fun (e : Empty) => e.elim), (fun (e : Empty) => e.elim)⟩))))) (fun t236 => bk_no) (fun t236 => (bk_at [some ((muO (pinV p_told) ((s218.map fun x => muL yes tInt x).set q0_.1 ((isVP (.ref p228)).sp)))), some (val (tL (tL tInt)) due), some (val tInt x219), some (val tInt x230)] (bl_nx (a := ()) (fgt_c (fgt_c (fgt_c (fgt_n fgt_0)))))))))) (fun _ => rfl) (fun _ => (lens_ix (pick_lt hq0_) pin_al)) (fun s231 => (fgt_w (ls_put (map_same hq0_) unpin_mu f_same) (fgt_c (fgt_c (fgt_n fgt_0))))) fun s231 => (bk_at [some (muO (pinV p_told) (s218.map fun x => muL yes tInt x)), some (val (tL (tL tInt)) due), some (val tInt x219), none] (bk_expr (α := (Unit × (List (List Int)))) (S := fun y239 => val tNon y239.1) (e1 := fun y239 => [some (muO (pinV p_told) (y239.2.map fun x => muL yes tInt x)), some (val (tL (tL tInt)) due), some (val tInt x219), none]) (ex_pick fun q1_ hq1_ => (ex_pin (S' := fun p237 => muO (pinV p_told) ((s218.map fun x => muL yes tInt x).set q1_.1 (muL (pinV p237) tInt q1_.2))) 0 rfl (pn_ix (pick_map hq1_) pn_mu) fun p237 => (ex_append (i := 0) (δ := Int) (xs := fun (y238 : Int) => q1_.2) (y := fun (y238 : Int) => y238) (τ := (Unit × (List (List Int)))) (e' := fun x => [some (muO (pinV p_told) (x.2.map fun x => muL yes tInt x)), some (val (tL (tL tInt)) due), some (val tInt x219), none]) (fun (y238 : Int) => ((), (s218.set q1_.1 (q1_.2 ++ [y238])))) (ex_ixOO (i := 0) (ex_ad rfl pin_muO) rfl (lens_id pin_muO) pin_mu (ex_var (i := 2) (T := tInt) rfl) (pick_ix hq1_)) rfl (lens_ix (pick_lt hq1_) pin_mu) ex_int (fun _ => rfl) (fun y238 => (lens_ix (pick_lt hq1_) pin_mu)) fun y238 => (fgt_w (ls_put (map_set rfl) unpin_mu f_same) (fgt_c (fgt_c (fgt_n fgt_0))))))) fun y239 => (bk_at [some (muO (pinV p_told) (y239.2.map fun x => muL yes tInt x)), some (val (tL (tL tInt)) due), some (val tInt x219), none] (bl_nx (a := y239.2) (fgt_c (fgt_c (fgt_n (fgt_n fgt_0))))))))))))))) fun c217 s220 => (bk_at [some (muO (pinV p_told) (s220.map fun x => muL yes tInt x)), some (val (tL (tL tInt)) due), none, none] (br_ret (ex_ev (δ := (Bool × (List (List Int)))) (S := fun x => val tBool x.1) (e' := fun x => [some (muO (pinV p_told) (x.2.map fun x => muL yes tInt x)), some (val (tL (tL tInt)) due), none, none]) (fun r240 => (r240, s220)) ex_bl) (fun _ => (fgt_c fgt_nil))))))))
    (by unfold m__law_same; first | (simp -implicitDefEqProofs only [R.bind_ok, R.of_some, R.mapE_ok, id_eq, R.bind_ok', R.mapE_E]; done) | (simp -implicitDefEqProofs only [R.bind_ok, R.of_some, R.mapE_ok, id_eq, R.bind_ok', R.bind_assoc, R.mapE_E]; done) | (simp -implicitDefEqProofs only [R.bind_ok, R.of_some, R.mapE_ok, id_eq, R.bind_ok', R.bind_assoc, R.mapE_E, R.gR_bind]; done) | (simp -implicitDefEqProofs only [R.bind_ok, R.of_some, R.mapE_ok, id_eq, R.bind_ok', R.bind_assoc, R.mapE_E, R.gR_bind]; rfl) | (simp -implicitDefEqProofs only [R.bind_ok, R.of_some, R.mapE_ok, id_eq, R.bind_ok', R.bind_assoc, R.mapE_E]; rfl))
/-! ### Messages.pending -/
abbrev N_Messages_pending : List Str := ["self"]
theorem sc_Messages_pending : FnScope N_Messages_pending ["self"] (defScope s_Messages_pending) := ⟨rfl, rfl, rfl, by decide +kernel, rfl, by decide +kernel, by decide +kernel⟩
abbrev sp_Messages_pending (K : PySem.W.Frag) (mg : Str → Option Value) : Sp := spX mg (fun a : (Addr × R_Messages) => [ML.ob (pinV a.1) (He.ga K "Messages") (vO_Messages K a.2)]) (fun a => m_Messages_pending a.2) (fun a r => val tInt r) (fun a r => [some (ML.ob (pinV a.1) (He.ga K "Messages") (vO_Messages K a.2))]) (fun e : Empty => e.elim) (fun _ _ => [])
set_option maxHeartbeats 4000000 in
theorem ok_Messages_pending {P : Program} {w : World} {K : PySem.W.Frag} {mg : Str → Option Value} {base : Heap} {f : Addr} {fd : FuncData} {dvs : List V} {kws : List (Str × V)} (T : Txt K mg) (F : FunD K "pending" "Messages.pending" (defArgs s_Messages_pending) (defBody s_Messages_pending) (defScope s_Messages_pending) dvs kws f fd)  : FnOk P w K mg base (L2.CX P w) 1 f fd ["self"] (sp_Messages_pending K mg) := by
  refine F.ok sc_Messages_pending (fun vs H Q E h => spX_len h fun _ => rfl) (fun cdv A outer s H vs Q Wx hr h => ?_)
  refine ⟨_, (pss_one (ps_ret (pe_callB (call_len_seqK (K := K) rfl) (by rfl) T.b_len boot_len (pa_cons (pe_fld (pv 0) rfl) pa_nil)))), ?_⟩
  refine run_X (N := N_Messages_pending) h (fun _ => Nat.le_of_ble_eq_true rfl) rfl (by
    intro a r k S h
    match k, h with
    | 0, h => cases h; exact ⟨.ref a.1, _, pin_ob, rfl, pin_ob⟩
    | (k + 1), h => simp at h) (by intros _ _ _ _ h; simp at h) ?_
  rintro ⟨p_self, self⟩ E0
  show BK _ _ [some (ML.ob (pinV p_self) (He.ga K "Messages") (vO_Messages K self))] _ (m_Messages_pending self) _
  exact bk_eq
    (bk_at [some (ML.ob (pinV p_self) (He.ga K "Messages") (vO_Messages K self))] (br_ret (ex_brF flat_int (brf_s (fz_Messages K _) brf_0) fun _ _ => (ex_1q (a := self.waiting) (Sa := fun x => val (tL tInt) x) (c := (self.waiting.length : Int)) (S := fun x => val tInt x) ht_cb1 (ex_1q (a := self) (Sa := fun x => val (tI_Messages K) x) (c := self.waiting) (S := fun x => val (tL tInt) x) ht_fld (ex_var (i := 0) (T := (tI_Messages K)) rfl) (o1_fldI T.cls_Messages T.na_Messages__waiting (lki_Messages_waiting K _))) o1_lenL)) (fun _ => (fgt_c fgt_nil))))
    (by unfold m_Messages_pending; first | (simp -implicitDefEqProofs only [R.bind_ok, R.of_some, R.mapE_ok, id_eq, R.bind_ok', R.mapE_E]; done) | (simp -implicitDefEqProofs only [R.bind_ok, R.of_some, R.mapE_ok, id_eq, R.bind_ok', R.bind_assoc, R.mapE_E]; done) | (simp -implicitDefEqProofs only [R.bind_ok, R.of_some, R.mapE_ok, id_eq, R.bind_ok', R.bind_assoc, R.mapE_E, R.gR_bind]; done) | (simp -implicitDefEqProofs only [R.bind_ok, R.of_some, R.mapE_ok, id_eq, R.bind_ok', R.bind_assoc, R.mapE_E, R.gR_bind]; rfl) | (simp -implicitDefEqProofs only [R.bind_ok, R.of_some, R.mapE_ok, id_eq, R.bind_ok', R.bind_assoc, R.mapE_E]; rfl))
/-! ### _law_too_long -/
abbrev N__law_too_long : List Str := ["_law_state", "e"]
theorem sc__law_too_long : FnScope N__law_too_long ["_law_state"] (defScope s__law_too_long) := ⟨rfl, rfl, rfl, by decide +kernel, rfl, by decide +kernel, by decide +kernel⟩
abbrev sp__law_too_long (K : PySem.W.Frag) (mg : Str → Option Value) : Sp := spX mg (fun a : (Addr × (List Int)) => [muL (pinV a.1) tInt a.2]) (fun a => m__law_too_long a.2) (fun a r => val tBool r.1) (fun a r => [some (muL (pinV a.1) tInt r.2)]) (fun e : Empty => e.elim) (fun _ _ => [])
set_option maxHeartbeats 4000000 in
theorem ok__law_too_long {P : Program} {w : World} {K : PySem.W.Frag} {mg : Str → Option Value} {base : Heap} {f : Addr} {fd : FuncData} {dvs : List V} {kws : List (Str × V)} (T : Txt K mg) (F : FunD K "_law_too_long" "_law_too_long" (defArgs s__law_too_long) (defBody s__law_too_long) (defScope s__law_too_long) dvs kws f fd) (C__law_digit_k0 : CalB P w K mg base 1 (He.ga K "_law_digit") ["_law_state", "_law_many"] (sp__law_digit K mg) []) (C_frame_message_k0 : CalB P w K mg base 1 (He.ga K "frame_message") ["octets"] (sp_frame_message K mg) []) : FnOk P w K mg base (L2.CX P w) 2 f fd ["_law_state"] (sp__law_too_long K mg) := by
  obtain ⟨fd__law_digit_k0, ds__law_digit_k0, v__law_digit_k0, b__law_digit_k0, G__law_digit_k0⟩ := C__law_digit_k0
  obtain ⟨fd_frame_message_k0, ds_frame_message_k0, v_frame_message_k0, b_frame_message_k0, G_frame_message_k0⟩ := C_frame_message_k0
  refine F.ok sc__law_too_long (fun vs H Q E h => spX_len h fun _ => rfl) (fun cdv A outer s H vs Q Wx hr h => ?_)
  refine ⟨_, (pss_cons (ps_tryA (Wout := fun c d _ H => Wx c d H) (i := 1) rfl rfl (show N__law_too_long.Nodup by decide) rfl rfl ⟨by rfl, by decide, .inl T.gc_InvalidAmount⟩ (takes_of rfl rfl rfl rfl) (fun _ _ _ tkW _ => (pss_cons (ps_expr (pe_callSD G_frame_message_k0 (hr.mono (by decide)) (by rfl) T.gf_frame_message T.kf_frame_message b_frame_message_k0 v_frame_message_k0 (passAt tkW) (pa_cons (pe_op op_rep (pe_lst (pa_cons pe_int pa_nil)) (pe_op op_add pe_int (pe_callSD G__law_digit_k0 (hr.mono (by decide)) (by rfl) T.gf__law_digit T.kf__law_digit b__law_digit_k0 v__law_digit_k0 (passAt tkW) (pa_cons (pv 0) (pa_cons pe_int pa_nil))))) pa_nil)))
       pss_nil)) (fun aE oeE clsE dE pnE zE fE => (pss_cases (P := clsE = .ref (He.ga K "InvalidAmount") ∧ dE = none) (fun hE => (pss_one (ps_ret (pe_and (pe_callB (call_isEK (K := K) rfl T.exf_InvalidAmount (zc_to hE zE) fE) (by rfl) T.b_isinstance boot_isinstance (pa_cons (pv 1) (pa_cons (pe_glob (v := .ref (He.ga K "ThroughlineError")) (by rfl) T.gc_ThroughlineError rfl) pa_nil))) (pe_one (pe_not (pe_callB (call_isEK (K := K) rfl T.exf_InvalidAmount (zc_to hE zE) fE) (by rfl) T.b_isinstance boot_isinstance (pa_cons (pv 1) (pa_cons (pe_glob (v := .ref (He.ga K "InvalidFrame")) (by rfl) T.gc_InvalidFrame rfl) pa_nil))))))))) pss_false)))
       (pss_one (ps_ret pe_bl))), ?_⟩
  refine run_X (N := N__law_too_long) h (fun _ => Nat.le_of_ble_eq_true rfl) rfl (by
    intro a r k S h
    match k, h with
    | 0, h => cases h; exact ⟨.ref a.1, _, pin_mu, rfl, pin_mu⟩
    | (k + 1), h => simp at h) (by intros _ _ _ _ h; simp at h) ?_
  rintro ⟨p_state_, state_⟩ E0
  show BK _ _ [some (muL (pinV p_state_) tInt state_), none] _ (m__law_too_long state_) _
  exact bk_eq
    (bk_at [some (muL (pinV p_state_) tInt state_), none] (bk_then (eJ := fun (s301 : (List Int)) => [some (muL (pinV p_state_) tInt s301), none]) (hb := Empty.elim) (hc := Empty.elim) (hr := id) embO_R (bk_tryN (h := (fun (e_ : (XC × (List Int))) => XC.on ((((if true = true then R.ok (!false) else R.ok false)).bind fun r314 => R.ok (r314, e_.2)).bind fun r => R.ok (.ret r)) e_.1)) (i := 1) (ok' := fun (e : (XC × (List Int))) => ErrOk mg (XC.ex e.1)) (en' := fun (e_ : (XC × (List Int))) => [some (muL (pinV p_state_) tInt e_.2), none]) (fun _ => (bk_at [some (muL (pinV p_state_) tInt state_), none] (bk_expr (α := ((List Int) × (List Int))) (S := fun y313 => own tInt y313.1) (e1 := fun y313 => [some (muL (pinV p_state_) tInt y313.2), none]) (ex_call (δ := ((List Int) × (List Int))) (S := fun x => own tInt x.1) (e' := fun x => [some (muL (pinV p_state_) tInt x.2), none]) [.arg 0] 1 (fun us h => match us, h with | [_], _ => rfl) (ax_cons (ex_at (α := ((List Int) × (List Int))) (S := fun a311 => val (tL tInt) a311.1) (e' := fun a311 => [some (muL (pinV p_state_) tInt a311.2), none]) (by exact (ex_frz (α := ((List Int) × (List Int))) (q := fun x => vp (tL tInt) x.1) (by exact (ex_opEl (env := [some (muL (pinV p_state_) tInt state_), none]) (β := (Int × (List Int))) (Sb := fun (y308 : (Int × (List Int))) => val tInt y308.1) (e1 := fun (y308 : (Int × (List Int))) => [some (muL (pinV p_state_) tInt y308.2), none]) (δ := ((List Int) × (List Int))) (S := fun x => own tInt x.1) (e' := fun x => [some (muL (pinV p_state_) tInt x.2), none]) (fun y308 y310 => (y310, y308.2)) (ex_frz (q := fun x => vp (tL tInt) x) (ex_lst (T := tInt) (S := id) (e' := fun _ => [some (muL (pinV p_state_) tInt state_), none]) (ax_consq ex_int (ax_nil ⟨([(1 : Int)] : List Int), rfl, rfl, Nat.le_of_ble_eq_true rfl, rfl⟩))) fun _ => fz_mu) (by exact (ex_opEl (env := [some (muL (pinV p_state_) tInt state_), none]) (β := (Int × (List Int))) (Sb := fun (y305 : (Int × (List Int))) => val tInt y305.1) (e1 := fun (y305 : (Int × (List Int))) => [some (muL (pinV p_state_) tInt y305.2), none]) (δ := (Int × (List Int))) (S := fun x => val tInt x.1) (e' := fun x => [some (muL (pinV p_state_) tInt x.2), none]) (fun y305 y307 => (y307, y305.2)) ex_int (by exact (ex_call (δ := (Int × (List Int))) (S := fun x => val tInt x.1) (e' := fun x => [some (muL (pinV p_state_) tInt x.2), none]) [.arg 0, .arg 1] 2 (fun us h => match us, h with | [_, _], _ => rfl) (ax_cons (ex_ad rfl pin_mu) fun _ => (ax_cons ex_int fun a303 => (ax_nil ⟨rfl, ⟨(p_state_, state_), a303⟩, [⟨0, 0, muL (pinV p_state_) tInt state_, muL (pinV p_state_) tInt state_, .ref p_state_, fun B => B⟩], [], id, Empty.elim, (lok10 rfl (lens_id pin_mu)), ⟨.inr (.inl ⟨_, .head _, rfl, rfl, rfl⟩), .inl ⟨_, rfl, rfl⟩, trivial⟩, (all1 ⟨0, rfl, rfl⟩), wc_e (f := m__law_digit state_ a303), (fun _ _ _ _ _ h => h), (fun r304 => (fgt_c (fgt_n fgt_0))), (fun (e : Empty) => e.elim), (fun (e : Empty) => e.elim)⟩))))) fun y305 => o2_int0)) fun y308 => o2_rep)) fun _ => fz_mu))) fun a311 => (ax_nil ⟨rfl, a311.1, [], [], (fun r312 => (r312, a311.2)), (fun e => (e, a311.2)), lok00, ⟨.inl ⟨_, rfl, rfl⟩, trivial⟩, (fun n hn => nomatch hn), wc_eo (f := m_frame_message a311.1), (fun _ _ _ _ _ h => h), (fun r312 => (fgt_c (fgt_n fgt_0))), (fun _ _ _ _ h => h), ((fun _ => (fgt_c (fgt_n fgt_0))))⟩))) fun y313 => (bk_at [some (muL (pinV p_state_) tInt y313.2), none] (bl_nx (a := y313.2) (fgt_c (fgt_n fgt_0))))))) (fun _ => Nat.le_of_ble_eq_true rfl) (clr_L (by intro a S h; simp at h) (by intro a S h; simp at h)) (by
  intro e cls d F k
  obtain ⟨e, s_⟩ := e; cases e with
  | InvalidAmount =>
    have z := (show mg "InvalidAmount" = some cls from k.1).symm.trans T.gc_InvalidAmount
    cases z
    exact ⟨true, T.exm_InvalidAmount_InvalidAmount_true, fun _ aE => bk_caseL ⟨rfl, errOk_none k rfl⟩ ((bk_at [some (muL (pinV p_state_) tInt s_), some (val (tOC aE) ())] (bk_ret (emb := Out.ret) emb_L (ex_ev (δ := (Bool × (List Int))) (S := fun x => val tBool x.1) (e' := fun x => [some (muL (pinV p_state_) tInt x.2), some (val (tOC aE) ())]) (fun r314 => (r314, s_)) (ex_and (ex_as2 ht_cb2 (ex_opq (ex_var (i := 1) (T := (tOC aE)) rfl) ex_oc (o2_isEO T.kie_InvalidAmount_o_ThroughlineError_true))) (ex_notp (ex_as2 ht_cb2 (ex_opq (ex_var (i := 1) (T := (tOC aE)) rfl) ex_oc (o2_isEO T.kie_InvalidAmount_o_InvalidFrame_false)))))) (fun _ => (fgt_c fgt_nil))))), fun z => nomatch z⟩)) fun s301 => (bk_at [some (muL (pinV p_state_) tInt s301), none] (br_ret (ex_ev (δ := (Bool × (List Int))) (S := fun x => val tBool x.1) (e' := fun x => [some (muL (pinV p_state_) tInt x.2), none]) (fun r315 => (r315, s301)) ex_bl) (fun _ => (fgt_c fgt_nil))))))
    (by unfold m__law_too_long; first | (simp -implicitDefEqProofs only [R.bind_ok, R.of_some, R.mapE_ok, id_eq, R.bind_ok', R.mapE_E]; done) | (simp -implicitDefEqProofs only [R.bind_ok, R.of_some, R.mapE_ok, id_eq, R.bind_ok', R.bind_assoc, R.mapE_E]; done) | (simp -implicitDefEqProofs only [R.bind_ok, R.of_some, R.mapE_ok, id_eq, R.bind_ok', R.bind_assoc, R.mapE_E, R.gR_bind]; done) | (simp -implicitDefEqProofs only [R.bind_ok, R.of_some, R.mapE_ok, id_eq, R.bind_ok', R.bind_assoc, R.mapE_E, R.gR_bind]; rfl) | (simp -implicitDefEqProofs only [R.bind_ok, R.of_some, R.mapE_ok, id_eq, R.bind_ok', R.bind_assoc, R.mapE_E]; rfl))
/-! ### law -/
abbrev N_law : List Str := ["_law_script", "_law_state", "_law_many", "_law_messages", "_law_octets", "_law_k", "_law_message_here", "_law_given", "_law_told", "_law_end", "_law_reader", "_law_at", "_law_size", "_law_part", "_law_before", "_law_due", "_law_left"]
theorem sc_law : FnScope N_law ["_law_script"] (defScope s_law) := ⟨rfl, rfl, rfl, by decide +kernel, rfl, by decide +kernel, by decide +kernel⟩
abbrev sp_law (K : PySem.W.Frag) (mg : Str → Option Value) : Sp := spX mg (fun a : (List Int) => [val (tS K tInt) a]) (fun a => m_law a) (fun a r => val tBool r) (fun a r => []) (fun e : Empty => e.elim) (fun _ _ => [])
set_option maxHeartbeats 4000000 in
theorem ok_law {P : Program} {w : World} {K : PySem.W.Frag} {mg : Str → Option Value} {base : Heap} {f : Addr} {fd : FuncData} {dvs : List V} {kws : List (Str × V)} (T : Txt K mg) (F : FunD K "law" "law" (defArgs s_law) (defBody s_law) (defScope s_law) dvs kws f fd) (C_Messages_feed_k0 : CalB P w K mg base 2 (He.ma K (He.ga K "Messages") "feed") ["self", "octets"] (sp_Messages_feed K mg) []) (C_Messages_init_k0 : CalB P w K mg base 1 (He.ma K (He.ga K "Messages") "__init__") ["self"] (sp_Messages_init K mg) []) (C_Messages_pending_k0 : CalB P w K mg base 1 (pgA K (He.ga K "Messages") "pending") ["self"] (sp_Messages_pending K mg) []) (C__law_cell_k0 : CalB P w K mg base 1 (He.ga K "_law_cell") ["_law_script", "_law_k"] (sp__law_cell K mg) []) (C__law_digit_k0 : CalB P w K mg base 1 (He.ga K "_law_digit") ["_law_state", "_law_many"] (sp__law_digit K mg) []) (C__law_is_integer_k0 : CalB P w K mg base 1 (He.ga K "_law_is_integer") ["_law_told"] (sp__law_is_integer K mg) []) (C__law_message_k0 : CalB P w K mg base 2 (He.ga K "_law_message") ["_law_state", "_law_many"] (sp__law_message K mg) []) (C__law_same_k0 : CalB P w K mg base 2 (He.ga K "_law_same") ["_law_told", "_law_due"] (sp__law_same K mg) []) (C__law_start_k0 : CalB P w K mg base 1 (He.ga K "_law_start") ["_law_cell_here", "_law_k"] (sp__law_start K mg) []) (C__law_too_long_k0 : CalB P w K mg base 2 (He.ga K "_law_too_long") ["_law_state"] (sp__law_too_long K mg) []) (C__law_whole_k0 : CalB P w K mg base 1 (He.ga K "_law_whole") ["_law_messages", "_law_count"] (sp__law_whole K mg) []) (C_frame_message_k0 : CalB P w K mg base 1 (He.ga K "frame_message") ["octets"] (sp_frame_message K mg) []) : FnOk P w K mg base (L2.CX P w) 3 f fd ["_law_script"] (sp_law K mg) := by
  obtain ⟨fd_Messages_feed_k0, ds_Messages_feed_k0, v_Messages_feed_k0, b_Messages_feed_k0, G_Messages_feed_k0⟩ := C_Messages_feed_k0
  obtain ⟨fd_Messages_init_k0, ds_Messages_init_k0, v_Messages_init_k0, b_Messages_init_k0, G_Messages_init_k0⟩ := C_Messages_init_k0
  obtain ⟨fd_Messages_pending_k0, ds_Messages_pending_k0, v_Messages_pending_k0, b_Messages_pending_k0, G_Messages_pending_k0⟩ := C_Messages_pending_k0
  obtain ⟨fd__law_cell_k0, ds__law_cell_k0, v__law_cell_k0, b__law_cell_k0, G__law_cell_k0⟩ := C__law_cell_k0
  obtain ⟨fd__law_digit_k0, ds__law_digit_k0, v__law_digit_k0, b__law_digit_k0, G__law_digit_k0⟩ := C__law_digit_k0
  obtain ⟨fd__law_is_integer_k0, ds__law_is_integer_k0, v__law_is_integer_k0, b__law_is_integer_k0, G__law_is_integer_k0⟩ := C__law_is_integer_k0
  obtain ⟨fd__law_message_k0, ds__law_message_k0, v__law_message_k0, b__law_message_k0, G__law_message_k0⟩ := C__law_message_k0
  obtain ⟨fd__law_same_k0, ds__law_same_k0, v__law_same_k0, b__law_same_k0, G__law_same_k0⟩ := C__law_same_k0
  obtain ⟨fd__law_start_k0, ds__law_start_k0, v__law_start_k0, b__law_start_k0, G__law_start_k0⟩ := C__law_start_k0
  obtain ⟨fd__law_too_long_k0, ds__law_too_long_k0, v__law_too_long_k0, b__law_too_long_k0, G__law_too_long_k0⟩ := C__law_too_long_k0
  obtain ⟨fd__law_whole_k0, ds__law_whole_k0, v__law_whole_k0, b__law_whole_k0, G__law_whole_k0⟩ := C__law_whole_k0
  obtain ⟨fd_frame_message_k0, ds_frame_message_k0, v_frame_message_k0, b_frame_message_k0, G_frame_message_k0⟩ := C_frame_message_k0
  refine F.ok sc_law (fun vs H Q E h => spX_len h fun _ => rfl) (fun cdv A outer s H vs Q Wx hr h => ?_)
  refine ⟨_, (pss_cons (ps_set (i := 1) sc_law.nd rfl (.inl rfl) (pe_callSD G__law_start_k0 (hr.mono (by decide)) (by rfl) T.gf__law_start T.kf__law_start b__law_start_k0 v__law_start_k0 (passAt (W := fun c d _ H => Wx c d H) (takes_of rfl rfl rfl rfl)) (pa_cons (pe_callSD G__law_cell_k0 (hr.mono (by decide)) (by rfl) T.gf__law_cell T.kf__law_cell b__law_cell_k0 v__law_cell_k0 (passAt (W := fun c d _ H => Wx c d H) (takes_of rfl rfl rfl rfl)) (pa_cons (pv 0) (pa_cons pe_int pa_nil))) (pa_cons pe_int pa_nil))))
       (pss_cons (ps_set (i := 2) sc_law.nd rfl (.inl rfl) (pe_ix (ix_tupK (K := K) rfl) (pe_tup (pa_cons pe_int (pa_cons pe_int pa_nil))) (pe_callTy call_int1 (by rfl) T.b_int boot_int (pa_cons (pe_cmpR op_eq (pe_callSD G__law_digit_k0 (hr.mono (by decide)) (by rfl) T.gf__law_digit T.kf__law_digit b__law_digit_k0 v__law_digit_k0 (passAt (W := fun c d _ H => Wx c d H) (takes_of rfl rfl rfl rfl)) (pa_cons (pv 1) (pa_cons pe_int pa_nil))) pe_int (nomark _)) pa_nil)) (fun _ _ => rfl)))
       (pss_cons (ps_set (i := 3) sc_law.nd rfl (.inl rfl) (pe_lst pa_nil))
       (pss_cons (ps_set (i := 4) sc_law.nd rfl (.inl rfl) (pe_lst pa_nil))
       (pss_cons (ps_for (passes_of rfl) rfl (pi_range1 (by rfl) T.b_range (pa_cons (pe_callSD G__law_digit_k0 (hr.mono (by decide)) (by rfl) T.gf__law_digit T.kf__law_digit b__law_digit_k0 v__law_digit_k0 (passAt (W := fun c d _ H => Wx c d H) (takes_of rfl rfl rfl rfl)) (pa_cons (pv 1) (pa_cons pe_int pa_nil))) pa_nil)) (pg_name (i := 5) sc_law.nd rfl (.inl rfl))
       (pss_cons (ps_set (i := 6) sc_law.nd rfl (.inl rfl) (pe_callSD G__law_message_k0 (hr.mono (by decide)) (by rfl) T.gf__law_message T.kf__law_message b__law_message_k0 v__law_message_k0 (passAt (W := fun c d _ H => Wx c d H) (takes_of rfl rfl rfl rfl)) (pa_cons (pe_callSD G__law_start_k0 (hr.mono (by decide)) (by rfl) T.gf__law_start T.kf__law_start b__law_start_k0 v__law_start_k0 (passAt (W := fun c d _ H => Wx c d H) (takes_of rfl rfl rfl rfl)) (pa_cons (pe_callSD G__law_cell_k0 (hr.mono (by decide)) (by rfl) T.gf__law_cell T.kf__law_cell b__law_cell_k0 v__law_cell_k0 (passAt (W := fun c d _ H => Wx c d H) (takes_of rfl rfl rfl rfl)) (pa_cons (pv 0) (pa_cons (pe_op op_add pe_int (pv 5)) pa_nil))) (pa_cons (pv 5) pa_nil))) (pa_cons (pv 2) pa_nil))))
       (pss_cons (ps_set (i := 7) sc_law.nd rfl (.inl rfl) (pe_callTy (call_list_ofK (K := K) rfl) (by rfl) T.b_list boot_list (pa_cons (pv 6) pa_nil)))
       (pss_cons (ps_set (i := 8) sc_law.nd rfl (.inl rfl) (pe_callSD (FnOk.drop G_frame_message_k0) (hr.mono (by decide)) (by rfl) T.gf_frame_message T.kf_frame_message b_frame_message_k0 v_frame_message_k0 (passAt (W := fun c d _ H => Wx c d H) (takes_of rfl rfl rfl rfl)) (pa_cons (pv 7) pa_nil)))
       (pss_cons (ps_expr (pe_bm PySem.F.plainAttrs_list PySem.F.slot_list_append PySem.F.type_list_append mt_append (pv 7) (pa_cons pe_int pa_nil)))
       (pss_cons (ps_if (PW.pt (pw_or (pt_not (pt_val (pe_callB (call_isiKK (K := K) rfl) (by rfl) T.b_isinstance boot_isinstance (pa_cons (pv 8) (pa_cons (pe_bltn (v := .ty "list") (by rfl) T.b_list boot_list rfl) pa_nil))))) (pw_or1 (pt_cmpR (op_neDK (K := K) rfl hr.units) (pv 8) (pe_op op_cat (pe_lst (pa_cons (pe_op op_fdiv (pe_callB (call_len_seqK (K := K) rfl) (by rfl) T.b_len boot_len (pa_cons (pv 6) pa_nil)) pe_int) (pa_cons (pe_op op_mod (pe_callTy call_int1 (by rfl) T.b_int boot_int (pa_cons (pe_callB (call_len_seqK (K := K) rfl) (by rfl) T.b_len boot_len (pa_cons (pv 6) pa_nil)) pa_nil)) pe_int) pa_nil))) (pv 6)) (nomark _)))))
       (pss_one (ps_ret pe_bl))
       pss_nil)
       (pss_cons (ps_expr (pe_bm PySem.F.plainAttrs_list PySem.F.slot_list_append PySem.F.type_list_append mt_append (pv 3) (pa_cons (pv 6) pa_nil)))
       (pss_cons (ps_set (i := 4) sc_law.nd rfl (.inl rfl) (pe_op op_cat (pv 4) (pv 8)))
       pss_nil))))))))
       (pss_cons (ps_set (i := 9) sc_law.nd rfl (.inl rfl) (pe_callB (call_len_seqK (K := K) rfl) (by rfl) T.b_len boot_len (pa_cons (pv 4) pa_nil)))
       (pss_cons (ps_if (pt_cmpR op_eq (pe_callSD G__law_digit_k0 (hr.mono (by decide)) (by rfl) T.gf__law_digit T.kf__law_digit b__law_digit_k0 v__law_digit_k0 (passAt (W := fun c d _ H => Wx c d H) (takes_of rfl rfl rfl rfl)) (pa_cons (pv 1) (pa_cons pe_int pa_nil))) pe_int (nomark _))
       (pss_cons (ps_set (i := 9) sc_law.nd rfl (.inl rfl) (pe_callSD G__law_digit_k0 (hr.mono (by decide)) (by rfl) T.gf__law_digit T.kf__law_digit b__law_digit_k0 v__law_digit_k0 (passAt (W := fun c d _ H => Wx c d H) (takes_of rfl rfl rfl rfl)) (pa_cons (pv 1) (pa_cons (pe_op op_add (pe_callB (call_len_seqK (K := K) rfl) (by rfl) T.b_len boot_len (pa_cons (pv 4) pa_nil)) pe_int) pa_nil))))
       pss_nil)
       pss_nil)
       (pss_cons (ps_set (i := 10) sc_law.nd rfl (.inl rfl) (pe_makeSD0 T.mk_Messages G_Messages_init_k0 (hr.mono (by decide)) (by rfl) T.gc_Messages b_Messages_init_k0 v_Messages_init_k0 (passAt (W := fun c d _ H => Wx c d H) (takes_of rfl rfl rfl rfl))))
       (pss_cons (ps_set (i := 1) sc_law.nd rfl (.inl rfl) (pe_callSD G__law_start_k0 (hr.mono (by decide)) (by rfl) T.gf__law_start T.kf__law_start b__law_start_k0 v__law_start_k0 (passAt (W := fun c d _ H => Wx c d H) (takes_of rfl rfl rfl rfl)) (pa_cons (pe_callSD G__law_cell_k0 (hr.mono (by decide)) (by rfl) T.gf__law_cell T.kf__law_cell b__law_cell_k0 v__law_cell_k0 (passAt (W := fun c d _ H => Wx c d H) (takes_of rfl rfl rfl rfl)) (pa_cons (pv 0) (pa_cons pe_int pa_nil))) (pa_cons pe_int pa_nil))))
       (pss_cons (ps_set (i := 11) sc_law.nd rfl (.inl rfl) pe_int)
       (pss_cons (ps_for (passes_of rfl) rfl (pi_range1 (by rfl) T.b_range (pa_cons pe_int pa_nil)) (pg_name (i := 5) sc_law.nd rfl (.inl rfl))
       (pss_cons (ps_set (i := 12) sc_law.nd rfl (.inl rfl) (pe_callSD G__law_digit_k0 (hr.mono (by decide)) (by rfl) T.gf__law_digit T.kf__law_digit b__law_digit_k0 v__law_digit_k0 (passAt (W := fun c d _ H => Wx c d H) (takes_of rfl rfl rfl rfl)) (pa_cons (pv 1) (pa_cons (pe_ix (ix_tupK (K := K) rfl) (pe_tup (pa_cons pe_int (pa_cons pe_int (pa_cons (pe_op op_add (pe_op op_sub (pv 9) (pv 11)) pe_int) pa_nil)))) (pe_callSD G__law_digit_k0 (hr.mono (by decide)) (by rfl) T.gf__law_digit T.kf__law_digit b__law_digit_k0 v__law_digit_k0 (passAt (W := fun c d _ H => Wx c d H) (takes_of rfl rfl rfl rfl)) (pa_cons (pv 1) (pa_cons pe_int pa_nil))) (fun _ _ => rfl)) pa_nil))))
       (pss_cons (ps_if (pt_cmpR op_eq (pv 5) pe_int (nomark _))
       (pss_cons (ps_set (i := 12) sc_law.nd rfl (.inl rfl) (pe_op op_sub (pv 9) (pv 11)))
       pss_nil)
       pss_nil)
       (pss_cons (ps_set (i := 13) sc_law.nd rfl (.inl rfl) (pe_slice (sl_listK (K := K) rfl) (pv 4) (po_some (pv 11)) (po_some (pe_callB (call_min2 rfl) (by rfl) T.b_min boot_min (pa_cons (pe_op op_add (pv 11) (pv 12)) (pa_cons (pv 9) pa_nil))))))
       (pss_cons (ps_set (i := 14) sc_law.nd rfl (.inl rfl) (pe_callSD G__law_whole_k0 (hr.mono (by decide)) (by rfl) T.gf__law_whole T.kf__law_whole b__law_whole_k0 v__law_whole_k0 (passAt (W := fun c d _ H => Wx c d H) (takes_of rfl rfl rfl rfl)) (pa_cons (pv 3) (pa_cons (pv 11) pa_nil))))
       (pss_cons (ps_set (i := 11) sc_law.nd rfl (.inl rfl) (pe_op op_add (pv 11) (pe_callB (call_len_seqK (K := K) rfl) (by rfl) T.b_len boot_len (pa_cons (pv 13) pa_nil))))
       (pss_cons (ps_set (i := 15) sc_law.nd rfl (.inl rfl) (pe_slice (sl_listK (K := K) rfl) (pe_callSD G__law_whole_k0 (hr.mono (by decide)) (by rfl) T.gf__law_whole T.kf__law_whole b__law_whole_k0 v__law_whole_k0 (passAt (W := fun c d _ H => Wx c d H) (takes_of rfl rfl rfl rfl)) (pa_cons (pv 3) (pa_cons (pv 11) pa_nil))) (po_some (pe_callB (call_len_seqK (K := K) rfl) (by rfl) T.b_len boot_len (pa_cons (pv 14) pa_nil))) po_none))
       (pss_cons (ps_set (i := 8) sc_law.nd rfl (.inl rfl) (pe_methSD (pv 10) T.cls_Messages T.mt_Messages_feed G_Messages_feed_k0 (hr.mono (by decide)) b_Messages_feed_k0 v_Messages_feed_k0 (passAt (W := fun c d _ H => Wx c d H) (takes_of rfl rfl rfl rfl)) (pa_cons (pv 13) pa_nil)))
       (pss_cons (ps_expr (pe_bm PySem.F.plainAttrs_list PySem.F.slot_list_append PySem.F.type_list_append mt_append (pv 13) (pa_cons pe_int pa_nil)))
       (pss_cons (ps_set (i := 16) sc_law.nd rfl (.inl rfl) (pe_op op_sub (pv 11) (pe_callB (cr_sumK (K := K) rfl) (by rfl) T.b_sum boot_sum (pa_cons (pe_lc (own := [("_law_message_here", 6)]) rfl sc_law.nd (pi_listK (K := K) rfl (pe_callSD G__law_whole_k0 (hr.mono (by decide)) (by rfl) T.gf__law_whole T.kf__law_whole b__law_whole_k0 v__law_whole_k0 (passAt (W := fun c d _ H => Wx c d H) (takes_of rfl rfl rfl rfl)) (pa_cons (pv 3) (pa_cons (pv 11) pa_nil)))) (blkOk_by (own := [("_law_message_here", 6)]) (N := N_law) (sc := defScope s_law) (by decide +kernel)) (fun _ _ _ _ _ => (pg_name (i := 6) sc_law.nd rfl (.inl rfl))) (fun _ _ _ _ _ => pts_nil) (fun _ _ _ _ _ => (pe_op op_add (pe_callB (call_len_seqK (K := K) rfl) (by rfl) T.b_len boot_len (pa_cons (pv 6) pa_nil)) pe_int))) pa_nil))))
       (pss_one (ps_if (PW.pt (pw_or (pt_not (pt_val (pe_callSD G__law_same_k0 (hr.mono (by decide)) (by rfl) T.gf__law_same T.kf__law_same b__law_same_k0 v__law_same_k0 (passAt (W := fun c d _ H => Wx c d H) (takes_of rfl rfl rfl rfl)) (pa_cons (pv 8) (pa_cons (pv 15) pa_nil))))) (pw_or (pt_not (pt_val (pe_callSD G__law_is_integer_k0 (hr.mono (by decide)) (by rfl) T.gf__law_is_integer T.kf__law_is_integer b__law_is_integer_k0 v__law_is_integer_k0 (passAt (W := fun c d _ H => Wx c d H) (takes_of rfl rfl rfl rfl)) (pa_cons (pe_prop (pv 10) T.cls_Messages T.pr_Messages_pending G_Messages_pending_k0 (hr.mono (by decide)) b_Messages_pending_k0 v_Messages_pending_k0 passL rfl) pa_nil)))) (pw_or1 (pt_cmpR op_ne (pe_prop (pv 10) T.cls_Messages T.pr_Messages_pending G_Messages_pending_k0 (hr.mono (by decide)) b_Messages_pending_k0 v_Messages_pending_k0 passL rfl) (pv 16) (nomark _))))))
       (pss_one (ps_ret pe_bl))
       pss_nil))))))))))))
       (pss_one (ps_ret (pe_or (pe_cmpR op_gt (pe_callSD G__law_digit_k0 (hr.mono (by decide)) (by rfl) T.gf__law_digit T.kf__law_digit b__law_digit_k0 v__law_digit_k0 (passAt (W := fun c d _ H => Wx c d H) (takes_of rfl rfl rfl rfl)) (pa_cons (pv 1) (pa_cons pe_int pa_nil))) pe_int (nomark _)) (pe_one (pe_callSD G__law_too_long_k0 (hr.mono (by decide)) (by rfl) T.gf__law_too_long T.kf__law_too_long b__law_too_long_k0 v__law_too_long_k0 (passAt (W := fun c d _ H => Wx c d H) (takes_of rfl rfl rfl rfl)) (pa_cons (pv 1) pa_nil))))))))))))))))), ?_⟩
  refine run_X (N := N_law) h (fun _ => Nat.le_of_ble_eq_true rfl) rfl (by intros _ _ _ _ h; simp at h) (by intros _ _ _ _ h; simp at h) ?_
  rintro script E0
  show BK _ _ [some (val (tS K tInt) script), none, none, none, none, none, none, none, none, none, none, none, none, none, none, none, none] _ (m_law script) _
  exact bk_eq
    (bk_at [some (val (tS K tInt) script), none, none, none, none, none, none, none, none, none, none, none, none, none, none, none, none] (bk_asg (α := (List Int)) (S := fun state__22 => own tInt state__22) (e1 := fun state__22 => [some (val (tS K tInt) script), none, none, none, none, none, none, none, none, none, none, none, none, none, none, none, none]) (ex_call (δ := (List Int)) (S := fun x => own tInt x) (e' := fun _ => [some (val (tS K tInt) script), none, none, none, none, none, none, none, none, none, none, none, none, none, none, none, none]) [.arg 0, .arg 1] 2 (fun us h => match us, h with | [_, _], _ => rfl) (ax_cons (ex_call (δ := Int) (S := fun x => val tInt x) (e' := fun _ => [some (val (tS K tInt) script), none, none, none, none, none, none, none, none, none, none, none, none, none, none, none, none]) [.arg 0, .arg 1] 2 (fun us h => match us, h with | [_, _], _ => rfl) (ax_cons (ex_var (i := 0) (T := (tS K tInt)) rfl) fun a16 => (ax_cons ex_int fun a17 => (ax_nil ⟨rfl, ⟨a16, a17⟩, [], [], id, id, lok00, ⟨.inl ⟨_, rfl, rfl⟩, .inl ⟨_, rfl, rfl⟩, trivial⟩, (fun n hn => nomatch hn), wc_id (f := m__law_cell a16 a17), (fun _ _ _ _ _ h => h), (fun r18 => (fgt_c (fgt_n (fgt_n (fgt_n (fgt_n (fgt_n (fgt_n (fgt_n (fgt_n (fgt_n (fgt_n (fgt_n (fgt_n (fgt_n (fgt_n (fgt_n (fgt_n fgt_0)))))))))))))))))), (fun (e : Empty) => e.elim), (fun (e : Empty) => e.elim)⟩)))) fun a19 => (ax_cons ex_int fun a20 => (ax_nil ⟨rfl, ⟨a19, a20⟩, [], [], id, id, lok00, ⟨.inl ⟨_, rfl, rfl⟩, .inl ⟨_, rfl, rfl⟩, trivial⟩, (fun n hn => nomatch hn), wc_id (f := m__law_start a19 a20), (fun _ _ _ _ _ h => h), (fun r21 => (fgt_c (fgt_n (fgt_n (fgt_n (fgt_n (fgt_n (fgt_n (fgt_n (fgt_n (fgt_n (fgt_n (fgt_n (fgt_n (fgt_n (fgt_n (fgt_n (fgt_n fgt_0)))))))))))))))))), (fun (e : Empty) => e.elim), (fun (e : Empty) => e.elim)⟩)))) fun state__22 => (bk_at [some (val (tS K tInt) script), some (muL yes tInt state__22), none, none, none, none, none, none, none, none, none, none, none, none, none, none, none] (bk_asg (α := (Int × (List Int))) (S := fun many_43 => val tInt many_43.1) (e1 := fun many_43 => [some (val (tS K tInt) script), some (muL yes tInt many_43.2), none, none, none, none, none, none, none, none, none, none, none, none, none, none, none]) (ex_opEl (env := [some (val (tS K tInt) script), some (muL yes tInt state__22), none, none, none, none, none, none, none, none, none, none, none, none, none, none, none]) (β := (Int × (List Int))) (Sb := fun (y40 : (Int × (List Int))) => val tInt y40.1) (e1 := fun (y40 : (Int × (List Int))) => [some (val (tS K tInt) script), some (muL yes tInt y40.2), none, none, none, none, none, none, none, none, none, none, none, none, none, none, none]) (δ := (Int × (List Int))) (S := fun x => val tInt x.1) (e' := fun x => [some (val (tS K tInt) script), some (muL yes tInt x.2), none, none, none, none, none, none, none, none, none, none, none, none, none, none, none]) (fun y40 y42 => (y42, y40.2)) (ex_tupU (T := tInt) (S := id) (e' := fun _ => [some (val (tS K tInt) script), some (muL yes tInt state__22), none, none, none, none, none, none, none, none, none, none, none, none, none, none, none]) (ax_consq ex_int (ax_consq ex_int (ax_nil ⟨([(10 : Int), (701 : Int)] : List Int), rfl, rfl, Nat.le_of_ble_eq_true rfl, rfl⟩)))) (by exact (ex_1E (α := (Bool × (List Int))) (e1 := fun (y38 : (Bool × (List Int))) => [some (val (tS K tInt) script), some (muL yes tInt y38.2), none, none, none, none, none, none, none, none, none, none, none, none, none, none, none]) (δ := (Int × (List Int))) (S := fun x => val tInt x.1) (e' := fun x => [some (val (tS K tInt) script), some (muL yes tInt x.2), none, none, none, none, none, none, none, none, none, none, none, none, none, none, none]) (fun y38 y39 => (y39, y38.2)) ht_cb1 (by exact (ex_opE (α := (Int × (List Int))) (β := Int) (Sa := fun (y35 : (Int × (List Int))) => val tInt y35.1) (Sb := fun (y35 : (Int × (List Int))) (y36 : Int) => val tInt y36) (e1 := fun (y35 : (Int × (List Int))) => [some (val (tS K tInt) script), some (muL yes tInt y35.2), none, none, none, none, none, none, none, none, none, none, none, none, none, none, none]) (e2 := fun (y35 : (Int × (List Int))) (y36 : Int) => [some (val (tS K tInt) script), some (muL yes tInt y35.2), none, none, none, none, none, none, none, none, none, none, none, none, none, none, none]) (δ := (Bool × (List Int))) (S := fun x => val tBool x.1) (e' := fun x => [some (val (tS K tInt) script), some (muL yes tInt x.2), none, none, none, none, none, none, none, none, none, none, none, none, none, none, none]) (fun y35 y36 y37 => (y37, y35.2)) (by exact (ex_pin (S' := fun p32 => muL (pinV p32) tInt state__22) 1 rfl pn_mu fun p32 => (ex_call (δ := (Int × (List Int))) (S := fun x => val tInt x.1) (e' := fun x => [some (val (tS K tInt) script), some (muL yes tInt x.2), none, none, none, none, none, none, none, none, none, none, none, none, none, none, none]) [.arg 0, .arg 1] 2 (fun us h => match us, h with | [_, _], _ => rfl) (ax_cons (ex_ad rfl pin_mu) fun _ => (ax_cons ex_int fun a33 => (ax_nil ⟨rfl, ⟨(p32, state__22), a33⟩, [⟨1, 0, muL (pinV p32) tInt state__22, muL (pinV p32) tInt state__22, .ref p32, fun B => B⟩], [], id, id, (lok10 rfl (lens_id pin_mu)), ⟨.inr (.inl ⟨_, .head _, rfl, rfl, rfl⟩), .inl ⟨_, rfl, rfl⟩, trivial⟩, (all1 ⟨0, rfl, rfl⟩), wc_id (f := m__law_digit state__22 a33), (fun _ _ _ _ _ h => h), (fun r34 => (fgt_c (fgt_w unpin_mu (fgt_n (fgt_n (fgt_n (fgt_n (fgt_n (fgt_n (fgt_n (fgt_n (fgt_n (fgt_n (fgt_n (fgt_n (fgt_n (fgt_n (fgt_n fgt_0)))))))))))))))))), (fun (e : Empty) => e.elim), (fun (e : Empty) => e.elim)⟩)))))) (fun y35 => (by exact ex_int)) fun y35 y36 => o2_eqI)) fun y38 => o1_intB)) fun y40 => o2_ixU) fun many_43 => (bk_at [some (val (tS K tInt) script), some (muL yes tInt many_43.2), some (val tInt many_43.1), none, none, none, none, none, none, none, none, none, none, none, none, none, none] (bk_asg (α := (List (List Int))) (S := fun messages_44 => own (tL tInt) messages_44) (e1 := fun messages_44 => [some (val (tS K tInt) script), some (muL yes tInt many_43.2), some (val tInt many_43.1), none, none, none, none, none, none, none, none, none, none, none, none, none, none]) (ex_lst (T := (tL tInt)) (S := id) (e' := fun _ => [some (val (tS K tInt) script), some (muL yes tInt many_43.2), some (val tInt many_43.1), none, none, none, none, none, none, none, none, none, none, none, none, none, none]) (ax_nil ⟨([] : List (List Int)), rfl, rfl, Nat.le_of_ble_eq_true rfl, rfl⟩)) fun messages_44 => (bk_at [some (val (tS K tInt) script), some (muL yes tInt many_43.2), some (val tInt many_43.1), some (muL yes (tL tInt) messages_44), none, none, none, none, none, none, none, none, none, none, none, none, none] (bk_asg (α := (List Int)) (S := fun octets_45 => own tInt octets_45) (e1 := fun octets_45 => [some (val (tS K tInt) script), some (muL yes tInt many_43.2), some (val tInt many_43.1), some (muL yes (tL tInt) messages_44), none, none, none, none, none, none, none, none, none, none, none, none, none]) (ex_lst (T := tInt) (S := id) (e' := fun _ => [some (val (tS K tInt) script), some (muL yes tInt many_43.2), some (val tInt many_43.1), some (muL yes (tL tInt) messages_44), none, none, none, none, none, none, none, none, none, none, none, none, none]) (ax_nil ⟨([] : List Int), rfl, rfl, Nat.le_of_ble_eq_true rfl, rfl⟩)) fun octets_45 => (bk_at [some (val (tS K tInt) script), some (muL yes tInt many_43.2), some (val tInt many_43.1), some (muL yes (tL tInt) messages_44), some (muL yes tInt octets_45), none, none, none, none, none, none, none, none, none, none, none, none] (bk_forL (eL := fun c50 (s51 : (List (List Int)) × (List Int)) => [some (val (tS K tInt) script), some (muL yes tInt c50.1.2), some (val tInt many_43.1), some (muL yes (tL tInt) s51.1), some (muL yes tInt s51.2), none, none, none, none, none, none, none, none, none, none, none, none]) (s0 := fun c50 => (messages_44, octets_45)) (eX := fun c50 x52 (s51 : (List (List Int)) × (List Int)) => [some (val (tS K tInt) script), some (muL yes tInt c50.1.2), some (val tInt many_43.1), some (muL yes (tL tInt) s51.1), some (muL yes tInt s51.2), some (val tInt x52), none, none, none, none, none, none, none, none, none, none, none]) (emb := id) emb_R (ix_R1 (δ := (Int × (List Int))) (n := fun c => c.1) (e' := fun x => [some (val (tS K tInt) script), some (muL yes tInt x.2), some (val tInt many_43.1), some (muL yes (tL tInt) messages_44), some (muL yes tInt octets_45), none, none, none, none, none, none, none, none, none, none, none, none]) (ex_pin (S' := fun p46 => muL (pinV p46) tInt many_43.2) 1 rfl pn_mu fun p46 => (ex_call (δ := (Int × (List Int))) (S := fun x => val tInt x.1) (e' := fun x => [some (val (tS K tInt) script), some (muL yes tInt x.2), some (val tInt many_43.1), some (muL yes (tL tInt) messages_44), some (muL yes tInt octets_45), none, none, none, none, none, none, none, none, none, none, none, none]) [.arg 0, .arg 1] 2 (fun us h => match us, h with | [_, _], _ => rfl) (ax_cons (ex_ad rfl pin_mu) fun _ => (ax_cons ex_int fun a47 => (ax_nil ⟨rfl, ⟨(p46, many_43.2), a47⟩, [⟨1, 0, muL (pinV p46) tInt many_43.2, muL (pinV p46) tInt many_43.2, .ref p46, fun B => B⟩], [], id, id, (lok10 rfl (lens_id pin_mu)), ⟨.inr (.inl ⟨_, .head _, rfl, rfl, rfl⟩), .inl ⟨_, rfl, rfl⟩, trivial⟩, (all1 ⟨0, rfl, rfl⟩), wc_id (f := m__law_digit many_43.2 a47), (fun _ _ _ _ _ h => h), (fun r48 => (fgt_c (fgt_w unpin_mu (fgt_c (fgt_c (fgt_c (fgt_n (fgt_n (fgt_n (fgt_n (fgt_n (fgt_n (fgt_n (fgt_n (fgt_n (fgt_n (fgt_n (fgt_n fgt_0)))))))))))))))))), (fun (e : Empty) => e.elim), (fun (e : Empty) => e.elim)⟩)))))) (fun c50 => (fgt_c (fgt_c (fgt_c (fgt_c (fgt_c (fgt_n (fgt_n (fgt_n (fgt_n (fgt_n (fgt_n (fgt_n (fgt_n (fgt_n (fgt_n (fgt_n (fgt_n fgt_0)))))))))))))))))) (fun c50 x52 s51 => (as_name)) (fun c50 x52 s51 => (bk_at [some (val (tS K tInt) script), some (muL yes tInt c50.1.2), some (val tInt many_43.1), some (muL yes (tL tInt) s51.1), some (muL yes tInt s51.2), some (val tInt x52), none, none, none, none, none, none, none, none, none, none, none] (bk_asg (α := (List Int)) (S := fun message_here_74 => val (tL tInt) message_here_74) (e1 := fun message_here_74 => [some (val (tS K tInt) script), some (muL yes tInt c50.1.2), some (val tInt many_43.1), some (muL yes (tL tInt) s51.1), some (muL yes tInt s51.2), some (val tInt x52), none, none, none, none, none, none, none, none, none, none, none]) (ex_frz (q := fun x => vp (tL tInt) x) (ex_call (δ := (List Int)) (S := fun x => own tInt x) (e' := fun _ => [some (val (tS K tInt) script), some (muL yes tInt c50.1.2), some (val tInt many_43.1), some (muL yes (tL tInt) s51.1), some (muL yes tInt s51.2), some (val tInt x52), none, none, none, none, none, none, none, none, none, none, none]) [.arg 0, .arg 1] 2 (fun us h => match us, h with | [_, _], _ => rfl) (ax_consP (S' := fun a70 p71 => muL (pinV p71) tInt a70) (ex_call (δ := (List Int)) (S := fun x => own tInt x) (e' := fun _ => [some (val (tS K tInt) script), some (muL yes tInt c50.1.2), some (val tInt many_43.1), some (muL yes (tL tInt) s51.1), some (muL yes tInt s51.2), some (val tInt x52), none, none, none, none, none, none, none, none, none, none, none]) [.arg 0, .arg 1] 2 (fun us h => match us, h with | [_, _], _ => rfl) (ax_cons (ex_call (δ := Int) (S := fun x => val tInt x) (e' := fun _ => [some (val (tS K tInt) script), some (muL yes tInt c50.1.2), some (val tInt many_43.1), some (muL yes (tL tInt) s51.1), some (muL yes tInt s51.2), some (val tInt x52), none, none, none, none, none, none, none, none, none, none, none]) [.arg 0, .arg 1] 2 (fun us h => match us, h with | [_, _], _ => rfl) (ax_cons (ex_var (i := 0) (T := (tS K tInt)) rfl) fun a64 => (ax_cons (ex_opq ex_int (ex_var (i := 5) (T := tInt) rfl) o2_int0) fun a65 => (ax_nil ⟨rfl, ⟨a64, a65⟩, [], [], id, id, lok00, ⟨.inl ⟨_, rfl, rfl⟩, .inl ⟨_, rfl, rfl⟩, trivial⟩, (fun n hn => nomatch hn), wc_id (f := m__law_cell a64 a65), (fun _ _ _ _ _ h => h), (fun r66 => (fgt_c (fgt_c (fgt_c (fgt_c (fgt_c (fgt_c (fgt_n (fgt_n (fgt_n (fgt_n (fgt_n (fgt_n (fgt_n (fgt_n (fgt_n (fgt_n (fgt_n fgt_0)))))))))))))))))), (fun (e : Empty) => e.elim), (fun (e : Empty) => e.elim)⟩)))) fun a67 => (ax_cons (ex_var (i := 5) (T := tInt) rfl) fun a68 => (ax_nil ⟨rfl, ⟨a67, a68⟩, [], [], id, id, lok00, ⟨.inl ⟨_, rfl, rfl⟩, .inl ⟨_, rfl, rfl⟩, trivial⟩, (fun n hn => nomatch hn), wc_id (f := m__law_start a67 a68), (fun _ _ _ _ _ h => h), (fun r69 => (fgt_c (fgt_c (fgt_c (fgt_c (fgt_c (fgt_c (fgt_n (fgt_n (fgt_n (fgt_n (fgt_n (fgt_n (fgt_n (fgt_n (fgt_n (fgt_n (fgt_n fgt_0)))))))))))))))))), (fun (e : Empty) => e.elim), (fun (e : Empty) => e.elim)⟩)))) (fun _ => pn_mu) fun a70 p71 => (ax_cons (ex_var (i := 2) (T := tInt) rfl) fun a72 => (ax_nil ⟨rfl, ⟨(p71, a70), a72⟩, [], [(0, 0)], (fun r73 => r73.1), id, (lokG nd0 nd0 (fun n hn => nomatch hn) (nd1 (a := 0)) (nd1 (a := 0)) (fun _ h => no_mem h)), ⟨.inr (.inr ⟨.head _, rfl⟩), .inl ⟨_, rfl, rfl⟩, trivial⟩, (fun n hn => nomatch hn), wc_o (f := m__law_message a70 a72), (fun _ _ _ _ _ h => h), (fun r73 => (fgt_c (fgt_c (fgt_c (fgt_c (fgt_c (fgt_c (fgt_n (fgt_n (fgt_n (fgt_n (fgt_n (fgt_n (fgt_n (fgt_n (fgt_n (fgt_n (fgt_n fgt_0)))))))))))))))))), (fun (e : Empty) => e.elim), (fun (e : Empty) => e.elim)⟩)))) fun _ => fz_mu) fun message_here_74 => (bk_at [some (val (tS K tInt) script), some (muL yes tInt c50.1.2), some (val tInt many_43.1), some (muL yes (tL tInt) s51.1), some (muL yes tInt s51.2), some (val tInt x52), some (val (tL tInt) message_here_74), none, none, none, none, none, none, none, none, none, none] (bk_asg (α := (List Int)) (S := fun given_75 => own tInt given_75) (e1 := fun given_75 => [some (val (tS K tInt) script), some (muL yes tInt c50.1.2), some (val tInt many_43.1), some (muL yes (tL tInt) s51.1), some (muL yes tInt s51.2), some (val tInt x52), some (val (tL tInt) message_here_74), none, none, none, none, none, none, none, none, none, none]) (ex_1q (a := message_here_74) (Sa := fun x => val (tL tInt) x) (c := message_here_74) (S := fun x => own tInt x) ht_cb1 (ex_var (i := 6) (T := (tL tInt)) rfl) o1_listL) fun given_75 => (bk_at [some (val (tS K tInt) script), some (muL yes tInt c50.1.2), some (val tInt many_43.1), some (muL yes (tL tInt) s51.1), some (muL yes tInt s51.2), some (val tInt x52), some (val (tL tInt) message_here_74), some (muL yes tInt given_75), none, none, none, none, none, none, none, none, none] (bk_asg (α := (List Int)) (S := fun told_82 => own tInt told_82) (e1 := fun told_82 => [some (val (tS K tInt) script), some (muL yes tInt c50.1.2), some (val tInt many_43.1), some (muL yes (tL tInt) s51.1), some (muL yes tInt s51.2), some (val tInt x52), some (val (tL tInt) message_here_74), some (muL yes tInt given_75), none, none, none, none, none, none, none, none, none]) (ex_brFO (fun _ => flo_mu flat_int) (brf_v (brf_s fz_mu (brf_v (brf_s fz_mu (brf_s fz_mu (brf_v (brf_v (brf_s fz_mu (brf_n (brf_n (brf_n (brf_n (brf_n (brf_n (brf_n (brf_n (brf_n brf_0))))))))))))))))) fun _ _ => (ex_call (δ := (List Int)) (S := fun x => own tInt x) (e' := fun _ => [some (val (tS K tInt) script), some (val (tL tInt) c50.1.2), some (val tInt many_43.1), some (val (tL (tL tInt)) s51.1), some (val (tL tInt) s51.2), some (val tInt x52), some (val (tL tInt) message_here_74), some (val (tL tInt) given_75), none, none, none, none, none, none, none, none, none]) [.arg 0] 1 (fun us h => match us, h with | [_], _ => rfl) (ax_cons (ex_var (i := 7) (T := (tL tInt)) rfl) fun a80 => (ax_nil ⟨rfl, a80, [], [], id, id, lok00, ⟨.inl ⟨_, rfl, rfl⟩, trivial⟩, (fun n hn => nomatch hn), wc_id (f := R.dropE (m_frame_message a80)), (fun _ _ _ _ _ h => h), (fun r81 => (fgt_c (fgt_c (fgt_c (fgt_c (fgt_c (fgt_c (fgt_c (fgt_c (fgt_n (fgt_n (fgt_n (fgt_n (fgt_n (fgt_n (fgt_n (fgt_n (fgt_n fgt_0)))))))))))))))))), (fun (e : Empty) => e.elim), (fun (e : Empty) => e.elim)⟩)))) fun told_82 => (bk_at [some (val (tS K tInt) script), some (muL yes tInt c50.1.2), some (val tInt many_43.1), some (muL yes (tL tInt) s51.1), some (muL yes tInt s51.2), some (val tInt x52), some (val (tL tInt) message_here_74), some (muL yes tInt given_75), some (muL yes tInt told_82), none, none, none, none, none, none, none, none] (bk_expr (α := (Unit × (List Int))) (S := fun y85 => val tNon y85.1) (e1 := fun y85 => [some (val (tS K tInt) script), some (muL yes tInt c50.1.2), some (val tInt many_43.1), some (muL yes (tL tInt) s51.1), some (muL yes tInt s51.2), some (val tInt x52), some (val (tL tInt) message_here_74), some (muL yes tInt y85.2), some (muL yes tInt told_82), none, none, none, none, none, none, none, none]) (ex_pin (S' := fun p83 => muL (pinV p83) tInt given_75) 7 rfl pn_mu fun p83 => (ex_append (i := 7) (δ := Int) (xs := fun (y84 : Int) => given_75) (y := fun (y84 : Int) => y84) (τ := (Unit × (List Int))) (e' := fun x => [some (val (tS K tInt) script), some (muL yes tInt c50.1.2), some (val tInt many_43.1), some (muL yes (tL tInt) s51.1), some (muL yes tInt s51.2), some (val tInt x52), some (val (tL tInt) message_here_74), some (muL yes tInt x.2), some (muL yes tInt told_82), none, none, none, none, none, none, none, none]) (fun (y84 : Int) => ((), (given_75 ++ [y84]))) (ex_ad rfl pin_mu) rfl (lens_id pin_mu) ex_int (fun _ => rfl) (fun y84 => lens_id pin_mu) fun y84 => (fgt_c (fgt_c (fgt_c (fgt_c (fgt_c (fgt_c (fgt_c (fgt_w unpin_mu (fgt_c (fgt_n (fgt_n (fgt_n (fgt_n (fgt_n (fgt_n (fgt_n (fgt_n fgt_0))))))))))))))))))) fun y85 => (bk_at [some (val (tS K tInt) script), some (muL yes tInt c50.1.2), some (val tInt many_43.1), some (muL yes (tL tInt) s51.1), some (muL yes tInt s51.2), some (val tInt x52), some (val (tL tInt) message_here_74), some (muL yes tInt y85.2), some (muL yes tInt told_82), none, none, none, none, none, none, none, none] (bk_ifr (emb := Out.ret) emb_L (tp_or (tp_notp (tp_b (ex_brF flat_bool (brf_v (brf_s fz_mu (brf_v (brf_s fz_mu (brf_s fz_mu (brf_v (brf_v (brf_s fz_mu (brf_s fz_mu (brf_n (brf_n (brf_n (brf_n (brf_n (brf_n (brf_n (brf_n brf_0))))))))))))))))) fun _ _ => (ex_as2 ht_cb2 (ex_opq (ex_var (i := 8) (T := (tL tInt)) rfl) ex_ty (o2_is (b := true) ty_L (by decide +kernel))))))) (tx_brF (brf_v (brf_s fz_mu (brf_v (brf_s fz_mu (brf_s fz_mu (brf_v (brf_v (brf_s fz_mu (brf_s fz_mu (brf_n (brf_n (brf_n (brf_n (brf_n (brf_n (brf_n (brf_n brf_0))))))))))))))))) fun _ _ => (tp_e (ex_opl (ex_var (i := 8) (T := (tL tInt)) rfl) (ex_frz (q := fun x => vp (tL tInt) x) (ex_opp (ex_frz (q := fun x => vp (tL tInt) x) (ex_lst (T := tInt) (S := id) (e' := fun _ => [some (val (tS K tInt) script), some (val (tL tInt) c50.1.2), some (val tInt many_43.1), some (val (tL (tL tInt)) s51.1), some (val (tL tInt) s51.2), some (val tInt x52), some (val (tL tInt) message_here_74), some (val (tL tInt) y85.2), some (val (tL tInt) told_82), none, none, none, none, none, none, none, none]) (ax_consq (ex_opq (ex_1q (a := message_here_74) (Sa := fun x => val (tL tInt) x) (c := (message_here_74.length : Int)) (S := fun x => val tInt x) ht_cb1 (ex_var (i := 6) (T := (tL tInt)) rfl) o1_lenL) ex_int (o2_int (C := CDiv) ⟨by decide, by decide⟩)) (ax_consq (ex_opq (ex_1q (a := (message_here_74.length : Int)) (Sa := fun x => val tInt x) (c := (message_here_74.length : Int)) (S := fun x => val tInt x) ht_cb1 (ex_1q (a := message_here_74) (Sa := fun x => val (tL tInt) x) (c := (message_here_74.length : Int)) (S := fun x => val tInt x) ht_cb1 (ex_var (i := 6) (T := (tL tInt)) rfl) o1_lenL) o1_int) ex_int (o2_int (C := fun _ j => 0 < j) (by decide))) (ax_nil ⟨([((message_here_74.length : Int) / (256 : Int)), ((message_here_74.length : Int) % (256 : Int))] : List Int), rfl, rfl, Nat.le_of_ble_eq_true rfl, rfl⟩)))) fun _ => fz_mu) (ex_var (i := 6) (T := (tL tInt)) rfl) o2_cat) fun _ => fz_mu) fun _ => (o2_neDt (dL dInt) (Nat.le_of_ble_eq_true rfl) (lay_L lay_int)))))) (fun t89 => (bk_at [some (val (tS K tInt) script), some (muL yes tInt c50.1.2), some (val tInt many_43.1), some (muL yes (tL tInt) s51.1), some (muL yes tInt s51.2), some (val tInt x52), some (val (tL tInt) message_here_74), some (muL yes tInt y85.2), some (muL yes tInt told_82), none, none, none, none, none, none, none, none] (br_ret ex_bl (fun _ => fgt_nil)))) (fun t89 => (bk_at [some (val (tS K tInt) script), some (muL yes tInt c50.1.2), some (val tInt many_43.1), some (muL yes (tL tInt) s51.1), some (muL yes tInt s51.2), some (val tInt x52), some (val (tL tInt) message_here_74), some (muL yes tInt y85.2), some (muL yes tInt told_82), none, none, none, none, none, none, none, none] (bk_expr (α := (Unit × (List (List Int)))) (S := fun y93 => val tNon y93.1) (e1 := fun y93 => [some (val (tS K tInt) script), some (muL yes tInt c50.1.2), some (val tInt many_43.1), some (muL yes (tL tInt) y93.2), some (muL yes tInt s51.2), some (val tInt x52), some (val (tL tInt) message_here_74), some (muL yes tInt y85.2), some (muL yes tInt told_82), none, none, none, none, none, none, none, none]) (ex_pin (S' := fun p91 => muL (pinV p91) (tL tInt) s51.1) 3 rfl pn_mu fun p91 => (ex_append (i := 3) (δ := (List Int)) (xs := fun (y92 : (List Int)) => s51.1) (y := fun (y92 : (List Int)) => y92) (τ := (Unit × (List (List Int)))) (e' := fun x => [some (val (tS K tInt) script), some (muL yes tInt c50.1.2), some (val tInt many_43.1), some (muL yes (tL tInt) x.2), some (muL yes tInt s51.2), some (val tInt x52), some (val (tL tInt) message_here_74), some (muL yes tInt y85.2), some (muL yes tInt told_82), none, none, none, none, none, none, none, none]) (fun (y92 : (List Int)) => ((), (s51.1 ++ [y92]))) (ex_ad rfl pin_mu) rfl (lens_id pin_mu) (ex_var (i := 6) (T := (tL tInt)) rfl) (fun _ => rfl) (fun y92 => lens_id pin_mu) fun y92 => (fgt_c (fgt_c (fgt_c (fgt_w unpin_mu (fgt_c (fgt_c (fgt_c (fgt_c (fgt_c (fgt_n (fgt_n (fgt_n (fgt_n (fgt_n (fgt_n (fgt_n (fgt_n fgt_0))))))))))))))))))) fun y93 => (bk_at [some (val (tS K tInt) script), some (muL yes tInt c50.1.2), some (val tInt many_43.1), some (muL yes (tL tInt) y93.2), some (muL yes tInt s51.2), some (val tInt x52), some (val (tL tInt) message_here_74), some (muL yes tInt y85.2), some (muL yes tInt told_82), none, none, none, none, none, none, none, none] (bk_asg (α := (List Int)) (S := fun octets_94 => own tInt octets_94) (e1 := fun octets_94 => [some (val (tS K tInt) script), some (muL yes tInt c50.1.2), some (val tInt many_43.1), some (muL yes (tL tInt) y93.2), some (muL yes tInt s51.2), some (val tInt x52), some (val (tL tInt) message_here_74), some (muL yes tInt y85.2), some (muL yes tInt told_82), none, none, none, none, none, none, none, none]) (ex_brFO (fun _ => flo_mu flat_int) (brf_v (brf_s fz_mu (brf_v (brf_s fz_mu (brf_s fz_mu (brf_v (brf_v (brf_s fz_mu (brf_s fz_mu (brf_n (brf_n (brf_n (brf_n (brf_n (brf_n (brf_n (brf_n brf_0))))))))))))))))) fun _ _ => (ex_opp (ex_var (i := 4) (T := (tL tInt)) rfl) (ex_var (i := 8) (T := (tL tInt)) rfl) o2_cat)) fun octets_94 => (bk_at [some (val (tS K tInt) script), some (muL yes tInt c50.1.2), some (val tInt many_43.1), some (muL yes (tL tInt) y93.2), some (muL yes tInt octets_94), some (val tInt x52), some (val (tL tInt) message_here_74), some (muL yes tInt y85.2), some (muL yes tInt told_82), none, none, none, none, none, none, none, none] (bl_nx (a := (y93.2, octets_94)) (fgt_c (fgt_c (fgt_c (fgt_c (fgt_c (fgt_n (fgt_n (fgt_n (fgt_n (fgt_n (fgt_n (fgt_n (fgt_n (fgt_n (fgt_n (fgt_n (fgt_n fgt_0))))))))))))))))))))))))))))))))))) fun c50 s53 => (bk_at [some (val (tS K tInt) script), some (muL yes tInt c50.1.2), some (val tInt many_43.1), some (muL yes (tL tInt) s53.1), some (muL yes tInt s53.2), none, none, none, none, none, none, none, none, none, none, none, none] (bk_asg (α := Int) (S := fun end__95 => val tInt end__95) (e1 := fun end__95 => [some (val (tS K tInt) script), some (muL yes tInt c50.1.2), some (val tInt many_43.1), some (muL yes (tL tInt) s53.1), some (muL yes tInt s53.2), none, none, none, none, none, none, none, none, none, none, none, none]) (ex_brF flat_int (brf_v (brf_s fz_mu (brf_v (brf_s fz_mu (brf_s fz_mu (brf_n (brf_n (brf_n (brf_n (brf_n (brf_n (brf_n (brf_n (brf_n (brf_n (brf_n (brf_n brf_0))))))))))))))))) fun _ _ => (ex_1q (a := s53.2) (Sa := fun x => val (tL tInt) x) (c := (s53.2.length : Int)) (S := fun x => val tInt x) ht_cb1 (ex_var (i := 4) (T := (tL tInt)) rfl) o1_lenL)) fun end__95 => (bk_at [some (val (tS K tInt) script), some (muL yes tInt c50.1.2), some (val tInt many_43.1), some (muL yes (tL tInt) s53.1), some (muL yes tInt s53.2), none, none, none, none, some (val tInt end__95), none, none, none, none, none, none, none] (bk_ifj (eJ := fun (s107 : Int × (List Int)) => [some (val (tS K tInt) script), some (muL yes tInt s107.2), some (val tInt many_43.1), some (muL yes (tL tInt) s53.1), some (muL yes tInt s53.2), none, none, none, none, some (val tInt s107.1), none, none, none, none, none, none, none]) (tx_e (δ := (Bool × (List Int))) (k := fun x => x.1) (e' := fun x => [some (val (tS K tInt) script), some (muL yes tInt x.2), some (val tInt many_43.1), some (muL yes (tL tInt) s53.1), some (muL yes tInt s53.2), none, none, none, none, some (val tInt end__95), none, none, none, none, none, none, none]) (ex_opE (α := (Int × (List Int))) (β := Int) (Sa := fun (y99 : (Int × (List Int))) => val tInt y99.1) (Sb := fun (y99 : (Int × (List Int))) (y100 : Int) => val tInt y100) (e1 := fun (y99 : (Int × (List Int))) => [some (val (tS K tInt) script), some (muL yes tInt y99.2), some (val tInt many_43.1), some (muL yes (tL tInt) s53.1), some (muL yes tInt s53.2), none, none, none, none, some (val tInt end__95), none, none, none, none, none, none, none]) (e2 := fun (y99 : (Int × (List Int))) (y100 : Int) => [some (val (tS K tInt) script), some (muL yes tInt y99.2), some (val tInt many_43.1), some (muL yes (tL tInt) s53.1), some (muL yes tInt s53.2), none, none, none, none, some (val tInt end__95), none, none, none, none, none, none, none]) (δ := (Bool × (List Int))) (S := fun x => val tBool x.1) (e' := fun x => [some (val (tS K tInt) script), some (muL yes tInt x.2), some (val tInt many_43.1), some (muL yes (tL tInt) s53.1), some (muL yes tInt s53.2), none, none, none, none, some (val tInt end__95), none, none, none, none, none, none, none]) (fun y99 y100 y101 => (y101, y99.2)) (by exact (ex_pin (S' := fun p96 => muL (pinV p96) tInt c50.1.2) 1 rfl pn_mu fun p96 => (ex_call (δ := (Int × (List Int))) (S := fun x => val tInt x.1) (e' := fun x => [some (val (tS K tInt) script), some (muL yes tInt x.2), some (val tInt many_43.1), some (muL yes (tL tInt) s53.1), some (muL yes tInt s53.2), none, none, none, none, some (val tInt end__95), none, none, none, none, none, none, none]) [.arg 0, .arg 1] 2 (fun us h => match us, h with | [_, _], _ => rfl) (ax_cons (ex_ad rfl pin_mu) fun _ => (ax_cons ex_int fun a97 => (ax_nil ⟨rfl, ⟨(p96, c50.1.2), a97⟩, [⟨1, 0, muL (pinV p96) tInt c50.1.2, muL (pinV p96) tInt c50.1.2, .ref p96, fun B => B⟩], [], id, id, (lok10 rfl (lens_id pin_mu)), ⟨.inr (.inl ⟨_, .head _, rfl, rfl, rfl⟩), .inl ⟨_, rfl, rfl⟩, trivial⟩, (all1 ⟨0, rfl, rfl⟩), wc_id (f := m__law_digit c50.1.2 a97), (fun _ _ _ _ _ h => h), (fun r98 => (fgt_c (fgt_w unpin_mu (fgt_c (fgt_c (fgt_c (fgt_n (fgt_n (fgt_n (fgt_n (fgt_c (fgt_n (fgt_n (fgt_n (fgt_n (fgt_n (fgt_n (fgt_n fgt_0)))))))))))))))))), (fun (e : Empty) => e.elim), (fun (e : Empty) => e.elim)⟩)))))) (fun y99 => (by exact ex_int)) fun y99 y100 => o2_eqI)) (fun t102 => (bk_at [some (val (tS K tInt) script), some (muL yes tInt t102.2), some (val tInt many_43.1), some (muL yes (tL tInt) s53.1), some (muL yes tInt s53.2), none, none, none, none, some (val tInt end__95), none, none, none, none, none, none, none] (bk_asg (α := (Int × (List Int))) (S := fun end__111 => val tInt end__111.1) (e1 := fun end__111 => [some (val (tS K tInt) script), some (muL yes tInt end__111.2), some (val tInt many_43.1), some (muL yes (tL tInt) s53.1), some (muL yes tInt s53.2), none, none, none, none, some (val tInt end__95), none, none, none, none, none, none, none]) (ex_pin (S' := fun p108 => muL (pinV p108) tInt t102.2) 1 rfl pn_mu fun p108 => (ex_call (δ := (Int × (List Int))) (S := fun x => val tInt x.1) (e' := fun x => [some (val (tS K tInt) script), some (muL yes tInt x.2), some (val tInt many_43.1), some (muL yes (tL tInt) s53.1), some (muL yes tInt s53.2), none, none, none, none, some (val tInt end__95), none, none, none, none, none, none, none]) [.arg 0, .arg 1] 2 (fun us h => match us, h with | [_, _], _ => rfl) (ax_cons (ex_ad rfl pin_mu) fun _ => (ax_cons (ex_opq (ex_brF flat_int (brf_v (brf_s fz_mu (brf_v (brf_s fz_mu (brf_s fz_mu (brf_n (brf_n (brf_n (brf_n (brf_v (brf_n (brf_n (brf_n (brf_n (brf_n (brf_n (brf_n brf_0))))))))))))))))) fun _ _ => (ex_1q (a := s53.2) (Sa := fun x => val (tL tInt) x) (c := (s53.2.length : Int)) (S := fun x => val tInt x) ht_cb1 (ex_var (i := 4) (T := (tL tInt)) rfl) o1_lenL)) ex_int o2_int0) fun a109 => (ax_nil ⟨rfl, ⟨(p108, t102.2), a109⟩, [⟨1, 0, muL (pinV p108) tInt t102.2, muL (pinV p108) tInt t102.2, .ref p108, fun B => B⟩], [], id, id, (lok10 rfl (lens_id pin_mu)), ⟨.inr (.inl ⟨_, .head _, rfl, rfl, rfl⟩), .inl ⟨_, rfl, rfl⟩, trivial⟩, (all1 ⟨0, rfl, rfl⟩), wc_id (f := m__law_digit t102.2 a109), (fun _ _ _ _ _ h => h), (fun r110 => (fgt_c (fgt_w unpin_mu (fgt_c (fgt_c (fgt_c (fgt_n (fgt_n (fgt_n (fgt_n (fgt_c (fgt_n (fgt_n (fgt_n (fgt_n (fgt_n (fgt_n (fgt_n fgt_0)))))))))))))))))), (fun (e : Empty) => e.elim), (fun (e : Empty) => e.elim)⟩))))) fun end__111 => (bk_at [some (val (tS K tInt) script), some (muL yes tInt end__111.2), some (val tInt many_43.1), some (muL yes (tL tInt) s53.1), some (muL yes tInt s53.2), none, none, none, none, some (val tInt end__111.1), none, none, none, none, none, none, none] (bn_nx (a := (end__111.1, end__111.2)) (fgt_c (fgt_c (fgt_c (fgt_c (fgt_c (fgt_n (fgt_n (fgt_n (fgt_n (fgt_c (fgt_n (fgt_n (fgt_n (fgt_n (fgt_n (fgt_n (fgt_n fgt_0)))))))))))))))))))))) (fun t102 => (bk_at [some (val (tS K tInt) script), some (muL yes tInt t102.2), some (val tInt many_43.1), some (muL yes (tL tInt) s53.1), some (muL yes tInt s53.2), none, none, none, none, some (val tInt end__95), none, none, none, none, none, none, none] (bn_nx (a := (end__95, t102.2)) (fgt_c (fgt_c (fgt_c (fgt_c (fgt_c (fgt_n (fgt_n (fgt_n (fgt_n (fgt_c (fgt_n (fgt_n (fgt_n (fgt_n (fgt_n (fgt_n (fgt_n fgt_0)))))))))))))))))))) fun s107 => (bk_at [some (val (tS K tInt) script), some (muL yes tInt s107.2), some (val tInt many_43.1), some (muL yes (tL tInt) s53.1), some (muL yes tInt s53.2), none, none, none, none, some (val tInt s107.1), none, none, none, none, none, none, none] (bk_asg (α := R_Messages) (S := fun reader_114 => ML.ob yes (He.ga K "Messages") (vO_Messages K reader_114)) (e1 := fun reader_114 => [some (val (tS K tInt) script), some (muL yes tInt s107.2), some (val tInt many_43.1), some (muL yes (tL tInt) s53.1), some (muL yes tInt s53.2), none, none, none, none, some (val tInt s107.1), none, none, none, none, none, none, none]) (ex_make (δ := R_Messages) (S := fun x => ML.ob yes (He.ga K "Messages") (vO_Messages K x)) (e' := fun _ => [some (val (tS K tInt) script), some (muL yes tInt s107.2), some (val tInt many_43.1), some (muL yes (tL tInt) s53.1), some (muL yes tInt s53.2), none, none, none, none, some (val tInt s107.1), none, none, none, none, none, none, none]) [] 0 (fun us x h => match us, h with | [], _ => rfl) (ax_nil ⟨rfl, fun pM => ⟨pM, [], id, id, (lokm0 _), ⟨.inr (.inl ⟨_, .head _, rfl, rfl, rfl⟩), trivial⟩, wc_id (f := m_Messages_init), fun r113 => ⟨_, rfl, fun _ _ _ _ h => unpin_ob _ _ _ _ h⟩, (fun r113 => (fgt_c (fgt_c (fgt_c (fgt_c (fgt_c (fgt_n (fgt_n (fgt_n (fgt_n (fgt_c (fgt_n (fgt_n (fgt_n (fgt_n (fgt_n (fgt_n (fgt_n fgt_0)))))))))))))))))), (fun (e : Empty) => e.elim), (fun (e : Empty) => e.elim)⟩⟩)) fun reader_114 => (bk_at [some (val (tS K tInt) script), some (muL yes tInt s107.2), some (val tInt many_43.1), some (muL yes (tL tInt) s53.1), some (muL yes tInt s53.2), none, none, none, none, some (val tInt s107.1), some (ML.ob yes (He.ga K "Messages") (vO_Messages K reader_114)), none, none, none, none, none, none] (bk_asg (α := (List Int)) (S := fun state__121 => own tInt state__121) (e1 := fun state__121 => [some (val (tS K tInt) script), some (muL yes tInt s107.2), some (val tInt many_43.1), some (muL yes (tL tInt) s53.1), some (muL yes tInt s53.2), none, none, none, none, some (val tInt s107.1), some (ML.ob yes (He.ga K "Messages") (vO_Messages K reader_114)), none, none, none, none, none, none]) (ex_call (δ := (List Int)) (S := fun x => own tInt x) (e' := fun _ => [some (val (tS K tInt) script), some (muL yes tInt s107.2), some (val tInt many_43.1), some (muL yes (tL tInt) s53.1), some (muL yes tInt s53.2), none, none, none, none, some (val tInt s107.1), some (ML.ob yes (He.ga K "Messages") (vO_Messages K reader_114)), none, none, none, none, none, none]) [.arg 0, .arg 1] 2 (fun us h => match us, h with | [_, _], _ => rfl) (ax_cons (ex_call (δ := Int) (S := fun x => val tInt x) (e' := fun _ => [some (val (tS K tInt) script), some (muL yes tInt s107.2), some (val tInt many_43.1), some (muL yes (tL tInt) s53.1), some (muL yes tInt s53.2), none, none, none, none, some (val tInt s107.1), some (ML.ob yes (He.ga K "Messages") (vO_Messages K reader_114)), none, none, none, none, none, none]) [.arg 0, .arg 1] 2 (fun us h => match us, h with | [_, _], _ => rfl) (ax_cons (ex_var (i := 0) (T := (tS K tInt)) rfl) fun a115 => (ax_cons ex_int fun a116 => (ax_nil ⟨rfl, ⟨a115, a116⟩, [], [], id, id, lok00, ⟨.inl ⟨_, rfl, rfl⟩, .inl ⟨_, rfl, rfl⟩, trivial⟩, (fun n hn => nomatch hn), wc_id (f := m__law_cell a115 a116), (fun _ _ _ _ _ h => h), (fun r117 => (fgt_c (fgt_c (fgt_c (fgt_c (fgt_c (fgt_n (fgt_n (fgt_n (fgt_n (fgt_c (fgt_c (fgt_n (fgt_n (fgt_n (fgt_n (fgt_n (fgt_n fgt_0)))))))))))))))))), (fun (e : Empty) => e.elim), (fun (e : Empty) => e.elim)⟩)))) fun a118 => (ax_cons ex_int fun a119 => (ax_nil ⟨rfl, ⟨a118, a119⟩, [], [], id, id, lok00, ⟨.inl ⟨_, rfl, rfl⟩, .inl ⟨_, rfl, rfl⟩, trivial⟩, (fun n hn => nomatch hn), wc_id (f := m__law_start a118 a119), (fun _ _ _ _ _ h => h), (fun r120 => (fgt_c (fgt_c (fgt_c (fgt_c (fgt_c (fgt_n (fgt_n (fgt_n (fgt_n (fgt_c (fgt_c (fgt_n (fgt_n (fgt_n (fgt_n (fgt_n (fgt_n fgt_0)))))))))))))))))), (fun (e : Empty) => e.elim), (fun (e : Empty) => e.elim)⟩)))) fun state__121 => (bk_at [some (val (tS K tInt) script), some (muL yes tInt state__121), some (val tInt many_43.1), some (muL yes (tL tInt) s53.1), some (muL yes tInt s53.2), none, none, none, none, some (val tInt s107.1), some (ML.ob yes (He.ga K "Messages") (vO_Messages K reader_114)), none, none, none, none, none, none] (bk_asg (α := Int) (S := fun at__122 => val tInt at__122) (e1 := fun at__122 => [some (val (tS K tInt) script), some (muL yes tInt state__121), some (val tInt many_43.1), some (muL yes (tL tInt) s53.1), some (muL yes tInt s53.2), none, none, none, none, some (val tInt s107.1), some (ML.ob yes (He.ga K "Messages") (vO_Messages K reader_114)), none, none, none, none, none, none]) ex_int fun at__122 => (bk_at [some (val (tS K tInt) script), some (muL yes tInt state__121), some (val tInt many_43.1), some (muL yes (tL tInt) s53.1), some (muL yes tInt s53.2), none, none, none, none, some (val tInt s107.1), some (ML.ob yes (He.ga K "Messages") (vO_Messages K reader_114)), some (val tInt at__122), none, none, none, none, none] (bk_frzS 3 rfl fz_mu (bk_frzS 4 rfl fz_mu (bk_forL (eL := fun c123 (s124 : (List Int) × Int × R_Messages) => [some (val (tS K tInt) script), some (muL yes tInt s124.1), some (val tInt many_43.1), some (val (tL (tL tInt)) s53.1), some (val (tL tInt) s53.2), none, none, none, none, some (val tInt s107.1), some (ML.ob yes (He.ga K "Messages") (vO_Messages K s124.2.2)), some (val tInt s124.2.1), none, none, none, none, none]) (s0 := fun c123 => (state__121, at__122, reader_114)) (eX := fun c123 x125 (s124 : (List Int) × Int × R_Messages) => [some (val (tS K tInt) script), some (muL yes tInt s124.1), some (val tInt many_43.1), some (val (tL (tL tInt)) s53.1), some (val (tL tInt) s53.2), some (val tInt x125), none, none, none, some (val tInt s107.1), some (ML.ob yes (He.ga K "Messages") (vO_Messages K s124.2.2)), some (val tInt s124.2.1), none, none, none, none, none]) (emb := id) emb_R (ix_R1p ex_int) (fun c123 => (fgt_c (fgt_c (fgt_c (fgt_c (fgt_c (fgt_n (fgt_n (fgt_n (fgt_n (fgt_c (fgt_c (fgt_c (fgt_n (fgt_n (fgt_n (fgt_n (fgt_n fgt_0)))))))))))))))))) (fun c123 x125 s124 => (as_name)) (fun c123 x125 s124 => (bk_at [some (val (tS K tInt) script), some (muL yes tInt s124.1), some (val tInt many_43.1), some (val (tL (tL tInt)) s53.1), some (val (tL tInt) s53.2), some (val tInt x125), none, none, none, some (val tInt s107.1), some (ML.ob yes (He.ga K "Messages") (vO_Messages K s124.2.2)), some (val tInt s124.2.1), none, none, none, none, none] (bk_asg (α := (Int × (List Int))) (S := fun size_138 => val tInt size_138.1) (e1 := fun size_138 => [some (val (tS K tInt) script), some (muL yes tInt size_138.2), some (val tInt many_43.1), some (val (tL (tL tInt)) s53.1), some (val (tL tInt) s53.2), some (val tInt x125), none, none, none, some (val tInt s107.1), some (ML.ob yes (He.ga K "Messages") (vO_Messages K s124.2.2)), some (val tInt s124.2.1), none, none, none, none, none]) (ex_pin (S' := fun p127 => muL (pinV p127) tInt s124.1) 1 rfl pn_mu fun p127 => (ex_call (δ := (Int × (List Int))) (S := fun x => val tInt x.1) (e' := fun x => [some (val (tS K tInt) script), some (muL yes tInt x.2), some (val tInt many_43.1), some (val (tL (tL tInt)) s53.1), some (val (tL tInt) s53.2), some (val tInt x125), none, none, none, some (val tInt s107.1), some (ML.ob yes (He.ga K "Messages") (vO_Messages K s124.2.2)), some (val tInt s124.2.1), none, none, none, none, none]) [.arg 0, .arg 1] 2 (fun us h => match us, h with | [_, _], _ => rfl) (ax_cons (ex_ad rfl pin_mu) fun _ => (ax_cons (ex_at (α := (Int × (List Int))) (S := fun a136 => val tInt a136.1) (e' := fun a136 => [some (val (tS K tInt) script), some (muL (pinV p127) tInt a136.2), some (val tInt many_43.1), some (val (tL (tL tInt)) s53.1), some (val (tL tInt) s53.2), some (val tInt x125), none, none, none, some (val tInt s107.1), some (ML.ob yes (He.ga K "Messages") (vO_Messages K s124.2.2)), some (val tInt s124.2.1), none, none, none, none, none]) (by exact (ex_opEl (env := [some (val (tS K tInt) script), some (muL (pinV p127) tInt s124.1), some (val tInt many_43.1), some (val (tL (tL tInt)) s53.1), some (val (tL tInt) s53.2), some (val tInt x125), none, none, none, some (val tInt s107.1), some (ML.ob yes (He.ga K "Messages") (vO_Messages K s124.2.2)), some (val tInt s124.2.1), none, none, none, none, none]) (β := (Int × (List Int))) (Sb := fun (y133 : (Int × (List Int))) => val tInt y133.1) (e1 := fun (y133 : (Int × (List Int))) => [some (val (tS K tInt) script), some (muL (pinV p127) tInt y133.2), some (val tInt many_43.1), some (val (tL (tL tInt)) s53.1), some (val (tL tInt) s53.2), some (val tInt x125), none, none, none, some (val tInt s107.1), some (ML.ob yes (He.ga K "Messages") (vO_Messages K s124.2.2)), some (val tInt s124.2.1), none, none, none, none, none]) (δ := (Int × (List Int))) (S := fun x => val tInt x.1) (e' := fun x => [some (val (tS K tInt) script), some (muL (pinV p127) tInt x.2), some (val tInt many_43.1), some (val (tL (tL tInt)) s53.1), some (val (tL tInt) s53.2), some (val tInt x125), none, none, none, some (val tInt s107.1), some (ML.ob yes (He.ga K "Messages") (vO_Messages K s124.2.2)), some (val tInt s124.2.1), none, none, none, none, none]) (fun y133 y135 => (y135, y133.2)) (ex_tupU (T := tInt) (S := id) (e' := fun _ => [some (val (tS K tInt) script), some (muL (pinV p127) tInt s124.1), some (val tInt many_43.1), some (val (tL (tL tInt)) s53.1), some (val (tL tInt) s53.2), some (val tInt x125), none, none, none, some (val tInt s107.1), some (ML.ob yes (He.ga K "Messages") (vO_Messages K s124.2.2)), some (val tInt s124.2.1), none, none, none, none, none]) (ax_consq ex_int (ax_consq ex_int (ax_consq (ex_opq (ex_opq (ex_var (i := 9) (T := tInt) rfl) (ex_var (i := 11) (T := tInt) rfl) o2_int0) ex_int o2_int0) (ax_nil ⟨([(3 : Int), (9 : Int), ((s107.1 - s124.2.1) + (1 : Int))] : List Int), rfl, rfl, Nat.le_of_ble_eq_true rfl, rfl⟩))))) (by exact (ex_call (δ := (Int × (List Int))) (S := fun x => val tInt x.1) (e' := fun x => [some (val (tS K tInt) script), some (muL (pinV p127) tInt x.2), some (val tInt many_43.1), some (val (tL (tL tInt)) s53.1), some (val (tL tInt) s53.2), some (val tInt x125), none, none, none, some (val tInt s107.1), some (ML.ob yes (He.ga K "Messages") (vO_Messages K s124.2.2)), some (val tInt s124.2.1), none, none, none, none, none]) [.arg 0, .arg 1] 2 (fun us h => match us, h with | [_, _], _ => rfl) (ax_cons (ex_ad rfl pin_mu) fun _ => (ax_cons ex_int fun a131 => (ax_nil ⟨rfl, ⟨(p127, s124.1), a131⟩, [⟨1, 0, muL (pinV p127) tInt s124.1, muL (pinV p127) tInt s124.1, .ref p127, fun B => B⟩], [], id, id, (lok10 rfl (lens_id pin_mu)), ⟨.inr (.inl ⟨_, .head _, rfl, rfl, rfl⟩), .inl ⟨_, rfl, rfl⟩, trivial⟩, (all1 ⟨0, rfl, rfl⟩), wc_id (f := m__law_digit s124.1 a131), (fun _ _ _ _ _ h => h), (fun r132 => (fgt_c (fgt_c (fgt_c (fgt_c (fgt_c (fgt_c (fgt_n (fgt_n (fgt_n (fgt_c (fgt_c (fgt_c (fgt_n (fgt_n (fgt_n (fgt_n (fgt_n fgt_0)))))))))))))))))), (fun (e : Empty) => e.elim), (fun (e : Empty) => e.elim)⟩))))) fun y133 => o2_ixU))) fun a136 => (ax_nil ⟨rfl, ⟨(p127, a136.2), a136.1⟩, [⟨1, 0, muL (pinV p127) tInt a136.2, muL (pinV p127) tInt a136.2, .ref p127, fun B => B⟩], [], id, id, (lok10 rfl (lens_id pin_mu)), ⟨.inr (.inl ⟨_, .head _, rfl, rfl, rfl⟩), .inl ⟨_, rfl, rfl⟩, trivial⟩, (all1 ⟨0, rfl, rfl⟩), wc_id (f := m__law_digit a136.2 a136.1), (fun _ _ _ _ _ h => h), (fun r137 => (fgt_c (fgt_w unpin_mu (fgt_c (fgt_c (fgt_c (fgt_c (fgt_n (fgt_n (fgt_n (fgt_c (fgt_c (fgt_c (fgt_n (fgt_n (fgt_n (fgt_n (fgt_n fgt_0)))))))))))))))))), (fun (e : Empty) => e.elim), (fun (e : Empty) => e.elim)⟩))))) fun size_138 => (bk_at [some (val (tS K tInt) script), some (muL yes tInt size_138.2), some (val tInt many_43.1), some (val (tL (tL tInt)) s53.1), some (val (tL tInt) s53.2), some (val tInt x125), none, none, none, some (val tInt s107.1), some (ML.ob yes (He.ga K "Messages") (vO_Messages K s124.2.2)), some (val tInt s124.2.1), some (val tInt size_138.1), none, none, none, none] (bk_ifj (eJ := fun (s141 : Int) => [some (val (tS K tInt) script), some (muL yes tInt size_138.2), some (val tInt many_43.1), some (val (tL (tL tInt)) s53.1), some (val (tL tInt) s53.2), some (val tInt x125), none, none, none, some (val tInt s107.1), some (ML.ob yes (He.ga K "Messages") (vO_Messages K s124.2.2)), some (val tInt s124.2.1), some (val tInt s141), none, none, none, none]) (tp_e (ex_opq (ex_var (i := 5) (T := tInt) rfl) ex_int o2_eqI)) (fun t139 => (bk_at [some (val (tS K tInt) script), some (muL yes tInt size_138.2), some (val tInt many_43.1), some (val (tL (tL tInt)) s53.1), some (val (tL tInt) s53.2), some (val tInt x125), none, none, none, some (val tInt s107.1), some (ML.ob yes (He.ga K "Messages") (vO_Messages K s124.2.2)), some (val tInt s124.2.1), some (val tInt size_138.1), none, none, none, none] (bk_asg (α := Int) (S := fun size_142 => val tInt size_142) (e1 := fun size_142 => [some (val (tS K tInt) script), some (muL yes tInt size_138.2), some (val tInt many_43.1), some (val (tL (tL tInt)) s53.1), some (val (tL tInt) s53.2), some (val tInt x125), none, none, none, some (val tInt s107.1), some (ML.ob yes (He.ga K "Messages") (vO_Messages K s124.2.2)), some (val tInt s124.2.1), some (val tInt size_138.1), none, none, none, none]) (ex_opq (ex_var (i := 9) (T := tInt) rfl) (ex_var (i := 11) (T := tInt) rfl) o2_int0) fun size_142 => (bk_at [some (val (tS K tInt) script), some (muL yes tInt size_138.2), some (val tInt many_43.1), some (val (tL (tL tInt)) s53.1), some (val (tL tInt) s53.2), some (val tInt x125), none, none, none, some (val tInt s107.1), some (ML.ob yes (He.ga K "Messages") (vO_Messages K s124.2.2)), some (val tInt s124.2.1), some (val tInt size_142), none, none, none, none] (bn_nx (a := size_142) (fgt_c (fgt_c (fgt_c (fgt_c (fgt_c (fgt_c (fgt_n (fgt_n (fgt_n (fgt_c (fgt_c (fgt_c (fgt_c (fgt_n (fgt_n (fgt_n (fgt_n fgt_0)))))))))))))))))))))) (fun t139 => (bk_at [some (val (tS K tInt) script), some (muL yes tInt size_138.2), some (val tInt many_43.1), some (val (tL (tL tInt)) s53.1), some (val (tL tInt) s53.2), some (val tInt x125), none, none, none, some (val tInt s107.1), some (ML.ob yes (He.ga K "Messages") (vO_Messages K s124.2.2)), some (val tInt s124.2.1), some (val tInt size_138.1), none, none, none, none] (bn_nx (a := size_138.1) (fgt_c (fgt_c (fgt_c (fgt_c (fgt_c (fgt_c (fgt_n (fgt_n (fgt_n (fgt_c (fgt_c (fgt_c (fgt_c (fgt_n (fgt_n (fgt_n (fgt_n fgt_0)))))))))))))))))))) fun s141 => (bk_at [some (val (tS K tInt) script), some (muL yes tInt size_138.2), some (val tInt many_43.1), some (val (tL (tL tInt)) s53.1), some (val (tL tInt) s53.2), some (val tInt x125), none, none, none, some (val tInt s107.1), some (ML.ob yes (He.ga K "Messages") (vO_Messages K s124.2.2)), some (val tInt s124.2.1), some (val tInt s141), none, none, none, none] (bk_asg (α := (List Int)) (S := fun part_143 => own tInt part_143) (e1 := fun part_143 => [some (val (tS K tInt) script), some (muL yes tInt size_138.2), some (val tInt many_43.1), some (val (tL (tL tInt)) s53.1), some (val (tL tInt) s53.2), some (val tInt x125), none, none, none, some (val tInt s107.1), some (ML.ob yes (He.ga K "Messages") (vO_Messages K s124.2.2)), some (val tInt s124.2.1), some (val tInt s141), none, none, none, none]) (ex_slL (ex_var (i := 4) (T := (tL tInt)) rfl) (to_some (ex_var (i := 11) (T := tInt) rfl)) (to_some (ex_as2 ht_cb2 (ex_opq (ex_opq (ex_var (i := 11) (T := tInt) rfl) (ex_var (i := 12) (T := tInt) rfl) o2_int0) (ex_var (i := 9) (T := tInt) rfl) o2_min)))) fun part_143 => (bk_at [some (val (tS K tInt) script), some (muL yes tInt size_138.2), some (val tInt many_43.1), some (val (tL (tL tInt)) s53.1), some (val (tL tInt) s53.2), some (val tInt x125), none, none, none, some (val tInt s107.1), some (ML.ob yes (He.ga K "Messages") (vO_Messages K s124.2.2)), some (val tInt s124.2.1), some (val tInt s141), some (muL yes tInt part_143), none, none, none] (bk_asg (α := (List (List Int))) (S := fun before_159 => val (tL (tL tInt)) before_159) (e1 := fun before_159 => [some (val (tS K tInt) script), some (muL yes tInt size_138.2), some (val tInt many_43.1), some (val (tL (tL tInt)) s53.1), some (val (tL tInt) s53.2), some (val tInt x125), none, none, none, some (val tInt s107.1), some (ML.ob yes (He.ga K "Messages") (vO_Messages K s124.2.2)), some (val tInt s124.2.1), some (val tInt s141), some (muL yes tInt part_143), none, none, none]) (ex_frz (q := fun x => vp (tL (tL tInt)) x) (ex_call (δ := (List (List Int))) (S := fun x => own (tL tInt) x) (e' := fun _ => [some (val (tS K tInt) script), some (muL yes tInt size_138.2), some (val tInt many_43.1), some (val (tL (tL tInt)) s53.1), some (val (tL tInt) s53.2), some (val tInt x125), none, none, none, some (val tInt s107.1), some (ML.ob yes (He.ga K "Messages") (vO_Messages K s124.2.2)), some (val tInt s124.2.1), some (val tInt s141), some (muL yes tInt part_143), none, none, none]) [.arg 0, .arg 1] 2 (fun us h => match us, h with | [_, _], _ => rfl) (ax_cons (ex_var (i := 3) (T := (tL (tL tInt))) rfl) fun a156 => (ax_cons (ex_var (i := 11) (T := tInt) rfl) fun a157 => (ax_nil ⟨rfl, ⟨a156, a157⟩, [], [], id, id, lok00, ⟨.inl ⟨_, rfl, rfl⟩, .inl ⟨_, rfl, rfl⟩, trivial⟩, (fun n hn => nomatch hn), wc_id (f := m__law_whole a156 a157), (fun _ _ _ _ _ h => h), (fun r158 => (fgt_c (fgt_c (fgt_c (fgt_c (fgt_c (fgt_c (fgt_n (fgt_n (fgt_n (fgt_c (fgt_c (fgt_c (fgt_c (fgt_c (fgt_n (fgt_n (fgt_n fgt_0)))))))))))))))))), (fun (e : Empty) => e.elim), (fun (e : Empty) => e.elim)⟩)))) fun _ => fz_mu) fun before_159 => (bk_at [some (val (tS K tInt) script), some (muL yes tInt size_138.2), some (val tInt many_43.1), some (val (tL (tL tInt)) s53.1), some (val (tL tInt) s53.2), some (val tInt x125), none, none, none, some (val tInt s107.1), some (ML.ob yes (He.ga K "Messages") (vO_Messages K s124.2.2)), some (val tInt s124.2.1), some (val tInt s141), some (muL yes tInt part_143), some (val (tL (tL tInt)) before_159), none, none] (bk_asg (α := Int) (S := fun at__160 => val tInt at__160) (e1 := fun at__160 => [some (val (tS K tInt) script), some (muL yes tInt size_138.2), some (val tInt many_43.1), some (val (tL (tL tInt)) s53.1), some (val (tL tInt) s53.2), some (val tInt x125), none, none, none, some (val tInt s107.1), some (ML.ob yes (He.ga K "Messages") (vO_Messages K s124.2.2)), some (val tInt s124.2.1), some (val tInt s141), some (muL yes tInt part_143), some (val (tL (tL tInt)) before_159), none, none]) (ex_opq (ex_var (i := 11) (T := tInt) rfl) (ex_brF flat_int (brf_v (brf_s fz_mu (brf_v (brf_v (brf_v (brf_v (brf_n (brf_n (brf_n (brf_v (brf_s (fz_Messages K _) (brf_v (brf_v (brf_s fz_mu (brf_v (brf_n (brf_n brf_0))))))))))))))))) fun _ _ => (ex_1q (a := part_143) (Sa := fun x => val (tL tInt) x) (c := (part_143.length : Int)) (S := fun x => val tInt x) ht_cb1 (ex_var (i := 13) (T := (tL tInt)) rfl) o1_lenL)) o2_int0) fun at__160 => (bk_at [some (val (tS K tInt) script), some (muL yes tInt size_138.2), some (val tInt many_43.1), some (val (tL (tL tInt)) s53.1), some (val (tL tInt) s53.2), some (val tInt x125), none, none, none, some (val tInt s107.1), some (ML.ob yes (He.ga K "Messages") (vO_Messages K s124.2.2)), some (val tInt at__160), some (val tInt s141), some (muL yes tInt part_143), some (val (tL (tL tInt)) before_159), none, none] (bk_asg (α := (List (List Int))) (S := fun due_165 => val (tL (tL tInt)) due_165) (e1 := fun due_165 => [some (val (tS K tInt) script), some (muL yes tInt size_138.2), some (val tInt many_43.1), some (val (tL (tL tInt)) s53.1), some (val (tL tInt) s53.2), some (val tInt x125), none, none, none, some (val tInt s107.1), some (ML.ob yes (He.ga K "Messages") (vO_Messages K s124.2.2)), some (val tInt at__160), some (val tInt s141), some (muL yes tInt part_143), some (val (tL (tL tInt)) before_159), none, none]) (ex_frz (q := fun x => vp (tL (tL tInt)) x) (ex_slL (ex_frz (q := fun x => vp (tL (tL tInt)) x) (ex_call (δ := (List (List Int))) (S := fun x => own (tL tInt) x) (e' := fun _ => [some (val (tS K tInt) script), some (muL yes tInt size_138.2), some (val tInt many_43.1), some (val (tL (tL tInt)) s53.1), some (val (tL tInt) s53.2), some (val tInt x125), none, none, none, some (val tInt s107.1), some (ML.ob yes (He.ga K "Messages") (vO_Messages K s124.2.2)), some (val tInt at__160), some (val tInt s141), some (muL yes tInt part_143), some (val (tL (tL tInt)) before_159), none, none]) [.arg 0, .arg 1] 2 (fun us h => match us, h with | [_, _], _ => rfl) (ax_cons (ex_var (i := 3) (T := (tL (tL tInt))) rfl) fun a161 => (ax_cons (ex_var (i := 11) (T := tInt) rfl) fun a162 => (ax_nil ⟨rfl, ⟨a161, a162⟩, [], [], id, id, lok00, ⟨.inl ⟨_, rfl, rfl⟩, .inl ⟨_, rfl, rfl⟩, trivial⟩, (fun n hn => nomatch hn), wc_id (f := m__law_whole a161 a162), (fun _ _ _ _ _ h => h), (fun r163 => (fgt_c (fgt_c (fgt_c (fgt_c (fgt_c (fgt_c (fgt_n (fgt_n (fgt_n (fgt_c (fgt_c (fgt_c (fgt_c (fgt_c (fgt_c (fgt_n (fgt_n fgt_0)))))))))))))))))), (fun (e : Empty) => e.elim), (fun (e : Empty) => e.elim)⟩)))) fun _ => fz_mu) (to_some (ex_1q (a := before_159) (Sa := fun x => val (tL (tL tInt)) x) (c := (before_159.length : Int)) (S := fun x => val tInt x) ht_cb1 (ex_var (i := 14) (T := (tL (tL tInt))) rfl) o1_lenL)) to_none) fun _ => fz_mu) fun due_165 => (bk_at [some (val (tS K tInt) script), some (muL yes tInt size_138.2), some (val tInt many_43.1), some (val (tL (tL tInt)) s53.1), some (val (tL tInt) s53.2), some (val tInt x125), none, none, none, some (val tInt s107.1), some (ML.ob yes (He.ga K "Messages") (vO_Messages K s124.2.2)), some (val tInt at__160), some (val tInt s141), some (muL yes tInt part_143), some (val (tL (tL tInt)) before_159), some (val (tL (tL tInt)) due_165), none] (bk_asg (α := ((List (List Int)) × R_Messages)) (S := fun told_202 => muO yes (told_202.1.map fun x => muL yes tInt x)) (e1 := fun told_202 => [some (val (tS K tInt) script), some (muL yes tInt size_138.2), some (val tInt many_43.1), some (val (tL (tL tInt)) s53.1), some (val (tL tInt) s53.2), some (val tInt x125), none, none, none, some (val tInt s107.1), some (ML.ob yes (He.ga K "Messages") (vO_Messages K told_202.2)), some (val tInt at__160), some (val tInt s141), some (muL yes tInt part_143), some (val (tL (tL tInt)) before_159), some (val (tL (tL tInt)) due_165), none]) (ex_pin (S' := fun p199 => ML.ob (pinV p199) (He.ga K "Messages") (vO_Messages K s124.2.2)) 10 rfl pn_ob fun p199 => (ex_pin (S' := fun p200 => muL (pinV p200) tInt part_143) 13 rfl pn_mu fun p200 => (ex_meth (δ := ((List (List Int)) × R_Messages)) (S := fun x => muO yes (x.1.map fun x => muL yes tInt x)) (e' := fun x => [some (val (tS K tInt) script), some (muL yes tInt size_138.2), some (val tInt many_43.1), some (val (tL (tL tInt)) s53.1), some (val (tL tInt) s53.2), some (val tInt x125), none, none, none, some (val tInt s107.1), some (ML.ob yes (He.ga K "Messages") (vO_Messages K x.2)), some (val tInt at__160), some (val tInt s141), some (muL yes tInt part_143), some (val (tL (tL tInt)) before_159), some (val (tL (tL tInt)) due_165), none]) [.arg 0, .arg 1] 2 (fun us h => match us, h with | [_, _], _ => rfl) (ex_ad rfl pin_ob) (fun _ => rec_O (i := 10) rfl (lens_id pin_ob) (ln_Messages_feed K s124.2.2)) fun _ => (ax_cons (ex_ad rfl pin_mu) fun _ => (ax_nil ⟨rfl, ⟨(p199, s124.2.2), (p200, part_143)⟩, [⟨10, 0, ML.ob (pinV p199) (He.ga K "Messages") (vO_Messages K s124.2.2), ML.ob (pinV p199) (He.ga K "Messages") (vO_Messages K s124.2.2), .ref p199, fun B => B⟩, ⟨13, 1, muL (pinV p200) tInt part_143, muL (pinV p200) tInt part_143, .ref p200, fun B => B⟩], [], id, id, (lok20 rfl rfl rfl (lens_id pin_ob) rfl (lens_id pin_mu)), ⟨.inr (.inl ⟨_, .head _, rfl, rfl, rfl⟩), .inr (.inl ⟨_, .tail _ (.head _), rfl, rfl, rfl⟩), trivial⟩, (all2 ⟨0, rfl, rfl⟩ ⟨1, rfl, rfl⟩), wc_id (f := m_Messages_feed s124.2.2 part_143), (fun _ _ _ _ _ h => h), (fun r201 => (fgt_c (fgt_c (fgt_c (fgt_c (fgt_c (fgt_c (fgt_n (fgt_n (fgt_n (fgt_c (fgt_w unpin_ob (fgt_c (fgt_c (fgt_w unpin_mu (fgt_c (fgt_c (fgt_n fgt_0)))))))))))))))))), (fun (e : Empty) => e.elim), (fun (e : Empty) => e.elim)⟩))))) fun told_202 => (bk_at [some (val (tS K tInt) script), some (muL yes tInt size_138.2), some (val tInt many_43.1), some (val (tL (tL tInt)) s53.1), some (val (tL tInt) s53.2), some (val tInt x125), none, none, some (muO yes (told_202.1.map fun x => muL yes tInt x)), some (val tInt s107.1), some (ML.ob yes (He.ga K "Messages") (vO_Messages K told_202.2)), some (val tInt at__160), some (val tInt s141), some (muL yes tInt part_143), some (val (tL (tL tInt)) before_159), some (val (tL (tL tInt)) due_165), none] (bk_expr (α := (Unit × (List Int))) (S := fun y205 => val tNon y205.1) (e1 := fun y205 => [some (val (tS K tInt) script), some (muL yes tInt size_138.2), some (val tInt many_43.1), some (val (tL (tL tInt)) s53.1), some (val (tL tInt) s53.2), some (val tInt x125), none, none, some (muO yes (told_202.1.map fun x => muL yes tInt x)), some (val tInt s107.1), some (ML.ob yes (He.ga K "Messages") (vO_Messages K told_202.2)), some (val tInt at__160), some (val tInt s141), some (muL yes tInt y205.2), some (val (tL (tL tInt)) before_159), some (val (tL (tL tInt)) due_165), none]) (ex_pin (S' := fun p203 => muL (pinV p203) tInt part_143) 13 rfl pn_mu fun p203 => (ex_append (i := 13) (δ := Int) (xs := fun (y204 : Int) => part_143) (y := fun (y204 : Int) => y204) (τ := (Unit × (List Int))) (e' := fun x => [some (val (tS K tInt) script), some (muL yes tInt size_138.2), some (val tInt many_43.1), some (val (tL (tL tInt)) s53.1), some (val (tL tInt) s53.2), some (val tInt x125), none, none, some (muO yes (told_202.1.map fun x => muL yes tInt x)), some (val tInt s107.1), some (ML.ob yes (He.ga K "Messages") (vO_Messages K told_202.2)), some (val tInt at__160), some (val tInt s141), some (muL yes tInt x.2), some (val (tL (tL tInt)) before_159), some (val (tL (tL tInt)) due_165), none]) (fun (y204 : Int) => ((), (part_143 ++ [y204]))) (ex_ad rfl pin_mu) rfl (lens_id pin_mu) ex_int (fun _ => rfl) (fun y204 => lens_id pin_mu) fun y204 => (fgt_c (fgt_c (fgt_c (fgt_c (fgt_c (fgt_c (fgt_n (fgt_n (fgt_c (fgt_c (fgt_c (fgt_c (fgt_c (fgt_w unpin_mu (fgt_c (fgt_c (fgt_n fgt_0))))))))))))))))))) fun y205 => (bk_at [some (val (tS K tInt) script), some (muL yes tInt size_138.2), some (val tInt many_43.1), some (val (tL (tL tInt)) s53.1), some (val (tL tInt) s53.2), some (val tInt x125), none, none, some (muO yes (told_202.1.map fun x => muL yes tInt x)), some (val tInt s107.1), some (ML.ob yes (He.ga K "Messages") (vO_Messages K told_202.2)), some (val tInt at__160), some (val tInt s141), some (muL yes tInt y205.2), some (val (tL (tL tInt)) before_159), some (val (tL (tL tInt)) due_165), none] (bk_asg (α := Int) (S := fun left_214 => val tInt left_214) (e1 := fun left_214 => [some (val (tS K tInt) script), some (muL yes tInt size_138.2), some (val tInt many_43.1), some (val (tL (tL tInt)) s53.1), some (val (tL tInt) s53.2), some (val tInt x125), none, none, some (muO yes (told_202.1.map fun x => muL yes tInt x)), some (val tInt s107.1), some (ML.ob yes (He.ga K "Messages") (vO_Messages K told_202.2)), some (val tInt at__160), some (val tInt s141), some (muL yes tInt y205.2), some (val (tL (tL tInt)) before_159), some (val (tL (tL tInt)) due_165), none]) (ex_opl (ex_var (i := 11) (T := tInt) rfl) (ex_1m ht_cb1 (ex_frz (q := fun x => vp (tL tInt) x) (ex_lc1 (T := tInt) (eX := fun x210 => [some (val (tS K tInt) script), some (muL yes tInt size_138.2), some (val tInt many_43.1), some (val (tL (tL tInt)) s53.1), some (val (tL tInt) s53.2), some (val tInt x125), some (val (tL tInt) x210), none, some (muO yes (told_202.1.map fun x => muL yes tInt x)), some (val tInt s107.1), some (ML.ob yes (He.ga K "Messages") (vO_Messages K told_202.2)), some (val tInt at__160), some (val tInt s141), some (muL yes tInt y205.2), some (val (tL (tL tInt)) before_159), some (val (tL (tL tInt)) due_165), none]) (ix_L (xs := fun c => c) (ex_frz (q := fun x => vp (tL (tL tInt)) x) (ex_call (δ := (List (List Int))) (S := fun x => own (tL tInt) x) (e' := fun _ => [some (val (tS K tInt) script), some (muL yes tInt size_138.2), some (val tInt many_43.1), some (val (tL (tL tInt)) s53.1), some (val (tL tInt) s53.2), some (val tInt x125), none, none, some (muO yes (told_202.1.map fun x => muL yes tInt x)), some (val tInt s107.1), some (ML.ob yes (He.ga K "Messages") (vO_Messages K told_202.2)), some (val tInt at__160), some (val tInt s141), some (muL yes tInt y205.2), some (val (tL (tL tInt)) before_159), some (val (tL (tL tInt)) due_165), none]) [.arg 0, .arg 1] 2 (fun us h => match us, h with | [_, _], _ => rfl) (ax_cons (ex_var (i := 3) (T := (tL (tL tInt))) rfl) fun a206 => (ax_cons (ex_var (i := 11) (T := tInt) rfl) fun a207 => (ax_nil ⟨rfl, ⟨a206, a207⟩, [], [], id, id, lok00, ⟨.inl ⟨_, rfl, rfl⟩, .inl ⟨_, rfl, rfl⟩, trivial⟩, (fun n hn => nomatch hn), wc_id (f := m__law_whole a206 a207), (fun _ _ _ _ _ h => h), (fun r208 => (fgt_c (fgt_c (fgt_c (fgt_c (fgt_c (fgt_c (fgt_n (fgt_n (fgt_c (fgt_c (fgt_c (fgt_c (fgt_c (fgt_c (fgt_c (fgt_c (fgt_n fgt_0)))))))))))))))))), (fun (e : Empty) => e.elim), (fun (e : Empty) => e.elim)⟩)))) fun _ => fz_mu)) (noW1 rfl) (fun x210 => (ac_name)) (fun x210 => (fgt_c (fgt_c (fgt_c (fgt_c (fgt_c (fgt_c (fgt_n (fgt_n (fgt_c (fgt_c (fgt_c (fgt_c (fgt_c (fgt_c (fgt_c (fgt_c (fgt_n fgt_0)))))))))))))))))) (fun x210 => (ex_opq (ex_1q (a := x210) (Sa := fun x => val (tL tInt) x) (c := (x210.length : Int)) (S := fun x => val tInt x) ht_cb1 (ex_var (i := 6) (T := (tL tInt)) rfl) o1_lenL) ex_int o2_int0))) fun _ => fz_mu) fun _ => o1_sum) fun _ => o2_int0) fun left_214 => (bk_at [some (val (tS K tInt) script), some (muL yes tInt size_138.2), some (val tInt many_43.1), some (val (tL (tL tInt)) s53.1), some (val (tL tInt) s53.2), some (val tInt x125), none, none, some (muO yes (told_202.1.map fun x => muL yes tInt x)), some (val tInt s107.1), some (ML.ob yes (He.ga K "Messages") (vO_Messages K told_202.2)), some (val tInt at__160), some (val tInt s141), some (muL yes tInt y205.2), some (val (tL (tL tInt)) before_159), some (val (tL (tL tInt)) due_165), some (val tInt left_214)] (bk_if (tx_or (δ := (Bool × (List (List Int)))) (k := fun x => x.1) (e1 := fun y270 => [some (val (tS K tInt) script), some (muL yes tInt size_138.2), some (val tInt many_43.1), some (val (tL (tL tInt)) s53.1), some (val (tL tInt) s53.2), some (val tInt x125), none, none, some (muO yes (y270.2.map fun x => muL yes tInt x)), some (val tInt s107.1), some (ML.ob yes (He.ga K "Messages") (vO_Messages K told_202.2)), some (val tInt at__160), some (val tInt s141), some (muL yes tInt y205.2), some (val (tL (tL tInt)) before_159), some (val (tL (tL tInt)) due_165), some (val tInt left_214)]) (τ := (Bool × (List (List Int)))) (kb := fun x => x.1) (e' := fun x => [some (val (tS K tInt) script), some (muL yes tInt size_138.2), some (val tInt many_43.1), some (val (tL (tL tInt)) s53.1), some (val (tL tInt) s53.2), some (val tInt x125), none, none, some (muO yes (x.2.map fun x => muL yes tInt x)), some (val tInt s107.1), some (ML.ob yes (He.ga K "Messages") (vO_Messages K told_202.2)), some (val tInt at__160), some (val tInt s141), some (muL yes tInt y205.2), some (val (tL (tL tInt)) before_159), some (val (tL (tL tInt)) due_165), some (val tInt left_214)]) (fun y270 => (true, y270.2)) (tx_out (δ := (Bool × (List (List Int)))) (b2 := fun x => x.1) (e2 := fun x => [some (val (tS K tInt) script), some (muL yes tInt size_138.2), some (val tInt many_43.1), some (val (tL (tL tInt)) s53.1), some (val (tL tInt) s53.2), some (val tInt x125), none, none, some (muO yes (x.2.map fun x => muL yes tInt x)), some (val tInt s107.1), some (ML.ob yes (He.ga K "Messages") (vO_Messages K told_202.2)), some (val tInt at__160), some (val tInt s141), some (muL yes tInt y205.2), some (val (tL (tL tInt)) before_159), some (val (tL (tL tInt)) due_165), some (val tInt left_214)]) (fun y269 => (!y269.1, y269.2)) (tx_not (tx_b (δ := (Bool × (List (List Int)))) (k := fun x => x.1) (e' := fun x => [some (val (tS K tInt) script), some (muL yes tInt size_138.2), some (val tInt many_43.1), some (val (tL (tL tInt)) s53.1), some (val (tL tInt) s53.2), some (val tInt x125), none, none, some (muO yes (x.2.map fun x => muL yes tInt x)), some (val tInt s107.1), some (ML.ob yes (He.ga K "Messages") (vO_Messages K told_202.2)), some (val tInt at__160), some (val tInt s141), some (muL yes tInt y205.2), some (val (tL (tL tInt)) before_159), some (val (tL (tL tInt)) due_165), some (val tInt left_214)]) (ex_pin (S' := fun p266 => muO (pinV p266) (told_202.1.map fun x => muL yes tInt x)) 8 rfl pn_muO fun p266 => (ex_call (δ := (Bool × (List (List Int)))) (S := fun x => val tBool x.1) (e' := fun x => [some (val (tS K tInt) script), some (muL yes tInt size_138.2), some (val tInt many_43.1), some (val (tL (tL tInt)) s53.1), some (val (tL tInt) s53.2), some (val tInt x125), none, none, some (muO yes (x.2.map fun x => muL yes tInt x)), some (val tInt s107.1), some (ML.ob yes (He.ga K "Messages") (vO_Messages K told_202.2)), some (val tInt at__160), some (val tInt s141), some (muL yes tInt y205.2), some (val (tL (tL tInt)) before_159), some (val (tL (tL tInt)) due_165), some (val tInt left_214)]) [.arg 0, .arg 1] 2 (fun us h => match us, h with | [_, _], _ => rfl) (ax_cons (ex_ad rfl pin_muO) fun _ => (ax_cons (ex_var (i := 15) (T := (tL (tL tInt))) rfl) fun a267 => (ax_nil ⟨rfl, ⟨(p266, told_202.1), a267⟩, [⟨8, 0, muO (pinV p266) (told_202.1.map fun x => muL yes tInt x), muO (pinV p266) (told_202.1.map fun x => muL yes tInt x), .ref p266, fun B => B⟩], [], id, id, (lok10 rfl (lens_id pin_muO)), ⟨.inr (.inl ⟨_, .head _, rfl, rfl, rfl⟩), .inl ⟨_, rfl, rfl⟩, trivial⟩, (all1 ⟨0, rfl, rfl⟩), wc_id (f := m__law_same told_202.1 a267), (fun _ _ _ _ _ h => h), (fun r268 => (fgt_c (fgt_c (fgt_c (fgt_c (fgt_c (fgt_c (fgt_n (fgt_n (fgt_w unpin_muO (fgt_c (fgt_c (fgt_c (fgt_c (fgt_c (fgt_c (fgt_c (fgt_c fgt_0)))))))))))))))))), (fun (e : Empty) => e.elim), (fun (e : Empty) => e.elim)⟩)))))))) fun y270 => (tx_or (δ := Bool) (k := fun x => x) (e1 := fun y276 => [some (val (tS K tInt) script), some (muL yes tInt size_138.2), some (val tInt many_43.1), some (val (tL (tL tInt)) s53.1), some (val (tL tInt) s53.2), some (val tInt x125), none, none, some (muO yes (y270.2.map fun x => muL yes tInt x)), some (val tInt s107.1), some (ML.ob yes (He.ga K "Messages") (vO_Messages K told_202.2)), some (val tInt at__160), some (val tInt s141), some (muL yes tInt y205.2), some (val (tL (tL tInt)) before_159), some (val (tL (tL tInt)) due_165), some (val tInt left_214)]) (τ := (Bool × (List (List Int)))) (kb := fun x => x.1) (e' := fun x => [some (val (tS K tInt) script), some (muL yes tInt size_138.2), some (val tInt many_43.1), some (val (tL (tL tInt)) s53.1), some (val (tL tInt) s53.2), some (val tInt x125), none, none, some (muO yes (x.2.map fun x => muL yes tInt x)), some (val tInt s107.1), some (ML.ob yes (He.ga K "Messages") (vO_Messages K told_202.2)), some (val tInt at__160), some (val tInt s141), some (muL yes tInt y205.2), some (val (tL (tL tInt)) before_159), some (val (tL (tL tInt)) due_165), some (val tInt left_214)]) (fun y276 => (true, y270.2)) (tp_not (tp_b (ex_call (δ := Bool) (S := fun x => val tBool x) (e' := fun _ => [some (val (tS K tInt) script), some (muL yes tInt size_138.2), some (val tInt many_43.1), some (val (tL (tL tInt)) s53.1), some (val (tL tInt) s53.2), some (val tInt x125), none, none, some (muO yes (y270.2.map fun x => muL yes tInt x)), some (val tInt s107.1), some (ML.ob yes (He.ga K "Messages") (vO_Messages K told_202.2)), some (val tInt at__160), some (val tInt s141), some (muL yes tInt y205.2), some (val (tL (tL tInt)) before_159), some (val (tL (tL tInt)) due_165), some (val tInt left_214)]) [.arg 0] 1 (fun us h => match us, h with | [_], _ => rfl) (ax_cons (ex_pin (S' := fun p271 => ML.ob (pinV p271) (He.ga K "Messages") (vO_Messages K told_202.2)) 10 rfl pn_ob fun p271 => (ex_prop (δ := Int) (S := fun x => val tInt x) (e' := fun _ => [some (val (tS K tInt) script), some (muL yes tInt size_138.2), some (val tInt many_43.1), some (val (tL (tL tInt)) s53.1), some (val (tL tInt) s53.2), some (val tInt x125), none, none, some (muO yes (y270.2.map fun x => muL yes tInt x)), some (val tInt s107.1), some (ML.ob yes (He.ga K "Messages") (vO_Messages K told_202.2)), some (val tInt at__160), some (val tInt s141), some (muL yes tInt y205.2), some (val (tL (tL tInt)) before_159), some (val (tL (tL tInt)) due_165), some (val tInt left_214)]) (ex_ad rfl pin_ob) (fun _ => rec_O (i := 10) rfl (lens_id pin_ob) (ln_Messages_pending K told_202.2)) fun _ => ⟨rfl, (p271, told_202.2), [⟨10, 0, ML.ob (pinV p271) (He.ga K "Messages") (vO_Messages K told_202.2), ML.ob (pinV p271) (He.ga K "Messages") (vO_Messages K told_202.2), .ref p271, fun B => B⟩], [], id, id, (lok10 rfl (lens_id pin_ob)), ⟨.inr (.inl ⟨_, .head _, rfl, rfl, rfl⟩), trivial⟩, (all1 ⟨0, rfl, rfl⟩), wc_id (f := m_Messages_pending told_202.2), (fun _ _ _ _ _ h => h), (fun r272 => (fgt_c (fgt_c (fgt_c (fgt_c (fgt_c (fgt_c (fgt_n (fgt_n (fgt_c (fgt_c (fgt_w unpin_ob (fgt_c (fgt_c (fgt_c (fgt_c (fgt_c (fgt_c fgt_0)))))))))))))))))), (fun (e : Empty) => e.elim), (fun (e : Empty) => e.elim)⟩)) fun a273 => (ax_nil ⟨rfl, a273, [], [], id, id, lok00, ⟨.inl ⟨_, rfl, rfl⟩, trivial⟩, (fun n hn => nomatch hn), wc_id (f := m__law_is_integer a273), (fun _ _ _ _ _ h => h), (fun r274 => (fgt_c (fgt_c (fgt_c (fgt_c (fgt_c (fgt_c (fgt_n (fgt_n (fgt_c (fgt_c (fgt_c (fgt_c (fgt_c (fgt_c (fgt_c (fgt_c (fgt_c fgt_0)))))))))))))))))), (fun (e : Empty) => e.elim), (fun (e : Empty) => e.elim)⟩))))) fun y276 => (tx_out (α := Bool) (b := fun x => x) (e' := fun y280 => [some (val (tS K tInt) script), some (muL yes tInt size_138.2), some (val tInt many_43.1), some (val (tL (tL tInt)) s53.1), some (val (tL tInt) s53.2), some (val tInt x125), none, none, some (muO yes (y270.2.map fun x => muL yes tInt x)), some (val tInt s107.1), some (ML.ob yes (He.ga K "Messages") (vO_Messages K told_202.2)), some (val tInt at__160), some (val tInt s141), some (muL yes tInt y205.2), some (val (tL (tL tInt)) before_159), some (val (tL (tL tInt)) due_165), some (val tInt left_214)]) (δ := (Bool × (List (List Int)))) (b2 := fun x => x.1) (e2 := fun x => [some (val (tS K tInt) script), some (muL yes tInt size_138.2), some (val tInt many_43.1), some (val (tL (tL tInt)) s53.1), some (val (tL tInt) s53.2), some (val tInt x125), none, none, some (muO yes (x.2.map fun x => muL yes tInt x)), some (val tInt s107.1), some (ML.ob yes (He.ga K "Messages") (vO_Messages K told_202.2)), some (val tInt at__160), some (val tInt s141), some (muL yes tInt y205.2), some (val (tL (tL tInt)) before_159), some (val (tL (tL tInt)) due_165), some (val tInt left_214)]) (fun y280 => (y280, y270.2)) (tp_e (ex_opr (ex_pin (S' := fun p277 => ML.ob (pinV p277) (He.ga K "Messages") (vO_Messages K told_202.2)) 10 rfl pn_ob fun p277 => (ex_prop (δ := Int) (S := fun x => val tInt x) (e' := fun _ => [some (val (tS K tInt) script), some (muL yes tInt size_138.2), some (val tInt many_43.1), some (val (tL (tL tInt)) s53.1), some (val (tL tInt) s53.2), some (val tInt x125), none, none, some (muO yes (y270.2.map fun x => muL yes tInt x)), some (val tInt s107.1), some (ML.ob yes (He.ga K "Messages") (vO_Messages K told_202.2)), some (val tInt at__160), some (val tInt s141), some (muL yes tInt y205.2), some (val (tL (tL tInt)) before_159), some (val (tL (tL tInt)) due_165), some (val tInt left_214)]) (ex_ad rfl pin_ob) (fun _ => rec_O (i := 10) rfl (lens_id pin_ob) (ln_Messages_pending K told_202.2)) fun _ => ⟨rfl, (p277, told_202.2), [⟨10, 0, ML.ob (pinV p277) (He.ga K "Messages") (vO_Messages K told_202.2), ML.ob (pinV p277) (He.ga K "Messages") (vO_Messages K told_202.2), .ref p277, fun B => B⟩], [], id, id, (lok10 rfl (lens_id pin_ob)), ⟨.inr (.inl ⟨_, .head _, rfl, rfl, rfl⟩), trivial⟩, (all1 ⟨0, rfl, rfl⟩), wc_id (f := m_Messages_pending told_202.2), (fun _ _ _ _ _ h => h), (fun r278 => (fgt_c (fgt_c (fgt_c (fgt_c (fgt_c (fgt_c (fgt_n (fgt_n (fgt_c (fgt_c (fgt_w unpin_ob (fgt_c (fgt_c (fgt_c (fgt_c (fgt_c (fgt_c fgt_0)))))))))))))))))), (fun (e : Empty) => e.elim), (fun (e : Empty) => e.elim)⟩)) (ex_var (i := 16) (T := tInt) rfl) fun _ => o2_neI))))) (fun t281 => (bk_at [some (val (tS K tInt) script), some (muL yes tInt size_138.2), some (val tInt many_43.1), some (val (tL (tL tInt)) s53.1), some (val (tL tInt) s53.2), some (val tInt x125), none, none, some (muO yes (t281.2.map fun x => muL yes tInt x)), some (val tInt s107.1), some (ML.ob yes (He.ga K "Messages") (vO_Messages K told_202.2)), some (val tInt at__160), some (val tInt s141), some (muL yes tInt y205.2), some (val (tL (tL tInt)) before_159), some (val (tL (tL tInt)) due_165), some (val tInt left_214)] (bk_ret (emb := Out.ret) emb_L ex_bl (fun _ => fgt_nil)))) (fun t281 => (bk_at [some (val (tS K tInt) script), some (muL yes tInt size_138.2), some (val tInt many_43.1), some (val (tL (tL tInt)) s53.1), some (val (tL tInt) s53.2), some (val tInt x125), none, none, some (muO yes (t281.2.map fun x => muL yes tInt x)), some (val tInt s107.1), some (ML.ob yes (He.ga K "Messages") (vO_Messages K told_202.2)), some (val tInt at__160), some (val tInt s141), some (muL yes tInt y205.2), some (val (tL (tL tInt)) before_159), some (val (tL (tL tInt)) due_165), some (val tInt left_214)] (bl_nx (a := (size_138.2, at__160, told_202.2)) (fgt_c (fgt_c (fgt_c (fgt_c (fgt_c (fgt_n (fgt_n (fgt_n (fgt_n (fgt_c (fgt_c (fgt_c (fgt_n (fgt_n (fgt_n (fgt_n (fgt_n fgt_0))))))))))))))))))))))))))))))))))))))))) fun c123 s126 => (bk_at [some (val (tS K tInt) script), some (muL yes tInt s126.1), some (val tInt many_43.1), some (val (tL (tL tInt)) s53.1), some (val (tL tInt) s53.2), none, none, none, none, some (val tInt s107.1), some (ML.ob yes (He.ga K "Messages") (vO_Messages K s126.2.2)), some (val tInt s126.2.1), none, none, none, none, none] (br_ret (ex_out (S2 := fun x => val tBool x) (e2 := fun _ => []) (fun r336 => r336.1) (ex_fgt (ex_orE (τ := (Bool × (List Int))) (δ := (Bool × (List Int))) (k := fun x => x.1) (S := fun x => val tBool x.1) (e' := fun x => [some (val (tS K tInt) script), some (muL yes tInt x.2), some (val tInt many_43.1), some (val (tL (tL tInt)) s53.1), some (val (tL tInt) s53.2), none, none, none, none, some (val tInt s107.1), some (ML.ob yes (He.ga K "Messages") (vO_Messages K s126.2.2)), some (val tInt s126.2.1), none, none, none, none, none]) (fun y332 => (true, y332.2)) (ex_opE (α := (Int × (List Int))) (β := Int) (Sa := fun (y329 : (Int × (List Int))) => val tInt y329.1) (Sb := fun (y329 : (Int × (List Int))) (y330 : Int) => val tInt y330) (e1 := fun (y329 : (Int × (List Int))) => [some (val (tS K tInt) script), some (muL yes tInt y329.2), some (val tInt many_43.1), some (val (tL (tL tInt)) s53.1), some (val (tL tInt) s53.2), none, none, none, none, some (val tInt s107.1), some (ML.ob yes (He.ga K "Messages") (vO_Messages K s126.2.2)), some (val tInt s126.2.1), none, none, none, none, none]) (e2 := fun (y329 : (Int × (List Int))) (y330 : Int) => [some (val (tS K tInt) script), some (muL yes tInt y329.2), some (val tInt many_43.1), some (val (tL (tL tInt)) s53.1), some (val (tL tInt) s53.2), none, none, none, none, some (val tInt s107.1), some (ML.ob yes (He.ga K "Messages") (vO_Messages K s126.2.2)), some (val tInt s126.2.1), none, none, none, none, none]) (δ := (Bool × (List Int))) (S := fun x => val tBool x.1) (e' := fun x => [some (val (tS K tInt) script), some (muL yes tInt x.2), some (val tInt many_43.1), some (val (tL (tL tInt)) s53.1), some (val (tL tInt) s53.2), none, none, none, none, some (val tInt s107.1), some (ML.ob yes (He.ga K "Messages") (vO_Messages K s126.2.2)), some (val tInt s126.2.1), none, none, none, none, none]) (fun y329 y330 y331 => (y331, y329.2)) (by exact (ex_pin (S' := fun p326 => muL (pinV p326) tInt s126.1) 1 rfl pn_mu fun p326 => (ex_call (δ := (Int × (List Int))) (S := fun x => val tInt x.1) (e' := fun x => [some (val (tS K tInt) script), some (muL yes tInt x.2), some (val tInt many_43.1), some (val (tL (tL tInt)) s53.1), some (val (tL tInt) s53.2), none, none, none, none, some (val tInt s107.1), some (ML.ob yes (He.ga K "Messages") (vO_Messages K s126.2.2)), some (val tInt s126.2.1), none, none, none, none, none]) [.arg 0, .arg 1] 2 (fun us h => match us, h with | [_, _], _ => rfl) (ax_cons (ex_ad rfl pin_mu) fun _ => (ax_cons ex_int fun a327 => (ax_nil ⟨rfl, ⟨(p326, s126.1), a327⟩, [⟨1, 0, muL (pinV p326) tInt s126.1, muL (pinV p326) tInt s126.1, .ref p326, fun B => B⟩], [], id, id, (lok10 rfl (lens_id pin_mu)), ⟨.inr (.inl ⟨_, .head _, rfl, rfl, rfl⟩), .inl ⟨_, rfl, rfl⟩, trivial⟩, (all1 ⟨0, rfl, rfl⟩), wc_id (f := m__law_digit s126.1 a327), (fun _ _ _ _ _ h => h), (fun r328 => (fgt_c (fgt_w unpin_mu (fgt_c (fgt_c (fgt_c (fgt_n (fgt_n (fgt_n (fgt_n (fgt_c (fgt_c (fgt_c (fgt_n (fgt_n (fgt_n (fgt_n (fgt_n fgt_0)))))))))))))))))), (fun (e : Empty) => e.elim), (fun (e : Empty) => e.elim)⟩)))))) (fun y329 => (by exact ex_int)) fun y329 y330 => o2_cmp) fun y332 => (ex_out (δ := (Bool × (List Int))) (S2 := fun x => val tBool x.1) (e2 := fun x => [some (val (tS K tInt) script), some (muL yes tInt x.2), some (val tInt many_43.1), some (val (tL (tL tInt)) s53.1), some (val (tL tInt) s53.2), none, none, none, none, some (val tInt s107.1), some (ML.ob yes (He.ga K "Messages") (vO_Messages K s126.2.2)), some (val tInt s126.2.1), none, none, none, none, none]) (fun y335 => (y335.1, y335.2)) (ex_pin (S' := fun p333 => muL (pinV p333) tInt y332.2) 1 rfl pn_mu fun p333 => (ex_call (δ := (Bool × (List Int))) (S := fun x => val tBool x.1) (e' := fun x => [some (val (tS K tInt) script), some (muL yes tInt x.2), some (val tInt many_43.1), some (val (tL (tL tInt)) s53.1), some (val (tL tInt) s53.2), none, none, none, none, some (val tInt s107.1), some (ML.ob yes (He.ga K "Messages") (vO_Messages K s126.2.2)), some (val tInt s126.2.1), none, none, none, none, none]) [.arg 0] 1 (fun us h => match us, h with | [_], _ => rfl) (ax_cons (ex_ad rfl pin_mu) fun _ => (ax_nil ⟨rfl, (p333, y332.2), [⟨1, 0, muL (pinV p333) tInt y332.2, muL (pinV p333) tInt y332.2, .ref p333, fun B => B⟩], [], id, id, (lok10 rfl (lens_id pin_mu)), ⟨.inr (.inl ⟨_, .head _, rfl, rfl, rfl⟩), trivial⟩, (all1 ⟨0, rfl, rfl⟩), wc_id (f := m__law_too_long y332.2), (fun _ _ _ _ _ h => h), (fun r334 => (fgt_c (fgt_w unpin_mu (fgt_c (fgt_c (fgt_c (fgt_n (fgt_n (fgt_n (fgt_n (fgt_c (fgt_c (fgt_c (fgt_n (fgt_n (fgt_n (fgt_n (fgt_n fgt_0)))))))))))))))))), (fun (e : Empty) => e.elim), (fun (e : Empty) => e.elim)⟩)))))) fun _ => fgt_nil)) (fun _ => fgt_nil)))))))))))))))))))))))))))
    (by unfold m_law; first | (simp -implicitDefEqProofs only [R.bind_ok, R.of_some, R.mapE_ok, id_eq, R.bind_ok', R.mapE_E]; done) | (simp -implicitDefEqProofs only [R.bind_ok, R.of_some, R.mapE_ok, id_eq, R.bind_ok', R.bind_assoc, R.mapE_E]; done) | (simp -implicitDefEqProofs only [R.bind_ok, R.of_some, R.mapE_ok, id_eq, R.bind_ok', R.bind_assoc, R.mapE_E, R.gR_bind]; done) | (simp -implicitDefEqProofs only [R.bind_ok, R.of_some, R.mapE_ok, id_eq, R.bind_ok', R.bind_assoc, R.mapE_E, R.gR_bind]; rfl) | (simp -implicitDefEqProofs only [R.bind_ok, R.of_some, R.mapE_ok, id_eq, R.bind_ok', R.bind_assoc, R.mapE_E]; rfl))
end LW
end NL

set_option Elab.async false
set_option linter.all false
set_option maxRecDepth 100000
set_option maxHeartbeats 4000000
namespace NL
open PySem PySem.Spec PyProof.Rows L2 ML
namespace LW
def fr (m : List Int) : List Int := [(m.length : Int) / 256, (m.length : Int) % 256] ++ m
def Fm (ms : List (List Int)) : List Int := (ms.map fr).flatten
def pl (ms : List (List Int)) : Nat := (Fm ms).length
def cnt : List (List Int) → Nat → Nat
  | [], _ => 0
  | m :: ms, n => if m.length + 2 ≤ n then 1 + cnt ms (n - (m.length + 2)) else 0
theorem Fm_cons (m : List Int) (ms : List (List Int)) : Fm (m :: ms) = fr m ++ Fm ms := by simp [Fm]
theorem fr_len (m : List Int) : (fr m).length = m.length + 2 := by simp [fr]
theorem pl_cons (m : List Int) (ms : List (List Int)) : pl (m :: ms) = m.length + 2 + pl ms := by simp [pl, Fm_cons, fr_len]
theorem pl_nil : pl [] = 0 := rfl
theorem pl_sum : ∀ ms : List (List Int), (ms.map fun x => (x.length : Int) + 2).sum = (pl ms : Int)
  | [] => rfl
  | m :: ms => by rw [List.map_cons, List.sum_cons, pl_sum ms, pl_cons]; omega
theorem Fm_app (a b : List (List Int)) : Fm (a ++ b) = Fm a ++ Fm b := by simp [Fm]
theorem Fm_split (ms : List (List Int)) (j : Nat) : Fm ms = Fm (ms.take j) ++ Fm (ms.drop j) := by rw [← Fm_app, List.take_append_drop]
theorem pl_split (ms : List (List Int)) (j : Nat) : pl ms = pl (ms.take j) + pl (ms.drop j) := by
  unfold pl; rw [Fm_split ms j, List.length_append]
theorem cnt_le : ∀ (ms : List (List Int)) (n : Nat), cnt ms n ≤ ms.length
  | [], _ => Nat.le_refl _
  | m :: ms, n => by
    unfold cnt
    split
    · have := cnt_le ms (n - (m.length + 2)); simp; omega
    · omega
theorem cnt_pl : ∀ (ms : List (List Int)) (n : Nat), pl (ms.take (cnt ms n)) ≤ n
  | [], _ => by simp [pl_nil]
  | m :: ms, n => by
    unfold cnt
    split
    · rw [Nat.add_comm 1, List.take_succ_cons, pl_cons]
      have := cnt_pl ms (n - (m.length + 2)); omega
    · simp [pl_nil]
theorem cnt_add : ∀ (ms : List (List Int)) (j n : Nat), j ≤ ms.length → pl (ms.take j) ≤ n → cnt ms n = j + cnt (ms.drop j) (n - pl (ms.take j))
  | ms, 0, n, _, _ => by simp [pl_nil]
  | [], j + 1, n, h, _ => by simp at h
  | m :: ms, j + 1, n, h, h2 => by
    rw [List.take_succ_cons, pl_cons] at h2 ⊢
    rw [List.drop_succ_cons]
    have ih := cnt_add ms j (n - (m.length + 2)) (by simpa using h) (by omega)
    unfold cnt
    rw [if_pos (by omega), ih, show n - (m.length + 2) - pl (ms.take j) = n - (m.length + 2 + pl (ms.take j)) by omega]
    cases ms.drop j <;> (simp only [cnt]; omega)
theorem cnt_mono {ms : List (List Int)} {a b : Nat} (h : a ≤ b) : cnt ms b = cnt ms a + cnt (ms.drop (cnt ms a)) (b - pl (ms.take (cnt ms a))) :=
  cnt_add ms _ b (cnt_le _ _) (Nat.le_trans (cnt_pl ms a) h)
/-- the law's own count -/
theorem whole_go (c : Nat) : ∀ (ms : List (List Int)) (a : Nat) (told : List (List Int)), told.length + ms.length ≤ 1000 →
    forN ms ((a : Int), told) (fun x148 (s147 : Int × (List (List Int))) =>
      let at__150 : Int := ((s147.1 + (2 : Int)) + (x148.length : Int))
      (if (decide (at__150 ≤ (c : Int))) = true then
        (gR (s147.2.length < 16777216) (R.ok ((), (s147.2 ++ [x148])))).bind fun y154 => (R.ok (at__150, y154.2) : R Empty (Int × List (List Int)))
      else R.ok (at__150, s147.2))) = R.ok (((a + pl ms : Nat) : Int), told ++ ms.take (if a ≤ c then cnt ms (c - a) else 0))
  | [], a, told, _ => by simp [pl_nil]
  | m :: ms, a, told, h => by
    rw [forN_cons]
    have e : ((a : Int) + 2) + (m.length : Int) = ((a + (m.length + 2) : Nat) : Int) := by omega
    dsimp only
    rw [e]
    simp only [List.length_cons] at h
    by_cases z : a + (m.length + 2) ≤ c
    · rw [if_pos (decide_eq_true (by omega)), gR_ok (by omega), R.bind_ok, R.bind_ok, whole_go c ms _ _ (by simp; omega), pl_cons]
      congr 2
      · congr 1; omega
      · rw [if_pos z, if_pos (by omega)]
        show _ = told ++ List.take (if m.length + 2 ≤ c - a then 1 + cnt ms (c - a - (m.length + 2)) else 0) (m :: ms)
        rw [if_pos (by omega), Nat.add_comm 1, List.take_succ_cons, show c - (a + (m.length + 2)) = c - a - (m.length + 2) by omega]
        simp
    · rw [if_neg (by simp; omega), R.bind_ok, whole_go c ms _ _ (by omega), pl_cons]
      congr 2
      · congr 1; omega
      · rw [if_neg z]
        have : (if a ≤ c then cnt (m :: ms) (c - a) else 0) = 0 := by
          split
          · unfold cnt; rw [if_neg (by omega)]
          · rfl
        rw [this]; simp
theorem whole_ok {ms : List (List Int)} {c : Nat} (h : ms.length ≤ 1000) : m__law_whole ms (c : Int) = R.ok (ms.take (cnt ms c)) := by
  unfold m__law_whole
  dsimp only
  have := whole_go c ms 0 [] (by simpa using h)
  rw [show ((0 : Nat) : Int) = 0 from rfl] at this
  rw [this, R.bind_ok]
  simp
/-- the reader -/
def sz : List (List Int) → Nat → Option Int
  | [], _ => none
  | m :: _, n => if m.length + 2 ≤ n then some (m.length : Int) else none
theorem sz_cons (m : List Int) (ms : List (List Int)) (n : Nat) : sz (m :: ms) n = if m.length + 2 ≤ n then some (m.length : Int) else none := rfl
theorem cnt_cons (m : List Int) (ms : List (List Int)) (n : Nat) : cnt (m :: ms) n = if m.length + 2 ≤ n then 1 + cnt ms (n - (m.length + 2)) else 0 := rfl
theorem size_ok {r : R_Messages} {pre : List Int} {ms : List (List Int)} {n : Nat} (e : r.waiting = pre ++ (Fm ms).take n) (hn : n ≤ pl ms) : m_Messagessize_at r (pre.length : Int) = R.ok (sz ms n) := by
  unfold m_Messagessize_at
  have hl : r.waiting.length = pre.length + n := by
    rw [e, List.length_append, List.length_take]
    have : (Fm ms).length = pl ms := rfl
    omega
  rw [hl]
  cases ms with
  | nil =>
    rw [pl_nil] at hn
    rw [if_pos (decide_eq_true (by omega))]
    rfl
  | cons m ms =>
    by_cases h2 : n < 2
    · rw [if_pos (decide_eq_true (by omega))]
      rw [sz_cons, if_neg (by omega)]
    · rw [if_neg (by simp; omega)]
      obtain ⟨k, rfl⟩ : ∃ k, n = k + 2 := ⟨n - 2, by omega⟩
      have e1 : (Fm (m :: ms)).take (k + 2) = (m.length : Int) / 256 :: (m.length : Int) % 256 :: (m ++ Fm ms).take k := by
        rw [Fm_cons]; rfl
      have a0 : atI r.waiting (pre.length : Int) = some ((m.length : Int) / 256) := by
        refine atI_nat ?_
        rw [e, e1, List.getElem?_append_right (Nat.le_refl _)]; simp
      have a1 : atI r.waiting ((pre.length : Int) + 1) = some ((m.length : Int) % 256) := by
        rw [show (pre.length : Int) + 1 = ((pre.length + 1 : Nat) : Int) by omega]
        refine atI_nat ?_
        rw [e, e1, List.getElem?_append_right (by omega)]; simp
      have ez : (m.length : Int) / 256 * 256 + (m.length : Int) % 256 = (m.length : Int) := by omega
      simp -implicitDefEqProofs only [a0, a1, R.of_some, R.bind_ok, ez]
      rw [sz_cons]
      by_cases z : m.length + 2 ≤ k + 2
      · rw [if_pos z, if_neg (by simp; omega)]
      · rw [if_neg z, if_pos (decide_eq_true (by omega))]
theorem sz_none {ms : List (List Int)} {n : Nat} (h : sz ms n = none) : cnt ms n = 0 := by
  cases ms with
  | nil => rfl
  | cons m ms =>
    rw [sz_cons] at h
    rw [cnt_cons]
    by_cases z : m.length + 2 ≤ n
    · rw [if_pos z] at h; cases h
    · rw [if_neg z]
theorem sz_some {ms : List (List Int)} {n : Nat} {z : Int} (h : sz ms n = some z) : ∃ m rest, ms = m :: rest ∧ m.length + 2 ≤ n ∧ z = (m.length : Int) := by
  cases ms with
  | nil => cases h
  | cons m ms =>
    rw [sz_cons] at h
    by_cases q : m.length + 2 ≤ n
    · rw [if_pos q] at h; cases h; exact ⟨m, ms, rfl, q, rfl⟩
    · rw [if_neg q] at h; cases h
theorem feed_ok {r : R_Messages} {part : List Int} {ms : List (List Int)} {n : Nat} (e : r.waiting ++ part = (Fm ms).take n) (hn : n ≤ pl ms) (hm : ms.length ≤ 100) (hp : pl ms ≤ 1000000) :
    m_Messages_feed r part = R.ok (ms.take (cnt ms n), { waiting := ((Fm ms).take n).drop (pl (ms.take (cnt ms n))) }) := by
  have hl : ((Fm ms).take n).length = n := by
    rw [List.length_take]
    have : (Fm ms).length = pl ms := rfl
    omega
  have hg : r.waiting.length + part.length ≤ 16777216 := by
    rw [← List.length_append, e, hl]; omega
  unfold m_Messages_feed
  simp -implicitDefEqProofs only [gR_ok hg, R.bind_ok, e]
  have hw : ∀ j, j ≤ ms.length → pl (ms.take j) ≤ n → m_Messagessize_at { waiting := (Fm ms).take n } ((pl (ms.take j) : Nat) : Int) = R.ok (sz (ms.drop j) (n - pl (ms.take j))) := fun j _ h2 => by
    have e1 : (Fm ms).take n = Fm (ms.take j) ++ (Fm (ms.drop j)).take (n - pl (ms.take j)) := by
      conv => lhs; rw [Fm_split ms j]
      rw [List.take_append, List.take_of_length_le h2]; rfl
    refine size_ok (r := { waiting := (Fm ms).take n }) (pre := Fm (ms.take j)) e1 ?_
    have := pl_split ms j
    omega
  have h0 := hw 0 (Nat.zero_le _) (by simp [pl_nil])
  rw [show ((pl (ms.take 0) : Nat) : Int) = 0 from rfl] at h0
  rw [h0, R.bind_ok]
  obtain ⟨d, ed, q⟩ : Ok (whileN 1000 (([] : List (List Int)), (0 : Int), sz (ms.drop 0) (n - pl (ms.take 0))) (fun (s185 : (List (List Int)) × Int × (Option Int)) => (R.ok (s185.2.2.isSome, s185) : R Empty _)) (fun x => x.1) fun (w187 : (Bool × (List (List Int)) × Int × (Option Int))) =>
      (((((R.of w187.2.2.2).bind fun v190 => R.ok ((w187.2.2.1 + (2 : Int)) + v190)).bind fun a => R.ok (some a)).bind fun v191 => R.ok (cutL ((Fm ms).take n) (some (w187.2.2.1 + (2 : Int))) v191)).bind fun y192 => gR (w187.2.1.length < 16777216) (R.ok ((), (w187.2.1 ++ [y192])))).bind fun y193 =>
      (((R.of w187.2.2.2).bind fun v194 => R.ok ((2 : Int) + v194)).bind fun v199 => R.ok (w187.2.2.1 + v199)).bind fun (at__195 : Int) =>
      (m_Messagessize_at { waiting := (Fm ms).take n } at__195).bind fun (size_198 : (Option Int)) =>
      R.ok (y193.2, at__195, size_198)) fun d => d.2.1 = ms.take (cnt ms n) ∧ d.2.2.1 = (pl (ms.take (cnt ms n)) : Int) := by
    refine Ok.whileN (fun s => ∃ j, j ≤ ms.length ∧ pl (ms.take j) ≤ n ∧ s.1 = ms.take j ∧ s.2.1 = (pl (ms.take j) : Int) ∧ s.2.2 = sz (ms.drop j) (n - pl (ms.take j))) (fun s => ms.length - s.1.length) (fun s hs => Ok.ok ?_) ⟨0, Nat.zero_le _, by simp [pl_nil], rfl, rfl, rfl⟩ (by show ms.length - 0 < 1000; omega)
    obtain ⟨acc, at_, so⟩ := s
    obtain ⟨j, j1, j2, rfl, rfl, rfl⟩ := hs
    dsimp only
    refine ⟨fun hb => ?_, fun hb => ?_⟩
    · cases hz : sz (ms.drop j) (n - pl (ms.take j)) with
      | none => rw [hz] at hb; cases hb
      | some z =>
        obtain ⟨m, rest, em, m1, rfl⟩ := sz_some hz
        have jl : j < ms.length := by
          have := congrArg List.length em
          simp at this; omega
        have etk : ms.take (j + 1) = ms.take j ++ [m] := by
          rw [List.take_add_one]
          have : ms[j]? = some m := by
            have := congrArg (fun l => l[0]?) em
            simpa using this
          rw [this]; rfl
        have epl : pl (ms.take (j + 1)) = pl (ms.take j) + (m.length + 2) := by
          unfold pl
          rw [etk, Fm_app, List.length_append]
          simp [Fm, fr_len]
        have ecut : cutL ((Fm ms).take n) (some ((pl (ms.take j) : Int) + 2)) (some ((pl (ms.take j) : Int) + 2 + (m.length : Int))) = m := by
          rw [cutL_mid (by omega) (by omega)]
          have t1 : ((pl (ms.take j) : Int) + 2).toNat = pl (ms.take j) + 2 := by omega
          have t2 : ((pl (ms.take j) : Int) + 2 + (m.length : Int)).toNat - (pl (ms.take j) + 2) = m.length := by omega
          rw [t1, t2, List.drop_take, List.take_take, Nat.min_eq_left (by omega), Fm_split ms j, em]
          rw [List.drop_append, show (Fm (ms.take j)).length = pl (ms.take j) from rfl, List.drop_of_length_le (by show pl (ms.take j) ≤ _; omega), show pl (ms.take j) + 2 - pl (ms.take j) = 2 by omega, Fm_cons, List.nil_append]
          show List.take m.length (m ++ Fm rest) = m
          rw [List.take_left]
        have hj := hw (j + 1) jl (by rw [epl]; omega)
        have lt : (ms.take j).length = j := by rw [List.length_take]; omega
        simp -implicitDefEqProofs only [hz, R.of_some, R.bind_ok, ecut, gR_ok (show (ms.take j).length < 16777216 by rw [lt]; omega)]
        rw [show ((pl (ms.take j) : Int) + (2 + (m.length : Int))) = ((pl (ms.take (j + 1)) : Nat) : Int) by rw [epl]; omega, hj, R.bind_ok]
        refine Ok.ok ⟨⟨j + 1, jl, by rw [epl]; omega, etk.symm, rfl, rfl⟩, ?_⟩
        rw [List.length_append, lt]; simp; omega
    · cases hz : sz (ms.drop j) (n - pl (ms.take j)) with
      | some z => rw [hz] at hb; cases hb
      | none =>
        have := cnt_add ms j n j1 j2
        rw [sz_none hz, Nat.add_zero] at this
        rw [this]
        exact ⟨rfl, rfl⟩
  rw [ed, R.bind_ok]
  obtain ⟨q1, q2⟩ := q
  rw [q1, q2, cutL_lo (by omega)]
  rfl
theorem dg {st : List Int} {n : Int} (h : st.length = 1) (h0 : 0 < n) (h1 : n ≤ 1000000) : Ok (m__law_digit st n) fun r => 0 ≤ r.1 ∧ r.1 < n ∧ r.2.length = 1 := by
  match st, h with
  | [c], _ =>
    unfold m__law_digit
    have l9 : n.natAbs.log2 < 9000 := by have := ML.log2_small (a := n) (n := 20) (by omega) (by omega) (by omega); omega
    have e : atI [c] (0 : Int) = some c := rfl
    rw [e]
    simp only [R.of_some, R.bind_ok, grd_pos h0, grd_pos (show 0 < n ∧ n.natAbs.log2 < 9000 from ⟨h0, l9⟩)]
    have e2 : setI [c] (0 : Int) (c / n) = some [c / n] := rfl
    rw [e2]
    exact Ok.ok ⟨Int.emod_nonneg _ (by omega), Int.emod_lt_of_pos _ h0, rfl⟩
theorem start_ok (c k : Int) (h0 : 0 ≤ k) (h1 : k ≤ 1000) : Ok (m__law_start c k) fun r => r.length = 1 := by
  unfold m__law_start
  dsimp only
  refine Ok.bind (Ok.mono (P := fun _ => True) (by ((repeat' (first | with_reducible refine Ok.ok ?_ | with_reducible refine Ok.bind ?_ | with_reducible refine Ok.dec (fun _ => ?_) (fun _ => ?_) | with_reducible refine Ok.ndec (fun _ => ?_) (fun _ => ?_) | with_reducible refine Ok.not (fun _ => ?_) (fun _ => ?_) | with_reducible refine Ok.ite (fun _ => ?_) (fun _ => ?_) | with_reducible refine Ok.thenO ?_ | with_reducible refine Ok.ofs ?_ | dsimp only)) <;> try contradiction) <;> trivial) fun _ _ => ?_)
  refine Ok.ite (fun _ => ?_) fun _ => Ok.ok rfl
  refine Ok.bind (Ok.grd (by decide) ?_)
  have hm := Int.emod_nonneg (c * 2654435761 + (k + 1) * 6700417) (show (618970019642690137449562111 : Int) ≠ 0 by decide)
  have hm2 := Int.emod_lt_of_pos (c * 2654435761 + (k + 1) * 6700417) (show (0 : Int) < 618970019642690137449562111 by decide)
  generalize (c * 2654435761 + (k + 1) * 6700417) % 618970019642690137449562111 = m at hm hm2
  have hl : (m : Int).natAbs.log2 + (m : Int).natAbs.log2 < 1000000 := by
    have e1 := ML.log2_small (a := m) (n := 90) (by omega) (by omega) (by omega)
    omega
  ((repeat' (first | with_reducible refine Ok.ok ?_ | with_reducible refine Ok.bind ?_ | with_reducible refine Ok.dec (fun _ => ?_) (fun _ => ?_) | with_reducible refine Ok.ndec (fun _ => ?_) (fun _ => ?_) | with_reducible refine Ok.not (fun _ => ?_) (fun _ => ?_) | with_reducible refine Ok.ite (fun _ => ?_) (fun _ => ?_) | with_reducible refine Ok.thenO ?_ | with_reducible refine Ok.ofs ?_ | dsimp only)) <;> try contradiction)
  refine Ok.grd hl ?_
  ((repeat' (first | with_reducible refine Ok.ok ?_ | with_reducible refine Ok.bind ?_ | with_reducible refine Ok.dec (fun _ => ?_) (fun _ => ?_) | with_reducible refine Ok.ndec (fun _ => ?_) (fun _ => ?_) | with_reducible refine Ok.not (fun _ => ?_) (fun _ => ?_) | with_reducible refine Ok.ite (fun _ => ?_) (fun _ => ?_) | with_reducible refine Ok.thenO ?_ | with_reducible refine Ok.ofs ?_ | dsimp only)) <;> try contradiction)
  refine Ok.grd (by decide) ?_
  ((repeat' (first | with_reducible refine Ok.ok ?_ | with_reducible refine Ok.bind ?_ | with_reducible refine Ok.dec (fun _ => ?_) (fun _ => ?_) | with_reducible refine Ok.ndec (fun _ => ?_) (fun _ => ?_) | with_reducible refine Ok.not (fun _ => ?_) (fun _ => ?_) | with_reducible refine Ok.ite (fun _ => ?_) (fun _ => ?_) | with_reducible refine Ok.thenO ?_ | with_reducible refine Ok.ofs ?_ | dsimp only)) <;> try contradiction)
  rfl
theorem isint (z : Int) : m__law_is_integer z = R.ok true := by unfold m__law_is_integer; rfl
theorem cell_ok {ns : List Int} {k : Int} (h0 : 0 ≤ k) : Ok (m__law_cell ns k) fun _ => True := by
  unfold m__law_cell
  ((repeat' (first | with_reducible refine Ok.ok ?_ | with_reducible refine Ok.bind ?_ | with_reducible refine Ok.dec (fun _ => ?_) (fun _ => ?_) | with_reducible refine Ok.ndec (fun _ => ?_) (fun _ => ?_) | with_reducible refine Ok.not (fun _ => ?_) (fun _ => ?_) | with_reducible refine Ok.ite (fun _ => ?_) (fun _ => ?_) | with_reducible refine Ok.thenO ?_ | with_reducible refine Ok.ofs ?_ | dsimp only)) <;> try contradiction)
  exact Ok.at h0 ‹_› fun _ _ _ => trivial
theorem message_ok {st : List Int} {many : Int} (h : st.length = 1) (h0 : 10 ≤ many) (h1 : many ≤ 701) : Ok (m__law_message st many) fun r => r.1.length ≤ 700 ∧ r.2.length = 1 := by
  unfold m__law_message
  refine Ok.bind ((dg h (by omega) (by omega)).mono fun r ⟨a1, a2, a3⟩ => ?_)
  refine Ok.bind ((dg a3 (by omega) (by omega)).mono fun r2 ⟨b1, b2, b3⟩ => ?_)
  refine Ok.bind (Ok.bind (Ok.r1 a1 (by omega) (Ok.gr (by rw [rangeL_len]; omega) ?_)))
  exact Ok.mapR (g := fun x61 => ((r2.1 + ((3 : Int) * x61)) + (x61 / (7 : Int))) % (256 : Int)) (fun x _ => rfl) (Ok.ok ⟨by rw [List.length_map, rangeL_len]; omega, b3⟩)
theorem frame_ok {m : List Int} (h : m.length ≤ 700) : m_frame_message m = R.ok (fr m) := by
  unfold m_frame_message
  rw [if_neg (by simp; omega), grd_pos (by simp; omega)]
  rfl
theorem pick_nat {α : Type} {xs : List α} {j : Nat} {x : α} (h : xs[j]? = some x) : pickI xs (j : Int) = some (j, x) := by
  unfold pickI
  have hl := (List.getElem?_eq_some_iff.mp h).1
  have e : ixN xs.length (j : Int) = some j := by
    unfold ixN
    rw [if_pos (by omega), if_pos (by omega)]; rfl
  rw [e]
  simp [h]
theorem same_ok {t : List (List Int)} (h : t.length ≤ 1000) (hm : ∀ m ∈ t, m.length ≤ 700) : Ok (m__law_same t t) fun r => r.1 = true := by
  unfold m__law_same
  simp -implicitDefEqProofs only [Bool.not_true, Bool.false_eq_true, if_false, R.bind_ok, decide_true]
  refine Ok.bind (Ok.r1 (by omega) (by omega) ?_)
  refine Ok.forR (fun j s => s.length = t.length ∧ ∀ k, j ≤ k → s[k]? = t[k]?) ⟨rfl, fun _ _ => rfl⟩ (fun j x s hx hp => ?_) fun s _ => Ok.ok rfl
  obtain ⟨p1, p2⟩ := hp
  obtain ⟨hj, hxj⟩ := rangeL_get hx
  have hxj : x = (j : Int) := by omega
  subst hxj
  have hj : j < t.length := by omega
  obtain ⟨m, hm1⟩ : ∃ m, t[j]? = some m := ⟨t[j], List.getElem?_eq_getElem hj⟩
  have hs := (p2 j (Nat.le_refl _)).trans hm1
  have hml := hm m (List.mem_of_getElem? hm1)
  rw [atI_nat hs, atI_nat hm1, pick_nat hs]
  simp -implicitDefEqProofs only [R.of_some, R.bind_ok, Bool.not_true, Bool.false_eq_true, if_false, decide_true]
  refine Ok.forR (fun _ _ => True) trivial (fun _ y _ _ _ => ?_) fun _ _ => ?_
  · rw [isint]
    exact Ok.ok trivial
  · rw [gR_ok (by omega)]
    refine Ok.ok ⟨by rw [List.length_set]; exact p1, fun k hk => ?_⟩
    rw [List.getElem?_set_ne (by omega)]
    exact p2 k (by omega)
theorem long_ok {st : List Int} (h : st.length = 1) : Ok (m__law_too_long st) fun r => r.1 = true := by
  unfold m__law_too_long
  obtain ⟨r, er, r1, r2, r3⟩ := dg (n := 3) h (by decide) (by decide)
  rw [er]
  simp -implicitDefEqProofs only [R.mapE_ok, R.of_some, R.bind_ok]
  rw [grd_pos ⟨by omega, by omega, by simp; omega⟩]
  simp -implicitDefEqProofs only [R.of_some, R.bind_ok]
  have ef : m_frame_message (List.replicate (65536 + r.1).toNat [(1 : Int)]).flatten = R.er XC.InvalidAmount := by
    unfold m_frame_message
    rw [if_pos]
    simp
    omega
  rw [ef]
  exact Ok.ok rfl
theorem law_true (ns : List Int) (hl : ns.length ≤ 63) : m_law ns = R.ok true := by
  refine Ok.fin ?_
  unfold m_law
  refine Ok.bind (Ok.bind ((cell_ok (by decide)).mono fun c _ => (start_ok c 0 (by decide) (by decide)).mono fun st hst => ?_))
  refine Ok.bind (Ok.mono (P := fun r => 10 ≤ r.1 ∧ r.1 ≤ 701 ∧ r.2.length = 1) ?_ fun many ⟨m1, m2, m3⟩ => ?_)
  · refine Ok.bind (Ok.bind (Ok.bind ((dg hst (by decide) (by decide)).mono fun r ⟨a1, a2, a3⟩ => ?_)))
    refine Ok.bind (Ok.ofs (Ok.ok (Ok.bind (Ok.ofs (Ok.ok ?_)))))
    refine Ok.bind (Ok.at (by dsimp only; split <;> decide) (by dsimp only; split <;> decide) fun y _ hy => Ok.ok ?_)
    rcases List.mem_cons.mp hy with rfl | hy
    · exact ⟨by dsimp only; decide, by dsimp only; decide, a3⟩
    · rcases List.mem_cons.mp hy with rfl | hy
      · exact ⟨by dsimp only; decide, by dsimp only; decide, a3⟩
      · cases hy
  refine Ok.bind (Ok.bind ((dg m3 (by decide) (by decide)).mono fun r ⟨a1, a2, a3⟩ => ?_))
  rw [range1_int a1 (by omega)]
  refine Ok.ofs ?_
  dsimp only
  refine Ok.forR (fun j s => s.1.length = j ∧ (∀ m ∈ s.1, m.length ≤ 700) ∧ s.2 = Fm s.1 ∧ s.2.length ≤ 702 * j) ⟨rfl, fun _ h => absurd h (List.not_mem_nil), rfl, by simp⟩ (fun j x s hx hp => ?_) fun s hp => ?_
  · obtain ⟨msgs, octs⟩ := s
    obtain ⟨p1, p2, p3, p4⟩ := hp
    dsimp only at p1 p2 p3 p4
    obtain ⟨hj, hxj⟩ := rangeL_get hx
    have hj : j < 12 := by omega
    refine Ok.bind (Ok.bind (Ok.bind ((cell_ok (by omega)).mono fun c _ => (start_ok c x (by omega) (by omega)).mono fun st2 hst2 => ?_)))
    refine Ok.bind ((message_ok hst2 m1 m2).mono fun r2 ⟨b1, b2⟩ => Ok.ok ?_)
    generalize r2.1 = m at b1
    rw [frame_ok b1]
    have hf : (fr m).length = m.length + 2 := fr_len m
    have e2 : [(m.length : Int) / 256, (m.length : Int) % 256] ++ m = fr m := rfl
    simp -implicitDefEqProofs only [R.dropE, R.bind_ok, gR_ok (show m.length < 16777216 by omega), Bool.not_true, Bool.false_eq_true, if_false, e2, grd_pos (show [(m.length : Int) / 256, (m.length : Int) % 256].length + m.length ≤ 16777216 by simp; omega), R.of_some, decide_true, gR_ok (show msgs.length < 16777216 by omega), grd_pos (show octs.length + (fr m).length ≤ 16777216 by omega)]
    refine Ok.ok ⟨by simp; omega, fun m' hm' => ?_, ?_, ?_⟩
    · rcases List.mem_append.mp hm' with hm' | hm'
      · exact p2 m' hm'
      · rw [List.mem_singleton.mp hm']; exact b1
    · show octs ++ fr m = _
      rw [Fm_app, p3]; simp [Fm]
    · show (octs ++ fr m).length ≤ _
      rw [List.length_append]; omega
  obtain ⟨ms, octs⟩ := s
  obtain ⟨p1, p2, p3, p4⟩ := hp
  dsimp only at p1 p2 p3 p4
  rw [rangeL_len] at p1 p4
  subst p3
  have hms : ms.length ≤ 12 := by omega
  have hpl : (Fm ms).length = pl ms := rfl
  dsimp only
  refine Ok.bind (Ok.mono (P := fun q : Int × List Int => ∃ en : Nat, q.1 = (en : Int) ∧ en ≤ pl ms ∧ q.2.length = 1) ?_ fun q hq => ?_)
  · refine Ok.bind (Ok.bind ((dg a3 (by decide) (by decide)).mono fun r4 ⟨b1, b2, b3⟩ => Ok.bind (Ok.ofs (Ok.ok ?_))))
    refine Ok.ite (fun _ => ?_) fun _ => Ok.ok ⟨_, rfl, Nat.le_of_eq hpl, b3⟩
    refine Ok.bind ((dg b3 (by omega) (by omega)).mono fun r5 ⟨c1, c2, c3⟩ => Ok.ok ⟨r5.1.toNat, by omega, by omega, c3⟩)
  obtain ⟨en', st4⟩ := q
  obtain ⟨en, rfl, hen, h4⟩ := hq
  have ei : m_Messages_init = R.ok { waiting := [] } := by unfold m_Messages_init; rfl
  rw [ei, R.bind_ok]
  refine Ok.bind (Ok.bind ((cell_ok (by decide)).mono fun c _ => (start_ok c 1 (by decide) (by decide)).mono fun st5 hst5 => ?_))
  dsimp only
  refine Ok.bind (Ok.r1 (by decide) (by decide) ?_)
  refine Ok.forR (fun j s => s.1.length = 1 ∧ ∃ a : Nat, s.2.1 = (a : Int) ∧ a ≤ en ∧ s.2.2 = { waiting := ((Fm ms).take a).drop (pl (ms.take (cnt ms a))) }) ⟨hst5, 0, rfl, Nat.zero_le _, by simp⟩ (fun j x s hx hp => ?_) fun s hp => ?_
  · obtain ⟨st6, at_, rd⟩ := s
    obtain ⟨h6, a, rfl, ha, rfl⟩ := hp
    dsimp only at h6
    dsimp only
    refine Ok.bind (Ok.mono (P := fun r : Int × List Int => 0 ≤ r.1 ∧ r.2.length = 1) ?_ fun r7 ⟨d1, d2⟩ => ?_)
    · refine Ok.bind (Ok.bind ((dg h6 (by decide) (by decide)).mono fun r6 ⟨b1, b2, b3⟩ => ?_))
      refine Ok.bind (Ok.at b1 (by simp only [List.length_cons, List.length_nil]; omega) fun y _ hy => Ok.ok ?_)
      have hy2 : 0 < y ∧ y ≤ 1000000 := by
        rcases List.mem_cons.mp hy with rfl | hy
        · omega
        · rcases List.mem_cons.mp hy with rfl | hy
          · omega
          · rw [List.mem_singleton.mp hy]; omega
      exact (dg b3 hy2.1 hy2.2).mono fun r ⟨e1, _, e3⟩ => ⟨e1, e3⟩
    refine Ok.bind (Ok.mono (P := fun z : Int => 0 ≤ z) (Ok.dec (fun _ => Ok.ok (by omega)) fun _ => Ok.ok d1) fun z hz => ?_)
    obtain ⟨a', ea', ha1, ha2⟩ : ∃ a' : Nat, (if (en : Int) < (a : Int) + z then (en : Int) else (a : Int) + z) = (a' : Int) ∧ a ≤ a' ∧ a' ≤ en := ⟨(if (en : Int) < (a : Int) + z then (en : Int) else (a : Int) + z).toNat, by split <;> omega, by split <;> omega, by split <;> omega⟩
    rw [ea']
    have hc := cnt_le ms a
    have hp := cnt_pl ms a
    have hcm := cnt_mono (ms := ms) ha1
    have hp' := cnt_pl ms a'
    generalize ec : cnt ms a = c at hc hp hcm
    have lc : (ms.take c).length = c := by rw [List.length_take]; omega
    have epart : cutL (Fm ms) (some (a : Int)) (some (a' : Int)) = ((Fm ms).drop a).take (a' - a) := by
      rw [cutL_mid (by omega) (by omega)]; rfl
    have lpart : (((Fm ms).drop a).take (a' - a)).length = a' - a := by
      rw [List.length_take, List.length_drop]; omega
    have eat : (a : Int) + ((((Fm ms).drop a).take (a' - a)).length : Int) = (a' : Int) := by rw [lpart]; omega
    rw [epart, eat, whole_ok (by omega), whole_ok (by omega), ec]
    have edue : cutL (ms.take (cnt ms a')) (some ((ms.take c).length : Int)) none = (ms.drop c).take (cnt (ms.drop c) (a' - pl (ms.take c))) := by
      rw [cutL_lo (by omega), lc, Int.toNat_natCast, hcm, List.drop_take, Nat.add_sub_cancel_left]
    have e1 : ((Fm ms).take a).drop (pl (ms.take c)) ++ ((Fm ms).drop a).take (a' - a) = ((Fm ms).take a').drop (pl (ms.take c)) := by
      have : (Fm ms).take a' = (Fm ms).take a ++ ((Fm ms).drop a).take (a' - a) := by
        rw [← List.take_add]; congr 1; omega
      rw [this, List.drop_append_of_le_length (by rw [List.length_take]; omega)]
    have e2 : ((Fm ms).take a').drop (pl (ms.take c)) = (Fm (ms.drop c)).take (a' - pl (ms.take c)) := by
      conv => lhs; rw [Fm_split ms c]
      rw [List.take_append, List.take_of_length_le (show (Fm (ms.take c)).length ≤ a' by show pl (ms.take c) ≤ _; omega)]
      show List.drop (Fm (ms.take c)).length _ = _
      rw [List.drop_left]; rfl
    have hsp := pl_split ms c
    have fd := feed_ok (r := { waiting := ((Fm ms).take a).drop (pl (ms.take c)) }) (part := ((Fm ms).drop a).take (a' - a)) (ms := ms.drop c) (n := a' - pl (ms.take c)) (e1.trans e2) (by omega) (by rw [List.length_drop]; omega) (by omega)
    have hcut := hcm
    generalize ek : cnt (ms.drop c) (a' - pl (ms.take c)) = k at hcm edue fd
    have etk : ms.take (c + k) = ms.take c ++ (ms.drop c).take k := by rw [← List.take_add]
    have epl : pl (ms.take (c + k)) = pl (ms.take c) + pl ((ms.drop c).take k) := by
      unfold pl; rw [etk, Fm_app, List.length_append]
    rw [← e2, List.drop_drop, ← epl, ← hcm] at fd
    have sm : Ok (m__law_same ((ms.drop c).take k) ((ms.drop c).take k)) fun r => r.1 = true := same_ok (by rw [List.length_take, List.length_drop]; omega) fun m hm => p2 m (List.mem_of_mem_drop (List.mem_of_mem_take hm))
    obtain ⟨r8, er8, h8⟩ := sm
    have ecnt : ((ms.take (cnt ms a')).map fun x => (x.length : Int) + 2).sum = (pl (ms.take (cnt ms a')) : Int) := pl_sum _
    have em : mapR (ms.take (cnt ms a')) (fun x210 => (R.ok ((x210.length : Int) + (2 : Int)) : R Empty Int)) = R.ok ((ms.take (cnt ms a')).map fun x => (x.length : Int) + 2) := mapR_ok fun _ _ => rfl
    have epend : m_Messages_pending { waiting := List.drop (pl (ms.take (cnt ms a'))) (List.take a' (Fm ms)) } = R.ok ((a' : Int) - (pl (ms.take (cnt ms a')) : Int)) := by
      unfold m_Messages_pending
      congr 1
      simp only [List.length_drop, List.length_take]
      omega
    have h8' : (!r8.1) = false := by rw [h8]; rfl
    simp -implicitDefEqProofs only [R.bind_ok, edue, fd, gR_ok (show (((Fm ms).drop a).take (a' - a)).length < 16777216 by omega), gR_ok (show (ms.take (cnt ms a')).length ≤ 16777216 by rw [List.length_take]; omega), em, ecnt, er8, h8', epend, isint, Bool.not_true, Bool.false_eq_true, if_false, decide_true]
    exact Ok.ok ⟨d2, a', rfl, ha2, rfl⟩
  · obtain ⟨st6, at_, rd⟩ := s
    obtain ⟨h6, _⟩ := hp
    dsimp only at h6
    refine Ok.bind (Ok.bind (Ok.bind ((dg h6 (by decide) (by decide)).mono fun r ⟨b1, b2, b3⟩ => Ok.bind (Ok.ofs (Ok.ok ?_)))))
    refine Ok.ite (fun h => Ok.ok (Ok.ok rfl)) fun _ => ?_
    exact Ok.bind ((long_ok b3).mono fun r hr => Ok.ok (Ok.ok hr))
end LW
end NL

namespace NL
open PySem PySem.Spec PyProof.Rows L2 ML
namespace LW
set_option maxHeartbeats 0
theorem facts {P : Program} {w : World} {K : PySem.W.Frag} {h : Heap} {mg : Str → Option Value} {f : Addr} (X : K.In h) (G : h.Ns mainGlobals mg) (hfa : mg ("law" : Str) = some (.ref f)) (c : SaysX fa_ fn_ K) :
    ∃ fd : FuncData, (∀ (s : Shared) (v : Value), BindsTo s fd ⟨[v], []⟩ [("_law_script", v)]) ∧ ∀ base : Heap, K.In base → base.Ns mainGlobals mg → FnOk P w K mg base (L2.CX P w) 3 f fd ["_law_script"] (sp_law K mg) := by
  have T : Txt K mg := ⟨He.free_ok X G (x := "bool") (c.fact 0 (f := faOf (.free "bool"))),
    He.free_ok X G (x := "int") (c.fact 1 (f := faOf (.free "int"))),
    He.free_ok X G (x := "isinstance") (c.fact 2 (f := faOf (.free "isinstance"))),
    He.free_ok X G (x := "len") (c.fact 3 (f := faOf (.free "len"))),
    He.free_ok X G (x := "list") (c.fact 4 (f := faOf (.free "list"))),
    He.free_ok X G (x := "min") (c.fact 5 (f := faOf (.free "min"))),
    He.free_ok X G (x := "range") (c.fact 6 (f := faOf (.free "range"))),
    He.free_ok X G (x := "sum") (c.fact 7 (f := faOf (.free "sum"))),
    He.int_ok X G (x := "MOST_OCTETS") (i := 65535) (c.fact 8 (f := faOf (.int "MOST_OCTETS" 65535))),
    He.glo_ok X G (x := "_law_cell") (c.fact 9 (f := faOf (.glo "_law_cell"))),
    He.keep_ok (x := "_law_cell") (c.fact 10 (f := faOf (.keep "_law_cell"))),
    He.glo_ok X G (x := "_law_start") (c.fact 11 (f := faOf (.glo "_law_start"))),
    He.keep_ok (x := "_law_start") (c.fact 12 (f := faOf (.keep "_law_start"))),
    He.glo_ok X G (x := "_law_digit") (c.fact 13 (f := faOf (.glo "_law_digit"))),
    He.keep_ok (x := "_law_digit") (c.fact 14 (f := faOf (.keep "_law_digit"))),
    He.glo_ok X G (x := "_law_message") (c.fact 15 (f := faOf (.glo "_law_message"))),
    He.keep_ok (x := "_law_message") (c.fact 16 (f := faOf (.keep "_law_message"))),
    excF_ok (c.fact 17 (f := faOf (.exc "InvalidAmount"))),
    He.glo_ok X G (x := "InvalidAmount") (c.fact 18 (f := faOf (.glo "InvalidAmount"))),
    He.glo_ok X G (x := "frame_message") (c.fact 19 (f := faOf (.glo "frame_message"))),
    He.keep_ok (x := "frame_message") (c.fact 20 (f := faOf (.keep "frame_message"))),
    He.cls_ok (x := "Messages") (c.fact 21 (f := faOf (.cls "Messages"))),
    He.noat_ok (x := "Messages") (f := "_waiting") (c.fact 22 (f := faOf (.noat "Messages" "_waiting"))),
    He.mkr_ok (x := "Messages") (c.fact 23 (f := faOf (.mkr "Messages"))),
    He.glo_ok X G (x := "Messages") (c.fact 24 (f := faOf (.glo "Messages"))),
    He.glo_ok X G (x := "_law_whole") (c.fact 25 (f := faOf (.glo "_law_whole"))),
    He.keep_ok (x := "_law_whole") (c.fact 26 (f := faOf (.keep "_law_whole"))),
    He.meth_ok (x := "Messages") (m := "_size_at") (c.fact 27 (f := faOf (.meth "Messages" "_size_at"))),
    He.meth_ok (x := "Messages") (m := "feed") (c.fact 28 (f := faOf (.meth "Messages" "feed"))),
    He.glo_ok X G (x := "_law_is_integer") (c.fact 29 (f := faOf (.glo "_law_is_integer"))),
    He.keep_ok (x := "_law_is_integer") (c.fact 30 (f := faOf (.keep "_law_is_integer"))),
    He.glo_ok X G (x := "_law_same") (c.fact 31 (f := faOf (.glo "_law_same"))),
    He.keep_ok (x := "_law_same") (c.fact 32 (f := faOf (.keep "_law_same"))),
    prop_ok (c.fact 33 (f := propB "Messages" "pending")),
    He.exm_ok (c.fact 34 (f := faOf (.exm "InvalidAmount" "InvalidAmount" true))),
    kie_ok (c.fact 35 (f := kieB "InvalidAmount" (fun K => (.ref (He.ga K "ThroughlineError"))) true)),
    He.glo_ok X G (x := "ThroughlineError") (c.fact 36 (f := faOf (.glo "ThroughlineError"))),
    exC_ok (c.fact 37 (f := exCB "InvalidAmount")),
    kie_ok (c.fact 38 (f := kieB "InvalidAmount" (fun K => (.ref (He.ga K "InvalidFrame"))) false)),
    He.glo_ok X G (x := "InvalidFrame") (c.fact 39 (f := faOf (.glo "InvalidFrame"))),
    He.glo_ok X G (x := "_law_too_long") (c.fact 40 (f := faOf (.glo "_law_too_long"))),
    He.keep_ok (x := "_law_too_long") (c.fact 41 (f := faOf (.keep "_law_too_long")))⟩
  obtain ⟨fd__law_start, F__law_start⟩ := c.def_ 0 (d := d__law_start)
  obtain ⟨fd__law_cell, F__law_cell⟩ := c.def_ 1 (d := d__law_cell)
  obtain ⟨fd__law_digit, F__law_digit⟩ := c.def_ 2 (d := d__law_digit)
  obtain ⟨fd__law_message, F__law_message⟩ := c.def_ 3 (d := d__law_message)
  obtain ⟨fd_frame_message, F_frame_message⟩ := c.def_ 4 (d := d_frame_message)
  obtain ⟨fd_Messages_init, F_Messages_init⟩ := c.def_ 5 (d := d_Messages_init)
  obtain ⟨fd__law_whole, F__law_whole⟩ := c.def_ 6 (d := d__law_whole)
  obtain ⟨fd_Messagessize_at, F_Messagessize_at⟩ := c.def_ 7 (d := d_Messagessize_at)
  obtain ⟨fd_Messages_feed, F_Messages_feed⟩ := c.def_ 8 (d := d_Messages_feed)
  obtain ⟨fd__law_is_integer, F__law_is_integer⟩ := c.def_ 9 (d := d__law_is_integer)
  obtain ⟨fd__law_same, F__law_same⟩ := c.def_ 10 (d := d__law_same)
  obtain ⟨fd_Messages_pending, F_Messages_pending⟩ := c.def_ 11 (d := d_Messages_pending)
  obtain ⟨fd__law_too_long, F__law_too_long⟩ := c.def_ 12 (d := d__law_too_long)
  obtain ⟨fd_law, F_law⟩ := c.def_ 13 (d := d_law)
  have g_law : mg "law" = some (.ref (He.ga K "law")) := He.glo_ok X G (x := "law") (c.fact 42 (f := faOf (.glo "law")))
  have e := hfa.symm.trans g_law
  cases e
  have b := FunD.bindsA (ps := ["_law_script"]) F_law fun _ _ _ _ _ _ us hl => match us, hl with | [_], _ => rfl
  refine ⟨fd_law, fun s v => b s [v] rfl, fun base _ _ => ?_⟩
  have C__law_start_k0 : CalB P w K mg base 1 (He.ga K "_law_start") ["_law_cell_here", "_law_k"] (sp__law_start K mg) [] := ⟨fd__law_start, [], .nil, FunD.bindsN F__law_start fun _ _ _ _ _ _ us hl => match us, hl with | [_, _], _ => rfl, ok__law_start T F__law_start ⟩
  have C__law_cell_k0 : CalB P w K mg base 1 (He.ga K "_law_cell") ["_law_script", "_law_k"] (sp__law_cell K mg) [] := ⟨fd__law_cell, [], .nil, FunD.bindsN F__law_cell fun _ _ _ _ _ _ us hl => match us, hl with | [_, _], _ => rfl, ok__law_cell T F__law_cell ⟩
  have C__law_digit_k0 : CalB P w K mg base 1 (He.ga K "_law_digit") ["_law_state", "_law_many"] (sp__law_digit K mg) [] := ⟨fd__law_digit, [], .nil, FunD.bindsN F__law_digit fun _ _ _ _ _ _ us hl => match us, hl with | [_, _], _ => rfl, ok__law_digit T F__law_digit ⟩
  have C__law_message_k0 : CalB P w K mg base 2 (He.ga K "_law_message") ["_law_state", "_law_many"] (sp__law_message K mg) [] := ⟨fd__law_message, [], .nil, FunD.bindsN F__law_message fun _ _ _ _ _ _ us hl => match us, hl with | [_, _], _ => rfl, ok__law_message T F__law_message C__law_digit_k0⟩
  have C_frame_message_k0 : CalB P w K mg base 1 (He.ga K "frame_message") ["octets"] (sp_frame_message K mg) [] := ⟨fd_frame_message, [], .nil, FunD.bindsN F_frame_message fun _ _ _ _ _ _ us hl => match us, hl with | [_], _ => rfl, ok_frame_message T F_frame_message ⟩
  have C_Messages_init_k0 : CalB P w K mg base 1 (He.ma K (He.ga K "Messages") "__init__") ["self"] (sp_Messages_init K mg) [] := ⟨fd_Messages_init, [], .nil, FunD.bindsN F_Messages_init fun _ _ _ _ _ _ us hl => match us, hl with | [_], _ => rfl, ok_Messages_init T F_Messages_init ⟩
  have C__law_whole_k0 : CalB P w K mg base 1 (He.ga K "_law_whole") ["_law_messages", "_law_count"] (sp__law_whole K mg) [] := ⟨fd__law_whole, [], .nil, FunD.bindsN F__law_whole fun _ _ _ _ _ _ us hl => match us, hl with | [_, _], _ => rfl, ok__law_whole T F__law_whole ⟩
  have C_Messagessize_at_k0 : CalB P w K mg base 1 (He.ma K (He.ga K "Messages") "_size_at") ["self", "at"] (sp_Messagessize_at K mg) [] := ⟨fd_Messagessize_at, [], .nil, FunD.bindsN F_Messagessize_at fun _ _ _ _ _ _ us hl => match us, hl with | [_, _], _ => rfl, ok_Messagessize_at T F_Messagessize_at ⟩
  have C_Messages_feed_k0 : CalB P w K mg base 2 (He.ma K (He.ga K "Messages") "feed") ["self", "octets"] (sp_Messages_feed K mg) [] := ⟨fd_Messages_feed, [], .nil, FunD.bindsN F_Messages_feed fun _ _ _ _ _ _ us hl => match us, hl with | [_, _], _ => rfl, ok_Messages_feed T F_Messages_feed C_Messagessize_at_k0⟩
  have C__law_is_integer_k0 : CalB P w K mg base 1 (He.ga K "_law_is_integer") ["_law_told"] (sp__law_is_integer K mg) [] := ⟨fd__law_is_integer, [], .nil, FunD.bindsN F__law_is_integer fun _ _ _ _ _ _ us hl => match us, hl with | [_], _ => rfl, ok__law_is_integer T F__law_is_integer ⟩
  have C__law_same_k0 : CalB P w K mg base 2 (He.ga K "_law_same") ["_law_told", "_law_due"] (sp__law_same K mg) [] := ⟨fd__law_same, [], .nil, FunD.bindsN F__law_same fun _ _ _ _ _ _ us hl => match us, hl with | [_, _], _ => rfl, ok__law_same T F__law_same C__law_is_integer_k0⟩
  have C_Messages_pending_k0 : CalB P w K mg base 1 (pgA K (He.ga K "Messages") "pending") ["self"] (sp_Messages_pending K mg) [] := ⟨fd_Messages_pending, [], .nil, FunD.bindsN F_Messages_pending fun _ _ _ _ _ _ us hl => match us, hl with | [_], _ => rfl, ok_Messages_pending T F_Messages_pending ⟩
  have C__law_too_long_k0 : CalB P w K mg base 2 (He.ga K "_law_too_long") ["_law_state"] (sp__law_too_long K mg) [] := ⟨fd__law_too_long, [], .nil, FunD.bindsN F__law_too_long fun _ _ _ _ _ _ us hl => match us, hl with | [_], _ => rfl, ok__law_too_long T F__law_too_long C__law_digit_k0 C_frame_message_k0⟩
  exact ok_law T F_law C_Messages_feed_k0 C_Messages_init_k0 C_Messages_pending_k0 C__law_cell_k0 C__law_digit_k0 C__law_is_integer_k0 C__law_message_k0 C__law_same_k0 C__law_start_k0 C__law_too_long_k0 C__law_whole_k0 C_frame_message_k0
end LW
end NL
open PySem PySem.W PySem.Calls PyProof.Rows
set_option maxRecDepth 100000 in
set_option maxHeartbeats 0 in
theorem PySem.Challenge.cw_throughline_k54_messages_holds : PySem.Challenge.rw_throughline_k54_messages.Holds := by
  w_on; o_law
  refine HandSHeadRun.head_any (r := OpenLaw.row PySem.Challenge.rw_throughline_k54_messages) (q := view (OpenLaw.row PySem.Challenge.rw_throughline_k54_messages).prog [17]) (H := NL.LW.hk) (ob := NL.LW.obs_) (M := 20000) (loose := NL.LW.loose_) (d := HandSHeadRun.topDef (OpenLaw.row PySem.Challenge.rw_throughline_k54_messages).prog 17) (kwd := []) NL.LW.obs_eq
    (by kernel_rfl) (fun s => by kernel_rfl) NL.LW.run_ (by kernel_rfl) (by kernel_rfl) (by kernel_rfl) (by rfl) (by first | assumption | decide +kernel) (by decide +kernel) ⟨rfl, rfl, rfl, rfl, rfl, by decide +kernel⟩ ?hw ?hc
  case hw => w_witness2
  case hc =>
    refine NL.walk_X (l := PySem.Challenge.rw_throughline_k54_messages) (n := 63) (k := 3) (x := "_law_script") rfl (by decide) (by kernel_rfl) ⟨rfl, by decide, by decide⟩ ?F
    intro w mg fa h Y G hmg0
    obtain ⟨K, KX, c⟩ := Y
    have hmg : mg ("law" : PySem.Str) = some (.ref fa) := by
      have e : (HandSHeadRun.topDef (OpenLaw.row PySem.Challenge.rw_throughline_k54_messages).prog 17).name = ("law" : PySem.Str) := by kernel_rfl
      rw [← e]
      exact hmg0
    obtain ⟨fd, hb, hF⟩  := NL.LW.facts (P := (PySem.Challenge.rw_throughline_k54_messages).prog) (w := w) KX G hmg c
    exact ⟨K, fd, NL.LW.sp_law K mg, KX, hb, fun H a ns hl _ hS => NL.spX_law hS (NL.LW.law_true ns hl), hF⟩
#print axioms PySem.Challenge.cw_throughline_k54_messages_holds
