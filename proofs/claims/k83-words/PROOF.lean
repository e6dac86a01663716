import PyProof.Rows.All
import Wide.All
import OpenK.AllK
import Wide.FinOn
import HandS.ForMost
import HandS.Walk
import KE.GoesEnum
import HandS.Wide
import HandS.SortInts
import HandS.Gcd
import HandS.Style
import HandS.More
import HandS.Text
import PyProof.StrOps2
import PyProof.Rows.StrRev
import HandS.New
import KE.SortData
import HandS.IsInst
import PySem.Challenge.RW_rolledtrue_k83_whole_words
set_option Elab.async false
set_option linter.all false
set_option maxRecDepth 100000
set_option autoImplicit false
/-! Rf0: typed refinement over the hand layer: assertions, contexts, judgements. Own work. -/
namespace Rf
open PySem PySem.Spec L2

/-- checks of names, told by one evaluation -/
def visB (sc : Scope) (x : Str) : Bool := match sc.names.lookup x with
  | some .local => true
  | some .cell => true
  | some .free => true
  | _ => false
theorem visOf {sc : Scope} {x : Str} (h : visB sc x = true) : Vis sc x := by
  unfold visB at h
  split at h
  · exact .inl (by assumption)
  · exact .inr (.inl (by assumption))
  · exact .inr (.inr (by assumption))
  · cases h
def locB (sc : Scope) (x : Str) : Bool := match sc.names.lookup x with
  | some .local => true
  | some .cell => true
  | _ => false
theorem locOf {sc : Scope} {x : Str} (h : locB sc x = true) : Loc sc x := by
  unfold locB at h
  split at h
  · exact .inl (by assumption)
  · exact .inr (by assumption)
  · cases h
def fnB (f : Str → Bool) (sc : Scope) (x : Str) : Bool := match sc.names.lookup x with
  | some .local => true
  | _ => f x
theorem fnOf {f : Str → Bool} {sc : Scope} {x : Str} (h : fnB f sc x = true) : f x = true ∨ sc.names.lookup x = some .local := by
  unfold fnB at h
  split at h
  · exact .inr (by assumption)
  · exact .inl h
abbrev Fp := Addr → Prop
def no : Fp := fun _ => False
def un (F G : Fp) : Fp := fun a => F a ∨ G a
theorem un_no (F : Fp) : un F no = F := by funext a; simp [un, no]
theorem no_un (F : Fp) : un no F = F := by funext a; simp [un, no]

/-- what holds between two heaps for a description with footprint F to stay -/
def Keep (F : Fp) (H H' : Hp) : Prop := ∀ a o, H a = some o → (F a ∨ ¬ Mut (some o)) → H' a = some o
theorem Same.keep {H H' : Hp} (s : Same H H') (F : Fp) : Keep F H H' := fun a o e _ => s a o e
theorem Keep.sub {F G : Fp} {H H' : Hp} (k : Keep F H H') (h : ∀ a, G a → F a) : Keep G H H' := fun a o e c => k a o e (c.imp (h a) id)

/-- an assertion: a value in a heap, with the set of the objects that it may change -/
structure Ass where
  h : V → Hp → Fp → Prop
  trk : ∀ {v H F a}, h v H F → F a → Mut (H a)
  stb : ∀ {v H H' F}, h v H F → Keep F H H' → h v H' F

theorem Ass.same {A : Ass} {v : V} {H H' : Hp} {F : Fp} (x : A.h v H F) (s : Same H H') : A.h v H' F := A.stb x (Same.keep s F)

/-- an assertion that owns nothing -/
class Imm {α : Type} (A : α → Ass) : Prop where
  nil : ∀ {x v H F}, (A x).h v H F → F = no

inductive Sl where
  | dead
  | own (p : Option V) (A : Ass)
  | lnt (A : Ass)
abbrev Cxt := List Sl

structure Sat (Γ : Cxt) (σ : St) (H : Hp) (Fs : Nat → Fp) : Prop where
  len : Γ.length = σ.length
  own : ∀ (i : Nat) (p : Option V) (A : Ass), Γ[i]? = some (.own p A) → ∃ v, σ[i]? = some (some v) ∧ A.h v H (Fs i) ∧ ∀ u, p = some u → v = u
  lnt : ∀ (i : Nat) (A : Ass), Γ[i]? = some (.lnt A) → ∃ v, σ[i]? = some (some v) ∧ A.h v H (Fs i)
  dj : ∀ (i j : Nat) (p : Option V) (A : Ass), i ≠ j → Γ[i]? = some (.own p A) → ((∃ q B, Γ[j]? = some (.own q B)) ∨ ∃ B, Γ[j]? = some (.lnt B)) → ∀ a, Fs i a → ¬ Fs j a

def Own (Γ : Cxt) (Fs : Nat → Fp) : Fp := fun a => ∃ i p A, Γ[i]? = some (.own p A) ∧ Fs i a

/-- what is lent stays what it was -/
def LS (Γ : Cxt) (Fs : Nat → Fp) (Δ : Cxt) (Gs : Nat → Fp) : Prop := ∀ j B, Δ[j]? = some (.lnt B) → (∃ C, Γ[j]? = some (.lnt C)) ∧ Gs j = Fs j
theorem LS.refl (Γ : Cxt) (Fs : Nat → Fp) : LS Γ Fs Γ Fs := fun j B e => ⟨⟨B, e⟩, rfl⟩
theorem LS.trans {Γ Δ Θ : Cxt} {Fs Gs Ks : Nat → Fp} (a : LS Γ Fs Δ Gs) (b : LS Δ Gs Θ Ks) : LS Γ Fs Θ Ks := fun j B e => by
  obtain ⟨⟨C, c⟩, r⟩ := b j B e
  obtain ⟨d, t⟩ := a j C c
  exact ⟨d, r.trans t⟩
/-- what a context speaks of -/
def Cov (Γ : Cxt) (Fs : Nat → Fp) : Fp := fun a => ∃ i, ((∃ p A, Γ[i]? = some (.own p A)) ∨ ∃ A, Γ[i]? = some (.lnt A)) ∧ Fs i a
/-- apart from all that a context says -/
def Apart (T : Fp) (Γ : Cxt) (Fs : Nat → Fp) : Prop := (∀ a, T a → ¬ Own Γ Fs a) ∧ ∀ j B, Γ[j]? = some (.lnt B) → ∀ a, T a → ¬ Fs j a

def Step (O : Fp) (H : Hp) (O' : Fp) (H' : Hp) : Prop := (∀ a o, H a = some o → ¬ O a → H' a = some o) ∧ ∀ a, O' a → O a ∨ H a = none
/-- from one state to another: what was done, and that what is lent stands -/
structure Mv (Γ : Cxt) (Fs : Nat → Fp) (σ : L2.St) (H : Hp) (Δ : Cxt) (Gs : Nat → Fp) (σ' : L2.St) (H' : Hp) : Prop where
  st : Step (Own Γ Fs) H (Own Δ Gs) H'
  ls : ∀ j B, Δ[j]? = some (.lnt B) → (∃ C, Γ[j]? = some (.lnt C)) ∧ Gs j = Fs j ∧ σ'[j]? = σ[j]?

section
variable {Γ : Cxt} {σ : St} {H H' H1 H2 : Hp} {Fs Fs' : Nat → Fp} {O O' O1 O2 : Fp} {A : Ass} {v : V} {F T : Fp}
theorem Sat.trk (s : Sat Γ σ H Fs) {a : Addr} (o : Own Γ Fs a) : Mut (H a) := by
  obtain ⟨i, p, A, e, f⟩ := o
  obtain ⟨v, _, h, _⟩ := s.own i p A e
  exact A.trk h f
theorem mut_some {H : Hp} {a : Addr} (m : Mut (H a)) : ∃ o, H a = some o := by
  cases e : H a with
  | none => rw [e] at m; exact m.elim
  | some o => exact ⟨o, rfl⟩
theorem Ass.out {a : Addr} (x : A.h v H F) (n : H a = none) : ¬ F a := fun f => by
  obtain ⟨o, e⟩ := mut_some (A.trk x f)
  rw [n] at e; cases e
theorem Sat.out (s : Sat Γ σ H Fs) {a : Addr} (n : H a = none) : ¬ Own Γ Fs a := fun o => by
  obtain ⟨x, e⟩ := mut_some (s.trk o)
  rw [n] at e; cases e
theorem Sat.apart (s : Sat Γ σ H Fs) {T : Fp} (fr : ∀ a, T a → H a = none) : Apart T Γ Fs := ⟨fun a t => s.out (fr a t), fun j B e a t f => by
  obtain ⟨v, _, h⟩ := s.lnt j B e
  exact B.out h (fr a t) f⟩
theorem Step.refl (O : Fp) (H : Hp) : Step O H O H := ⟨fun _ _ e _ => e, fun _ h => .inl h⟩
theorem Step.same (s : Same H H') (h : ∀ a, O' a → O a ∨ H a = none) : Step O H O' H' := ⟨fun a o e _ => s a o e, h⟩
theorem Step.trans (a : Step O H O1 H1) (b : Step O1 H1 O2 H2) : Step O H O2 H2 := by
  refine ⟨fun x o e n => b.1 x o (a.1 x o e n) fun q => ?_, fun x q => ?_⟩
  · rcases a.2 x q with r | r
    · exact n r
    · rw [e] at r; cases r
  · rcases b.2 x q with r | r
    · exact a.2 x r
    · by_cases w : O x
      · exact .inl w
      · cases e : H x with
        | none => exact .inr rfl
        | some o => rw [a.1 x o e w] at r; cases r
theorem Step.sub (a : Step O H O1 H1) (h : ∀ x, O2 x → O1 x) : Step O H O2 H1 := ⟨a.1, fun x q => a.2 x (h x q)⟩
theorem Step.sub0 (a : Step O H O1 H1) (h : ∀ x, O x → O2 x) : Step O2 H O1 H1 := ⟨fun x o e n => a.1 x o e fun q => n (h x q), fun x q => (a.2 x q).imp (h x) id⟩
/-- a description apart from what is changed stays -/
theorem Ass.step (x : A.h v H F) (s : Step O H O' H') (tr : ∀ a, O a → Mut (H a)) (d : ∀ a, F a → ¬ O a) : A.h v H' F := by
  refine A.stb x fun a o e c => s.1 a o e fun q => ?_
  rcases c with c | c
  · exact d a c q
  · have := tr a q
    rw [e] at this
    exact c this
theorem Sat.keep (s : Sat Γ σ H Fs) (k : ∀ i, Keep (Fs i) H H') : Sat Γ σ H' Fs :=
  ⟨s.len, fun i p A e => let ⟨v, a, b, c⟩ := s.own i p A e; ⟨v, a, A.stb b (k i), c⟩, fun i A e => let ⟨v, a, b⟩ := s.lnt i A e; ⟨v, a, A.stb b (k i)⟩, s.dj⟩
theorem Sat.same (s : Sat Γ σ H Fs) (k : Same H H') : Sat Γ σ H' Fs := s.keep fun i => Same.keep k _
end

section
variable {Γ Δ Θ : Cxt} {σ σ' σ'' : L2.St} {H H' H'' : Hp} {Fs Gs Ks : Nat → Fp}
theorem Mv.trans (a : Mv Γ Fs σ H Δ Gs σ' H') (b : Mv Δ Gs σ' H' Θ Ks σ'' H'') : Mv Γ Fs σ H Θ Ks σ'' H'' := ⟨a.st.trans b.st, fun j B e => by
  obtain ⟨⟨C, c⟩, r, t⟩ := b.ls j B e
  obtain ⟨d, u, w⟩ := a.ls j C c
  exact ⟨d, r.trans u, t.trans w⟩⟩
theorem Mv.same (s : Same H H') : Mv Γ Fs σ H Γ Fs σ H' := ⟨Step.same s fun _ => .inl, fun j B e => ⟨⟨B, e⟩, rfl, rfl⟩⟩
end
/-! ### what is wanted of a piece of code, as the weakest reading -/
def TEof (X : Cx) (e : Expr) : TE := fun σ H Q => ∀ (pins : List (Addr × Obj)) (s : Shared), Inv X pins σ H s → wpAny (model X.prog X.w) X.A (eval e X.env) (EP X pins σ Q) X.xe s
theorem pe_of (X : Cx) (e : Expr) : PE X e (TEof X e) := ⟨fun pins s σ H Q I h => h pins s I⟩
theorem TEof.of {X : Cx} {e : Expr} {t : TE} {σ : St} {H : Hp} {Q : VK} (h : PE X e t) (q : t σ H Q) : TEof X e σ H Q := fun pins s I => h.run pins s σ H Q I q
theorem TEof.mono {X : Cx} {e : Expr} {σ : St} {H : Hp} {Q Q' : VK} (q : TEof X e σ H Q) (h : ∀ v H', Q v H' → Q' v H') : TEof X e σ H Q' := fun pins s I =>
  thn (q pins s I) fun u s' ⟨v, H', I', r, w⟩ => ⟨v, H', I', r, h v H' w⟩
def TTof (X : Cx) (e : Expr) : TT := fun σ H Q => ∀ (pins : List (Addr × Obj)) (s : Shared), Inv X pins σ H s → wpAny (model X.prog X.w) X.A (isTrue e X.env (eval e X.env)) (TP X pins σ Q) X.xe s
theorem pt_of (X : Cx) (e : Expr) : PT X e (TTof X e) := ⟨fun pins s σ H Q I h => h pins s I⟩
theorem TTof.of {X : Cx} {e : Expr} {t : TT} {σ : St} {H : Hp} {Q : Bool → Hp → Prop} (h : PT X e t) (q : t σ H Q) : TTof X e σ H Q := fun pins s I => h.run pins s σ H Q I q
def TWof (X : Cx) (e : Expr) : TT := fun σ H Q => ∀ (whole : Sem Value) (pins : List (Addr × Obj)) (s : Shared), Inv X pins σ H s → wpAny (model X.prog X.w) X.A (isTrue e X.env whole) (TP X pins σ Q) X.xe s
theorem pw_of (X : Cx) (e : Expr) : PW X e (TWof X e) := ⟨fun wh pins s σ H Q I h => h wh pins s I⟩
theorem TWof.of {X : Cx} {e : Expr} {t : TT} {σ : St} {H : Hp} {Q : Bool → Hp → Prop} (h : PW X e t) (q : t σ H Q) : TWof X e σ H Q := fun wh pins s I => h.run wh pins s σ H Q I q
def TAof (X : Cx) (es : List Expr) : TA := fun σ H Q => ∀ (pos : Pos) (pins : List (Addr × Obj)) (s : Shared), Inv X pins σ H s → wpAny (model X.prog X.w) X.A (spliced (backTo pos (starEach es X.env))) (AP X pins σ Q) X.xe s
theorem pa_of (X : Cx) (es : List Expr) : PA X es (TAof X es) := ⟨fun pos pins s σ H Q I h => h pos pins s I⟩
theorem TAof.of {X : Cx} {es : List Expr} {t : TA} {σ : St} {H : Hp} {Q : List V → Hp → Prop} (h : PA X es t) (q : t σ H Q) : TAof X es σ H Q := fun pos pins s I => h.run pos pins s σ H Q I q
def TSof (X : Cx) (st : Stmt) : TS := fun D σ H => ∀ (pins : List (Addr × Obj)) (s : Shared), Inv X pins σ H s → wpAny (model X.prog X.w) X.A (exec st X.env) (SP X pins D) X.xe s
theorem ps_of (X : Cx) (st : Stmt) : PS X st (TSof X st) := ⟨fun pins s σ H D I h => h pins s I⟩
theorem TSof.of {X : Cx} {st : Stmt} {t : TS} {D : Ends} {σ : St} {H : Hp} (h : PS X st t) (q : t D σ H) : TSof X st D σ H := fun pins s I => h.run pins s σ H D I q
def TBof (X : Cx) (sts : List Stmt) : TS := fun D σ H => ∀ (pins : List (Addr × Obj)) (s : Shared), Inv X pins σ H s → wpAny (model X.prog X.w) X.A (execs sts X.env) (SP X pins D) X.xe s
theorem pss_of (X : Cx) (sts : List Stmt) : PSs X sts (TBof X sts) := ⟨fun pins s σ H D I h => h pins s I⟩
theorem TBof.of {X : Cx} {sts : List Stmt} {t : TS} {D : Ends} {σ : St} {H : Hp} (h : PSs X sts t) (q : t D σ H) : TBof X sts D σ H := fun pins s I => h.run pins s σ H D I q
theorem SP.mono {X : Cx} {pins : List (Addr × Obj)} {D D' : Ends} (h1 : ∀ σ H, D.nx σ H → D'.nx σ H) (h2 : ∀ σ H, D.bk σ H → D'.bk σ H) (h3 : ∀ σ H, D.ct σ H → D'.ct σ H) (h4 : ∀ v H, D.rt v H → D'.rt v H) {f : Flow} {s : Shared} (h : SP X pins D f s) : SP X pins D' f s := by
  cases f with
  | next => obtain ⟨σ, H, I, q⟩ := h; exact ⟨σ, H, I, h1 _ _ q⟩
  | brk => obtain ⟨σ, H, I, q⟩ := h; exact ⟨σ, H, I, h2 _ _ q⟩
  | cont => obtain ⟨σ, H, I, q⟩ := h; exact ⟨σ, H, I, h3 _ _ q⟩
  | ret u => obtain ⟨v, σ, H, I, r, q⟩ := h; exact ⟨v, σ, H, I, r, h4 _ _ q⟩

/-! ### judgements -/
/-- a judgement is held shut, so that nothing looks into it unasked -/
structure Hold (p : Prop) : Prop where
  out : p
instance {p : Prop} : CoeFun (Hold p) (fun _ => p) := ⟨Hold.out⟩
section
variable {α β γ ρ S : Type}
/-- pure, the value may be part of what stands -/
abbrev Al (X : Cx) (Γ : Cxt) (e : Expr) (p : Option α) (A : α → Ass) : Prop := Hold (
  ∀ σ H Fs, Sat Γ σ H Fs → ∀ a, p = some a → ∀ Q : VK, (∀ v H' F, Same H H' → (A a).h v H' F → (∀ x, F x → Cov Γ Fs x ∨ H x = none) → Q v H') → TEof X e σ H Q)
/-- pure, the value is new (or owns nothing) -/
abbrev Pu (X : Cx) (Γ : Cxt) (e : Expr) (p : Option α) (A : α → Ass) : Prop := Hold (
  ∀ σ H Fs, Sat Γ σ H Fs → ∀ a, p = some a → ∀ Q : VK, (∀ v H' F, Same H H' → (A a).h v H' F → (∀ x, F x → H x = none) → Q v H') → TEof X e σ H Q)
/-- with effects on a family of contexts -/
abbrev Ef (X : Cx) (Γ : S → Cxt) (s : S) (e : Expr) (m : Option (α × S)) (A : α → Ass) : Prop := Hold (
  ∀ σ H Fs, Sat (Γ s) σ H Fs → ∀ a s', m = some (a, s') → ∀ Q : VK, (∀ v H' Fs' T, Sat (Γ s') σ H' Fs' → (A a).h v H' T → Apart T (Γ s') Fs' → Step (Own (Γ s) Fs) H (un T (Own (Γ s') Fs')) H' → LS (Γ s) Fs (Γ s') Fs' → Q v H') → TEof X e σ H Q)
/-- a pure test -/
abbrev Te (X : Cx) (Γ : Cxt) (e : Expr) (p : Option Bool) : Prop := Hold (
  ∀ σ H Fs, Sat Γ σ H Fs → ∀ b, p = some b → ∀ Q : Bool → Hp → Prop, (∀ H', Same H H' → Q b H') → TTof X e σ H Q)
/-- a pure part of an and, an or -/
abbrev Tw (X : Cx) (Γ : Cxt) (e : Expr) (p : Option Bool) : Prop := Hold (
  ∀ σ H Fs, Sat Γ σ H Fs → ∀ b, p = some b → ∀ Q : Bool → Hp → Prop, (∀ H', Same H H' → Q b H') → TWof X e σ H Q)
/-- a test with effects -/
abbrev Tf (X : Cx) (Γ : S → Cxt) (s : S) (e : Expr) (m : Option (Bool × S)) : Prop := Hold (
  ∀ σ H Fs, Sat (Γ s) σ H Fs → ∀ b s', m = some (b, s') → ∀ Q : Bool → Hp → Prop, (∀ H' Fs', Sat (Γ s') σ H' Fs' → Step (Own (Γ s) Fs) H (Own (Γ s') Fs') H' → LS (Γ s) Fs (Γ s') Fs' → Q b H') → TTof X e σ H Q)
/-- a statement that goes on -/
abbrev Sn (X : Cx) (Γ : Cxt) (st : Stmt) (m : Option β) (N : β → Cxt) : Prop := Hold (
  ∀ σ H Fs, Sat Γ σ H Fs → ∀ b, m = some b → ∀ D : Ends, (∀ σ' H' Fs', Sat (N b) σ' H' Fs' → Mv Γ Fs σ H (N b) Fs' σ' H' → D.nx σ' H') → TSof X st D σ H)
/-- a block that goes on -/
abbrev Bn (X : Cx) (Γ : Cxt) (sts : List Stmt) (m : Option β) (N : β → Cxt) : Prop := Hold (
  ∀ σ H Fs, Sat Γ σ H Fs → ∀ b, m = some b → ∀ D : Ends, (∀ σ' H' Fs', Sat (N b) σ' H' Fs' → Mv Γ Fs σ H (N b) Fs' σ' H' → D.nx σ' H') → TBof X sts D σ H)
/-- how a block ends -/
inductive Fl (β γ ρ : Type) where
  | nx (b : β) | bk (g : γ) | ct (g : γ) | rt (r : ρ)
/-- what a return hands back: the value, and what stays of the slots -/
structure Rt (ρ : Type) where
  A : ρ → Ass
  G : ρ → Cxt
def FlEnd (Γ : Cxt) (Fs : Nat → Fp) (σ : L2.St) (H : Hp) (N : β → Cxt) (L : γ → Cxt) (R : Rt ρ) (D : Ends) : Fl β γ ρ → Prop
  | .nx b => ∀ σ' H' Fs', Sat (N b) σ' H' Fs' → Mv Γ Fs σ H (N b) Fs' σ' H' → D.nx σ' H'
  | .bk g => ∀ σ' H' Fs', Sat (L g) σ' H' Fs' → Mv Γ Fs σ H (L g) Fs' σ' H' → D.bk σ' H'
  | .ct g => ∀ σ' H' Fs', Sat (L g) σ' H' Fs' → Mv Γ Fs σ H (L g) Fs' σ' H' → D.ct σ' H'
  | .rt r => ∀ v σ' H' Fs' T, Sat (R.G r) σ' H' Fs' → (R.A r).h v H' T → (∀ x, T x → ¬ Own (R.G r) Fs' x) → Step (Own Γ Fs) H (un T (Own (R.G r) Fs')) H' → D.rt v H'
/-- a statement, a block, with all its ends -/
abbrev Sx (X : Cx) (Γ : Cxt) (st : Stmt) (m : Option (Fl β γ ρ)) (N : β → Cxt) (L : γ → Cxt) (R : Rt ρ) : Prop := Hold (
  ∀ σ H Fs, Sat Γ σ H Fs → ∀ f, m = some f → ∀ D : Ends, FlEnd Γ Fs σ H N L R D f → TSof X st D σ H)
abbrev Bx (X : Cx) (Γ : Cxt) (sts : List Stmt) (m : Option (Fl β γ ρ)) (N : β → Cxt) (L : γ → Cxt) (R : Rt ρ) : Prop := Hold (
  ∀ σ H Fs, Sat Γ σ H Fs → ∀ f, m = some f → ∀ D : Ends, FlEnd Γ Fs σ H N L R D f → TBof X sts D σ H)
end

/-! ### between the judgements -/
section
variable {α β γ ρ S : Type} {X : Cx} {Γ : Cxt} {e : Expr}
theorem Pu.al {p : Option α} {A : α → Ass} (h : Pu X Γ e p A) : Al X Γ e p A := .mk fun σ H Fs s a e Q q => h σ H Fs s a e Q fun v H' F sm x fr => q v H' F sm x fun y f => .inr (fr y f)
theorem Al.pu {p : Option α} {A : α → Ass} (h : Al X Γ e p A) [i : Imm A] : Pu X Γ e p A := .mk fun σ H Fs s a e Q q => h σ H Fs s a e Q fun v H' F sm x _ => q v H' F sm x fun y f => by
  rw [i.nil x] at f; exact f.elim
theorem Pu.ef {Γ : S → Cxt} {s : S} {p : Option α} {A : α → Ass} (h : Pu X (Γ s) e p A) : Ef X Γ s e (p.bind fun a => some (a, s)) A := .mk fun σ H Fs t a s' e Q q => by
  obtain ⟨a', e1, e2⟩ := Option.bind_eq_some_iff.mp e
  cases e2
  refine h σ H Fs t a e1 Q fun v H' F sm x fr => q v H' Fs F (t.same sm) x (t.apart fr) (Step.same sm fun y f => ?_) (LS.refl _ _)
  · rcases f with f | f
    · exact .inr (fr y f)
    · exact .inl f
theorem Te.tf {Γ : S → Cxt} {s : S} {p : Option Bool} (h : Te X (Γ s) e p) : Tf X Γ s e (p.bind fun a => some (a, s)) := .mk fun σ H Fs t a s' e Q q => by
  obtain ⟨a', e1, e2⟩ := Option.bind_eq_some_iff.mp e
  cases e2
  exact h σ H Fs t a e1 Q fun H' sm => q H' Fs (t.same sm) (Step.same sm fun y f => .inl f) (LS.refl _ _)
theorem Tw.te {p : Option Bool} (h : Tw X Γ e p) : Te X Γ e p := .mk fun σ H Fs s b e Q q pins sh I => h σ H Fs s b e Q q _ pins sh I
end

/-! ### contexts -/
/-- a context says at least as much as another -/
inductive Ent : Cxt → Cxt → Prop where
  | nil : Ent [] []
  | same {x Γ Δ} : Ent Γ Δ → Ent (x :: Γ) (x :: Δ)
  | dead {x Γ Δ} : Ent Γ Δ → Ent (x :: Γ) (.dead :: Δ)
theorem Ent.refl : ∀ Γ : Cxt, Ent Γ Γ
  | [] => .nil
  | _ :: Γ => .same (Ent.refl Γ)
theorem Ent.len {Γ Δ : Cxt} (h : Ent Γ Δ) : Γ.length = Δ.length := by induction h <;> simp_all
theorem Ent.at {Γ Δ : Cxt} (h : Ent Γ Δ) : ∀ {i : Nat} {x : Sl}, Δ[i]? = some x → x = .dead ∨ Γ[i]? = some x := by
  induction h with
  | nil => intro i x e; simp at e
  | same _ ih =>
    intro i x e
    cases i with
    | zero => exact .inr e
    | succ i => exact ih (by simpa using e)
  | dead _ ih =>
    intro i x e
    cases i with
    | zero => left; simpa using e.symm
    | succ i => exact ih (by simpa using e)
section
variable {Γ Δ : Cxt} {σ : St} {H : Hp} {Fs : Nat → Fp}
theorem Ent.own (h : Ent Γ Δ) {i : Nat} {p : Option V} {A : Ass} (e : Δ[i]? = some (.own p A)) : Γ[i]? = some (.own p A) := (h.at e).resolve_left fun z => by cases z
theorem Ent.lnt (h : Ent Γ Δ) {i : Nat} {A : Ass} (e : Δ[i]? = some (.lnt A)) : Γ[i]? = some (.lnt A) := (h.at e).resolve_left fun z => by cases z
theorem Sat.ent (s : Sat Γ σ H Fs) (h : Ent Γ Δ) : Sat Δ σ H Fs :=
  ⟨h.len.symm.trans s.len, fun i p A e => s.own i p A (h.own e), fun i A e => s.lnt i A (h.lnt e), fun i j p A n e k a => s.dj i j p A n (h.own e) (k.imp (fun ⟨q, B, z⟩ => ⟨q, B, h.own z⟩) fun ⟨B, z⟩ => ⟨B, h.lnt z⟩) a⟩
theorem Own.ent (h : Ent Γ Δ) {a : Addr} : Own Δ Fs a → Own Γ Fs a := fun ⟨i, p, A, e, f⟩ => ⟨i, p, A, h.own e, f⟩
end
/-- a slot gets an own value -/
def setF (Fs : Nat → Fp) (i : Nat) (F : Fp) : Nat → Fp := fun j => if j = i then F else Fs j
theorem setF_at {Fs : Nat → Fp} {i : Nat} {F : Fp} : setF Fs i F i = F := by simp [setF]
theorem setF_ne {Fs : Nat → Fp} {i j : Nat} {F : Fp} (h : j ≠ i) : setF Fs i F j = Fs j := by simp [setF, h]
section
variable {Γ Δ : Cxt} {σ : St} {H : Hp} {Fs : Nat → Fp} {i : Nat} {A : Ass} {v : V} {F : Fp}
/-- a slot is stored: the value's own objects are apart from all others -/
theorem Sat.set (s : Sat Γ σ H Fs) (hi : i < Γ.length) (x : A.h v H F) (d : ∀ a, F a → ¬ Own Γ Fs a) (dl : ∀ j B, Γ[j]? = some (.lnt B) → ∀ a, F a → ¬ Fs j a) : Sat (Γ.set i (.own none A)) (σ.set i (some v)) H (setF Fs i F) := by
  have hs : i < σ.length := s.len ▸ hi
  refine ⟨by simp [s.len], fun j p B e => ?_, fun j B e => ?_, fun j k p B n e c a f => ?_⟩
  · by_cases h : j = i
    · subst h
      rw [List.getElem?_set_self hi] at e
      cases e
      exact ⟨v, by rw [List.getElem?_set_self hs], by rw [setF_at]; exact x, fun u z => by cases z⟩
    · rw [List.getElem?_set_ne (Ne.symm h)] at e
      obtain ⟨u, a, b, c⟩ := s.own j p B e
      exact ⟨u, by rw [List.getElem?_set_ne (Ne.symm h)]; exact a, by rw [setF_ne h]; exact b, c⟩
  · by_cases h : j = i
    · subst h
      rw [List.getElem?_set_self hi] at e
      cases e
    · rw [List.getElem?_set_ne (Ne.symm h)] at e
      obtain ⟨u, a, b⟩ := s.lnt j B e
      exact ⟨u, by rw [List.getElem?_set_ne (Ne.symm h)]; exact a, by rw [setF_ne h]; exact b⟩
  · by_cases h : j = i
    · subst h
      rw [setF_at] at f
      have hk : k ≠ j := Ne.symm n
      rw [setF_ne hk]
      rw [List.getElem?_set_ne (Ne.symm hk)] at c
      rcases c with ⟨q, C, c⟩ | ⟨C, c⟩
      · exact fun g => d a f ⟨k, q, C, c, g⟩
      · exact dl k C c a f
    · rw [setF_ne h] at f
      rw [List.getElem?_set_ne (Ne.symm h)] at e
      by_cases hk : k = i
      · subst hk
        rw [setF_at]
        exact fun g => d a g ⟨j, p, B, e, f⟩
      · rw [setF_ne hk]
        rw [List.getElem?_set_ne (Ne.symm hk)] at c
        exact s.dj j k p B n e c a f
theorem Own.set {a : Addr} (hi : i < Γ.length) (o : Own (Γ.set i (.own none A)) (setF Fs i F) a) : F a ∨ Own Γ Fs a := by
  obtain ⟨j, p, B, e, f⟩ := o
  by_cases h : j = i
  · subst h
    rw [setF_at] at f
    exact .inl f
  · rw [setF_ne h] at f
    rw [List.getElem?_set_ne (Ne.symm h)] at e
    exact .inr ⟨j, p, B, e, f⟩
/-- what is lent stands: it is tracked, not new -/
theorem Sat.lntTrk (s : Sat Γ σ H Fs) {j : Nat} {B : Ass} (e : Γ[j]? = some (.lnt B)) {a : Addr} (f : Fs j a) : Mut (H a) := by
  obtain ⟨v, _, h⟩ := s.lnt j B e
  exact B.trk h f
theorem Sat.djl (s : Sat Γ σ H Fs) {j : Nat} {B : Ass} (e : Γ[j]? = some (.lnt B)) {a : Addr} (f : Fs j a) : ¬ Own Γ Fs a := fun ⟨i, p, A, e1, g⟩ => by
  by_cases h : i = j
  · subst h; rw [e] at e1; cases e1
  · exact s.dj i j p A h e1 (.inr ⟨B, e⟩) a g f
end
end Rf
/-! Rf1: descriptions of values; names, constants, operators, blocks, assignments. Own work. -/
namespace Rf
open PySem PySem.Spec L2

/-! ### plain values -/
def scl (w : V) : Ass := ⟨fun v _ F => v = w ∧ F = no, fun ⟨_, e⟩ f => by rw [e] at f; exact f.elim, fun h _ => h⟩
def isI (n : Int) : Ass := scl (.int n)
def isB (b : Bool) : Ass := scl (.bl b)
def isS (x : Str) : Ass := scl (.str x)
def isN (_ : Unit) : Ass := scl .non
instance : Imm isI := ⟨fun h => h.2⟩
instance : Imm isB := ⟨fun h => h.2⟩
instance : Imm isS := ⟨fun h => h.2⟩
instance : Imm isN := ⟨fun h => h.2⟩

/-! ### lists of values -/
structure AssL where
  h : List V → Hp → Fp → Prop
  trk : ∀ {v H F a}, h v H F → F a → Mut (H a)
  stb : ∀ {v H H' F}, h v H F → Keep F H H' → h v H' F
def nilL : AssL := ⟨fun vs _ F => vs = [] ∧ F = no, fun ⟨_, e⟩ f => by rw [e] at f; exact f.elim, fun h _ => h⟩
/-- one value and then others, their objects apart -/
def consL (A : Ass) (L : AssL) : AssL := ⟨fun vs H F => ∃ v r F1 F2, vs = v :: r ∧ A.h v H F1 ∧ L.h r H F2 ∧ (∀ a, F1 a → ¬ F2 a) ∧ F = un F1 F2,
  fun ⟨v, r, F1, F2, _, h1, h2, _, e⟩ f => by
    subst e
    exact f.elim (A.trk h1) (L.trk h2),
  fun ⟨v, r, F1, F2, e0, h1, h2, d, e⟩ k => by
    subst e
    exact ⟨v, r, F1, F2, e0, A.stb h1 (k.sub fun _ => .inl), L.stb h2 (k.sub fun _ => .inr), d, rfl⟩⟩
/-- .. read only: they may share -/
def consA (A : Ass) (L : AssL) : AssL := ⟨fun vs H F => ∃ v r F1 F2, vs = v :: r ∧ A.h v H F1 ∧ L.h r H F2 ∧ F = un F1 F2,
  fun ⟨v, r, F1, F2, _, h1, h2, e⟩ f => by
    subst e
    exact f.elim (A.trk h1) (L.trk h2),
  fun ⟨v, r, F1, F2, e0, h1, h2, e⟩ k => by
    subst e
    exact ⟨v, r, F1, F2, e0, A.stb h1 (k.sub fun _ => .inl), L.stb h2 (k.sub fun _ => .inr), rfl⟩⟩
class ImmL {α : Type} (A : α → AssL) : Prop where
  nil : ∀ {x v H F}, (A x).h v H F → F = no
def nilLu (_ : Unit) : AssL := nilL
instance : ImmL nilLu := ⟨fun h => h.2⟩

/-- each of vs is what f says of the one of xs, their objects apart -/
def AllF {α : Type} (f : α → Ass) (H : Hp) : List α → List V → Fp → Prop
  | [], [], F => F = no
  | x :: xs, v :: vs, F => ∃ F1 F2, (f x).h v H F1 ∧ AllF f H xs vs F2 ∧ (∀ a, F1 a → ¬ F2 a) ∧ F = un F1 F2
  | [], _ :: _, _ => False
  | _ :: _, [], _ => False
section
variable {α β γ : Type} {f : α → Ass} {H H' : Hp}
theorem AllF.length : ∀ {xs : List α} {vs : List V} {F : Fp}, AllF f H xs vs F → xs.length = vs.length
  | [], [], _, _ => rfl
  | _ :: _, _ :: _, _, ⟨_, _, _, h, _⟩ => by simp [AllF.length h]
  | [], _ :: _, _, h => h.elim
  | _ :: _, [], _, h => h.elim
theorem AllF.trk : ∀ {xs : List α} {vs : List V} {F : Fp} {a : Addr}, AllF f H xs vs F → F a → Mut (H a)
  | [], [], _, _, h, q => by rw [show _ = no from h] at q; exact q.elim
  | x :: _, _ :: _, _, _, ⟨_, _, h1, h2, _, e⟩, q => by subst e; exact q.elim ((f x).trk h1) (AllF.trk h2)
  | [], _ :: _, _, _, h, _ => h.elim
  | _ :: _, [], _, _, h, _ => h.elim
theorem AllF.stb : ∀ {xs : List α} {vs : List V} {F : Fp}, AllF f H xs vs F → Keep F H H' → AllF f H' xs vs F
  | [], [], _, h, _ => h
  | x :: _, _ :: _, _, ⟨F1, F2, h1, h2, d, e⟩, k => by subst e; exact ⟨F1, F2, (f x).stb h1 (k.sub fun _ => .inl), AllF.stb h2 (k.sub fun _ => .inr), d, rfl⟩
  | [], _ :: _, _, h, _ => h.elim
  | _ :: _, [], _, h, _ => h.elim
theorem AllF.nil [i : Imm f] : ∀ {xs : List α} {vs : List V} {F : Fp}, AllF f H xs vs F → F = no
  | [], [], _, h => h
  | _ :: _, _ :: _, _, ⟨_, _, h1, h2, _, e⟩ => by rw [e, i.nil h1, AllF.nil h2, no_un]
  | [], _ :: _, _, h => h.elim
  | _ :: _, [], _, h => h.elim
theorem AllF.get : ∀ {xs : List α} {vs : List V} {F : Fp} {i : Nat} {x : α}, AllF f H xs vs F → xs[i]? = some x → ∃ v G, vs[i]? = some v ∧ (f x).h v H G ∧ ∀ a, G a → F a
  | [], [], _, _, _, _, e => by simp at e
  | _ :: _, v :: _, _, 0, x, ⟨F1, F2, h1, h2, _, e⟩, q => by
    simp at q; subst q; subst e
    exact ⟨v, F1, rfl, h1, fun _ => .inl⟩
  | _ :: _, _ :: _, _, i + 1, x, ⟨F1, F2, h1, h2, _, e⟩, q => by
    subst e
    obtain ⟨v, G, a, b, c⟩ := AllF.get (i := i) h2 (by simpa using q)
    exact ⟨v, G, by simpa using a, b, fun z w => .inr (c z w)⟩
  | [], _ :: _, _, _, _, h, _ => h.elim
  | _ :: _, [], _, _, _, h, _ => h.elim
theorem AllF.append : ∀ {xs ys : List α} {vs ws : List V} {F G : Fp}, AllF f H xs vs F → AllF f H ys ws G → (∀ a, F a → ¬ G a) → AllF f H (xs ++ ys) (vs ++ ws) (un F G)
  | [], _, [], _, F, G, h, k, _ => by rw [show F = no from h, no_un]; exact k
  | x :: xs, ys, v :: vs, ws, F, G, ⟨F1, F2, h1, h2, d, e⟩, k, dd => by
    subst e
    refine ⟨F1, un F2 G, h1, AllF.append h2 k fun a q => dd a (.inr q), fun a q r => r.elim (d a q) (dd a (.inl q)), ?_⟩
    funext a; simp [un, or_assoc]
  | [], _, _ :: _, _, _, _, h, _, _ => h.elim
  | _ :: _, _, [], _, _, _, h, _, _ => h.elim
theorem AllF.one {x : α} {v : V} {F : Fp} (h : (f x).h v H F) : AllF f H [x] [v] F := ⟨F, no, h, rfl, fun _ _ z => z, (un_no F).symm⟩
/-- a step of the heap within which all items are kept, one by one -/
theorem AllF.imp {g : β → Ass} {t : β → α} (h : ∀ x v F, (f (t x)).h v H F → (g x).h v H' F) : ∀ {xs : List β} {vs : List V} {F : Fp}, AllF f H (xs.map t) vs F → AllF g H' xs vs F
  | [], [], _, q => q
  | x :: xs, v :: vs, _, ⟨F1, F2, h1, h2, d, e⟩ => ⟨F1, F2, h x v F1 h1, AllF.imp h h2, d, e⟩
  | [], _ :: _, _, q => q.elim
  | _ :: _, [], _, q => q.elim
theorem AllF.split : ∀ {xs : List α} {vs : List V} {F : Fp} {i : Nat} {x : α}, AllF f H xs vs F → xs[i]? = some x → ∃ v F1 F2, vs[i]? = some v ∧ (f x).h v H F1 ∧ AllF f H (xs.eraseIdx i) (vs.eraseIdx i) F2 ∧ (∀ a, F1 a → ¬ F2 a) ∧ ∀ a, (F1 a ∨ F2 a) ↔ F a
  | [], [], _, _, _, _, e => by simp at e
  | _ :: xs, v :: vs, _, 0, x, ⟨F1, F2, h1, h2, d, e⟩, q => by
    simp at q; subst q; subst e
    exact ⟨v, F1, F2, rfl, h1, h2, d, fun _ => Iff.rfl⟩
  | y :: xs, w :: vs, _, i + 1, x, ⟨F1, F2, h1, h2, d, e⟩, q => by
    subst e
    obtain ⟨v, G1, G2, a, b, c, dd, s⟩ := AllF.split (i := i) (x := x) h2 (by simpa using q)
    refine ⟨v, G1, un F1 G2, by simpa using a, b, ⟨F1, G2, h1, c, fun z p r => d z p ((s z).mp (.inr r)), rfl⟩, fun z p r => r.elim (fun r => d z r ((s z).mp (.inl p))) (dd z p), fun z => ?_⟩
    have := s z
    constructor
    · rintro (p | p | p)
      · exact .inr (this.mp (.inl p))
      · exact .inl p
      · exact .inr (this.mp (.inr p))
    · rintro (p | p)
      · exact .inr (.inl p)
      · rcases this.mpr p with r | r
        · exact .inl r
        · exact .inr (.inr r)
  | [], _ :: _, _, _, _, h, _ => h.elim
  | _ :: _, [], _, _, _, h, _ => h.elim
theorem AllF.set : ∀ {xs : List α} {vs : List V} {F G : Fp} {i : Nat} {y : α} {w : V}, AllF f H xs vs F → i < xs.length → (f y).h w H G → (∀ a, G a → ¬ F a) → ∃ F', AllF f H (xs.set i y) (vs.set i w) F' ∧ ∀ a, F' a → F a ∨ G a
  | [], [], _, _, _, _, _, _, l, _, _ => by simp at l
  | _ :: xs, v :: vs, _, G, 0, y, w, ⟨F1, F2, h1, h2, d, e⟩, _, k, dd => by
    subst e
    exact ⟨un G F2, ⟨G, F2, k, h2, fun a p r => dd a p (.inr r), rfl⟩, fun a p => p.elim .inr fun r => .inl (.inr r)⟩
  | _ :: xs, v :: vs, _, G, i + 1, y, w, ⟨F1, F2, h1, h2, d, e⟩, l, k, dd => by
    subst e
    obtain ⟨F', a, b⟩ := AllF.set h2 (by simpa using l) k fun a p r => dd a p (.inr r)
    refine ⟨un F1 F', ⟨F1, F', h1, a, fun z p r => (b z r).elim (d z p) fun g => dd z g (.inl p), rfl⟩, fun z p => ?_⟩
    rcases p with p | p
    · exact .inl (.inl p)
    · exact (b z p).imp .inr id
  | [], _ :: _, _, _, _, _, _, h, _, _, _ => h.elim
  | _ :: _, [], _, _, _, _, _, h, _, _, _ => h.elim
/-- of things that own nothing -/
theorem AllF.mk [i : Imm f] : ∀ {xs : List α} {vs : List V}, (∀ (j : Nat) (x : α), xs[j]? = some x → ∃ v, vs[j]? = some v ∧ (f x).h v H no) → xs.length = vs.length → AllF f H xs vs no
  | [], [], _, _ => rfl
  | x :: xs, v :: vs, h, l => by
    refine ⟨no, no, ?_, AllF.mk (fun j y e => ?_) (by simpa using l), fun _ z => z.elim, (no_un no).symm⟩
    · obtain ⟨w, e, q⟩ := h 0 x rfl
      simp at e; subst e; exact q
    · obtain ⟨w, e, q⟩ := h (j + 1) y (by simpa using e)
      exact ⟨w, by simpa using e, q⟩
  | [], _ :: _, _, l => by simp at l
  | _ :: _, [], _, l => by simp at l
theorem AllF.all [i : Imm f] {xs : List α} {vs : List V} {F : Fp} (h : AllF f H xs vs F) {j : Nat} {x : α} (e : xs[j]? = some x) : ∃ v, vs[j]? = some v ∧ (f x).h v H no := by
  obtain ⟨v, G, a, b, _⟩ := h.get e
  have := i.nil b
  subst this
  exact ⟨v, a, b⟩
end

/-! ### tuples, lists, options -/
section
variable {α β γ δ : Type}
def isT (f : α → Ass) (xs : List α) : Ass := ⟨fun v H F => ∃ a vs, v = .ref a ∧ H a = some (.tup vs) ∧ AllF f H xs vs F,
  fun ⟨_, _, _, _, h⟩ q => h.trk q,
  fun ⟨a, vs, e, r, h⟩ k => ⟨a, vs, e, k a _ r (.inr fun z => z), h.stb k⟩⟩
instance {f : α → Ass} [Imm f] : Imm (isT f) := ⟨fun ⟨_, _, _, _, h⟩ => h.nil⟩
/-- a tuple of unlike things -/
def isTu (L : AssL) : Ass := ⟨fun v H F => ∃ a vs, v = .ref a ∧ H a = some (.tup vs) ∧ L.h vs H F,
  fun ⟨_, _, _, _, h⟩ q => L.trk h q,
  fun ⟨a, vs, e, r, h⟩ k => ⟨a, vs, e, k a _ r (.inr fun z => z), L.stb h k⟩⟩
def isP (f : α → Ass) (g : β → Ass) (p : α × β) : Ass := isTu (consL (f p.1) (consL (g p.2) nilL))
def isP3 (f : α → Ass) (g : β → Ass) (k : γ → Ass) (p : α × β × γ) : Ass := isTu (consL (f p.1) (consL (g p.2.1) (consL (k p.2.2) nilL)))
def isP4 (f : α → Ass) (g : β → Ass) (k : γ → Ass) (l : δ → Ass) (p : α × β × γ × δ) : Ass := isTu (consL (f p.1) (consL (g p.2.1) (consL (k p.2.2.1) (consL (l p.2.2.2) nilL))))
theorem consL_nil {A : Ass} {L : AssL} {vs : List V} {H : Hp} {F : Fp} (h1 : ∀ v F, A.h v H F → F = no) (h2 : ∀ r F, L.h r H F → F = no) (h : (consL A L).h vs H F) : F = no := by
  obtain ⟨v, r, F1, F2, _, a, b, _, e⟩ := h
  rw [e, h1 _ _ a, h2 _ _ b, no_un]
instance {f : α → Ass} {g : β → Ass} [i : Imm f] [j : Imm g] : Imm (isP f g) := ⟨fun ⟨_, _, _, _, h⟩ => consL_nil (fun _ _ q => i.nil (x := _) q) (fun _ _ => consL_nil (fun _ _ q => j.nil (x := _) q) fun _ _ q => And.right q) h⟩
instance {f : α → Ass} {g : β → Ass} {k : γ → Ass} [i : Imm f] [j : Imm g] [l : Imm k] : Imm (isP3 f g k) := ⟨fun ⟨_, _, _, _, h⟩ => consL_nil (fun _ _ q => i.nil (x := _) q) (fun _ _ => consL_nil (fun _ _ q => j.nil (x := _) q) fun _ _ => consL_nil (fun _ _ q => l.nil (x := _) q) fun _ _ q => And.right q) h⟩
def isO (f : α → Ass) : Option α → Ass
  | none => scl .non
  | some x => f x
instance {f : α → Ass} [i : Imm f] : Imm (isO f) := ⟨fun {x} {_} {_} {_} h => by
  cases x with
  | none => exact h.2
  | some x => exact i.nil h⟩
def isL (f : α → Ass) (xs : List α) : Ass := ⟨fun v H F => ∃ a vs G, v = .ref a ∧ H a = some (.lst vs) ∧ AllF f H xs vs G ∧ ¬ G a ∧ F = fun b => b = a ∨ G b,
  fun {v H F b} ⟨a, vs, G, _, r, h, _, e⟩ q => by
    subst e
    rcases q with q | q
    · rw [q, r]; trivial
    · exact h.trk q,
  fun ⟨a, vs, G, e, r, h, n, ef⟩ k => by
    subst ef
    exact ⟨a, vs, G, e, k a _ r (.inl (.inl rfl)), h.stb (k.sub fun _ => .inr), n, rfl⟩⟩
end

/-! ### names and constants -/
section
variable {α β γ S : Type} {X : Cx} {Γ : Cxt} {pos : Pos}
/-- a name of the def: what its slot holds -/
theorem al_var (i : Nat) {x : Str} {A : α → Ass} {a : α} {sl : Sl} (e : Γ[i]? = some sl) (es : (∃ p, sl = .own p (A a)) ∨ sl = .lnt (A a)) (hN : X.N[i]? = some x) (hv : Vis X.env.scope x)
    (hd : (x == ("__debug__" : Str)) = false) (hcd : (x == ("__classdict__" : Str)) = false) : Al X Γ (.Name x pos) (some a) A := .mk fun σ H Fs s b eb Q q => by
  cases eb
  obtain ⟨v, ev, hh⟩ : ∃ v, σ[i]? = some (some v) ∧ (A a).h v H (Fs i) := by
    rcases es with ⟨p, es⟩ | es
    · subst es
      obtain ⟨v, a, b, _⟩ := s.own i _ _ e
      exact ⟨v, a, b⟩
    · subst es
      exact s.lnt i _ e
  refine TEof.of (pe_var hN hv hd hcd) ⟨v, ev, q v H (Fs i) (Same.refl H) hh fun x f => .inl ⟨i, ?_, f⟩⟩
  rcases es with ⟨p, es⟩ | es
  · subst es; exact .inl ⟨p, _, e⟩
  · subst es; exact .inr ⟨_, e⟩
/-- own slot -/
theorem av (i : Nat) {x : Str} {A : α → Ass} {a : α} {p : Option V} (e : Γ[i]? = some (.own p (A a)) := by rfl) (hN : X.N[i]? = some x := by rfl) (hv : Vis X.env.scope x := by exact visOf rfl)
    (hd : (x == ("__debug__" : Str)) = false := by decide) (hcd : (x == ("__classdict__" : Str)) = false := by decide) : Al X Γ (.Name x pos) (some a) A := al_var i e (.inl ⟨p, rfl⟩) hN hv hd hcd
/-- lent slot -/
theorem al (i : Nat) {x : Str} {A : α → Ass} {a : α} (e : Γ[i]? = some (.lnt (A a)) := by rfl) (hN : X.N[i]? = some x := by rfl) (hv : Vis X.env.scope x := by exact visOf rfl)
    (hd : (x == ("__debug__" : Str)) = false := by decide) (hcd : (x == ("__classdict__" : Str)) = false := by decide) : Al X Γ (.Name x pos) (some a) A := al_var i e (.inr rfl) hN hv hd hcd
theorem pu_const {e : Expr} {v : V} {A : α → Ass} {a : α} (h : PE X e (tC v)) (q : ∀ H, (A a).h v H no) : Pu X Γ e (some a) A := .mk fun σ H Fs s b eb Q k => by
  cases eb
  exact TEof.of h (k v H no (Same.refl H) (q H) fun _ z => z.elim)
theorem pu_int {i : Int} {j} : Pu X Γ (.Constant (.int i) j pos) (some i) isI := pu_const pe_int fun _ => ⟨rfl, rfl⟩
theorem pu_bl {b : Bool} {j} : Pu X Γ (.Constant (.bool b) j pos) (some b) isB := pu_const pe_bl fun _ => ⟨rfl, rfl⟩
theorem pu_str {x : Str} {j} : Pu X Γ (.Constant (.str x) j pos) (some x) isS := pu_const pe_str fun _ => ⟨rfl, rfl⟩
theorem pu_non {j} : Pu X Γ (.Constant .none j pos) (some ()) isN := pu_const pe_non fun _ => ⟨rfl, rfl⟩
/-- None as an option -/
theorem pu_nonO {j} {f : α → Ass} : Pu X Γ (.Constant .none j pos) (some none) (isO f) := pu_const pe_non fun _ => ⟨rfl, rfl⟩
/-- the same value by another description -/
theorem Pu.as {e : Expr} {p : Option α} {A : α → Ass} {B : β → Ass} (h : Pu X Γ e p A) (t : α → β) (c : ∀ x v H F, (A x).h v H F → (B (t x)).h v H F) : Pu X Γ e (p.map t) B := .mk fun σ H Fs s b eb Q q => by
  obtain ⟨a, ea, rfl⟩ := Option.map_eq_some_iff.mp eb
  exact h σ H Fs s a ea Q fun v H' F sm hh fr => q v H' F sm (c _ _ _ _ hh) fr
theorem Al.as {e : Expr} {p : Option α} {A : α → Ass} {B : β → Ass} (h : Al X Γ e p A) (t : α → β) (c : ∀ x v H F, (A x).h v H F → (B (t x)).h v H F) : Al X Γ e (p.map t) B := .mk fun σ H Fs s b eb Q q => by
  obtain ⟨a, ea, rfl⟩ := Option.map_eq_some_iff.mp eb
  exact h σ H Fs s a ea Q fun v H' F sm hh cv => q v H' F sm (c _ _ _ _ hh) cv
theorem Pu.opt {e : Expr} {p : Option α} {f : α → Ass} (h : Pu X Γ e p f) : Pu X Γ e (p.map some) (isO f) := h.as some fun _ _ _ _ q => q

/-! ### operators by their values -/
def Op2 (r : R2) (A : α → Ass) (B : β → Ass) (C : γ → Ass) (f : α → β → Option γ) : Prop :=
  ∀ {x y v u H F G z}, (A x).h v H F → (B y).h u H G → f x y = some z → ∀ Q : VK, (∀ w H' T, Same H H' → (C z).h w H' T → (∀ b, T b → H b = none) → Q w H') → r v u H Q
/-- the value may be part of the operands -/
def Op2A (r : R2) (A : α → Ass) (B : β → Ass) (C : γ → Ass) (f : α → β → Option γ) : Prop :=
  ∀ {x y v u H F G z}, (A x).h v H F → (B y).h u H G → f x y = some z → ∀ Q : VK, (∀ w H' T, Same H H' → (C z).h w H' T → (∀ b, T b → F b ∨ G b ∨ H b = none) → Q w H') → r v u H Q
def Op1 (r : V → Hp → VK → Prop) (A : α → Ass) (C : γ → Ass) (f : α → Option γ) : Prop :=
  ∀ {x v H F z}, (A x).h v H F → f x = some z → ∀ Q : VK, (∀ w H' T, Same H H' → (C z).h w H' T → (∀ b, T b → H b = none) → Q w H') → r v H Q
variable {A : α → Ass} {B : β → Ass} {C : γ → Ass} {a b : Expr} {p : Option α} {q : Option β} {f : α → β → Option γ}
theorem two {r : R2} (o : Op2 r A B C f) (ha : Al X Γ a p A) (hb : Al X Γ b q B) {σ : L2.St} {H : Hp} {Fs : Nat → Fp} (s : Sat Γ σ H Fs) {z : γ} (e : (p.bind fun x => q.bind fun y => f x y) = some z) {Q : VK}
    (k : ∀ v H' F, Same H H' → (C z).h v H' F → (∀ x, F x → H x = none) → Q v H') : tOp r (TEof X a) (TEof X b) σ H Q := by
  obtain ⟨x, e1, e2⟩ := Option.bind_eq_some_iff.mp e
  obtain ⟨y, e2, e3⟩ := Option.bind_eq_some_iff.mp e2
  refine ha σ H Fs s x e1 _ fun v H1 F s1 h1 _ => ?_
  refine hb σ H1 Fs (s.same s1) y e2 _ fun u H2 G s2 h2 _ => ?_
  exact o (Ass.same h1 s2) h2 e3 Q fun w H3 T s3 h3 fr => k w H3 T ((s1.trans s2).trans s3) h3 fun c t => (s1.trans s2).free (fr c t)
theorem twoA {r : R2} (o : Op2A r A B C f) (ha : Al X Γ a p A) (hb : Al X Γ b q B) {σ : L2.St} {H : Hp} {Fs : Nat → Fp} (s : Sat Γ σ H Fs) {z : γ} (e : (p.bind fun x => q.bind fun y => f x y) = some z) {Q : VK}
    (k : ∀ v H' F, Same H H' → (C z).h v H' F → (∀ x, F x → Cov Γ Fs x ∨ H x = none) → Q v H') : tOp r (TEof X a) (TEof X b) σ H Q := by
  obtain ⟨x, e1, e2⟩ := Option.bind_eq_some_iff.mp e
  obtain ⟨y, e2, e3⟩ := Option.bind_eq_some_iff.mp e2
  refine ha σ H Fs s x e1 _ fun v H1 F s1 h1 c1 => ?_
  refine hb σ H1 Fs (s.same s1) y e2 _ fun u H2 G s2 h2 c2 => ?_
  refine o (Ass.same h1 s2) h2 e3 Q fun w H3 T s3 h3 c3 => k w H3 T ((s1.trans s2).trans s3) h3 fun c t => ?_
  rcases c3 c t with f | g | n
  · exact c1 c f
  · exact (c2 c g).imp id fun n => s1.free n
  · exact .inr ((s1.trans s2).free n)
theorem pu_bin {op : Operator} {r : R2} (ho : OpR X (binaryOp op) r) (o : Op2 r A B C f) (ha : Al X Γ a p A) (hb : Al X Γ b q B) : Pu X Γ (.BinOp a op b pos) (p.bind fun x => q.bind fun y => f x y) C :=
  .mk fun σ H Fs s z e Q k => TEof.of (pe_op ho (pe_of X a) (pe_of X b)) (two o ha hb s e k)
theorem pu_cmp {op : CmpOp} {r : R2} {f : α → β → Option Bool} (ho : OpR X (compareOp op) r) (o : Op2 r A B isB f) (ha : Al X Γ a p A) (hb : Al X Γ b q B) (hm : behindInMarks op b = false := by first | exact nomark _ | rfl) : Pu X Γ (.Compare a [op] [b] pos) (p.bind fun x => q.bind fun y => f x y) isB :=
  .mk fun σ H Fs s z e Q k => TEof.of (pe_cmpR ho (pe_of X a) (pe_of X b) hm) (two o ha hb s e k)
theorem te_cmp {op : CmpOp} {r : R2} {f : α → β → Option Bool} (ho : OpR X (compareOp op) r) (o : Op2 r A B isB f) (ha : Al X Γ a p A) (hb : Al X Γ b q B) (hm : behindInMarks op b = false := by first | exact nomark _ | rfl) : Te X Γ (.Compare a [op] [b] pos) (p.bind fun x => q.bind fun y => f x y) :=
  .mk fun σ H Fs s z e Q k => TTof.of (pt_cmpR ho (pe_of X a) (pe_of X b) hm) (show tTest _ σ H Q from two o ha hb s e fun v H' F sm h fr => ⟨z, h.1, k H' sm⟩)
theorem al_ix {r : R2} (hr : IxR X r) (o : Op2A r A B C f) (ha : Al X Γ a p A) (hb : Al X Γ b q B) (hs : PlainIx b := by intro _ _; rfl) : Al X Γ (.Subscript a b pos) (p.bind fun x => q.bind fun y => f x y) C :=
  .mk fun σ H Fs s z e Q k => TEof.of (pe_ix hr (pe_of X a) (pe_of X b) hs) (twoA o ha hb s e k)
theorem pu_un {op : UnaryOp} {r : V → Hp → VK → Prop} {f : α → Option γ} (ho : UnR X (unaryOp op) r) (o : Op1 r A C f) (ha : Al X Γ a p A) : Pu X Γ (.UnaryOp op a pos) (p.bind f) C :=
  .mk fun σ H Fs s z e Q k => TEof.of (pe_un ho (pe_of X a)) (by
    obtain ⟨x, e1, e2⟩ := Option.bind_eq_some_iff.mp e
    exact ha σ H Fs s x e1 _ fun v H1 F s1 h1 _ => o h1 e2 Q fun w H2 T s2 h2 fr => k w H2 T (s1.trans s2) h2 fun c t => s1.free (fr c t))

/-! ### tests -/
theorem te_val {e : Expr} {p : Option Bool} (h : Al X Γ e p isB) (he : ∀ whole, isTrue e X.env whole = (do let v ← whole; standAt e.pos; holding [v] (truthy v)) := by intro _; rfl) : Te X Γ e p :=
  .mk fun σ H Fs s b e1 Q k => TTof.of (pt_val (pe_of X e) he) (h σ H Fs s b e1 _ fun v H' F sm hh _ => ⟨b, hh.1, k H' sm⟩)
/-- truth of a value of another kind -/
def Tru (A : α → Ass) (t : α → Option Bool) : Prop := ∀ {K x v H F b}, (A x).h v H F → t x = some b → TruV K v H b
theorem te_tru {e : Expr} {t : α → Option Bool} (o : Tru A t) (h : Al X Γ e p A) (he : ∀ whole, isTrue e X.env whole = (do let v ← whole; standAt e.pos; holding [v] (truthy v)) := by intro _; rfl) : Te X Γ e (p.bind t) :=
  .mk fun σ H Fs s b e1 Q k => TTof.of (pt_truth (pe_of X e) he) (by
    obtain ⟨x, e1, e2⟩ := Option.bind_eq_some_iff.mp e1
    exact h σ H Fs s x e1 _ fun v H' F sm hh _ => ⟨b, o hh e2, k H' sm⟩)
theorem te_not {t : Option Bool} (h : Te X Γ a t) : Te X Γ (.UnaryOp .Not a pos) (t.map not) := .mk fun σ H Fs s b e Q k => TTof.of (pt_not (pt_of X a)) (by
  obtain ⟨c, e1, rfl⟩ := Option.map_eq_some_iff.mp e
  exact h σ H Fs s c e1 _ fun H' sm => k H' sm)
theorem tw_and1 {t : Option Bool} (h : Te X Γ a t) : Tw X Γ (.BoolOp .And [a] pos) t := .mk fun σ H Fs s b e Q k => TWof.of (pw_and1 (pt_of X a)) (h σ H Fs s b e Q k)
theorem tw_or1 {t : Option Bool} (h : Te X Γ a t) : Tw X Γ (.BoolOp .Or [a] pos) t := .mk fun σ H Fs s b e Q k => TWof.of (pw_or1 (pt_of X a)) (h σ H Fs s b e Q k)
theorem tw_and {t u : Option Bool} {rest : List Expr} (h : Te X Γ a t) (g : Tw X Γ (.BoolOp .And (b :: rest) pos) u) : Tw X Γ (.BoolOp .And (a :: b :: rest) pos) (t.bind fun c => if c = true then u else some false) := .mk fun σ H Fs s z e Q k => TWof.of (pw_and (pt_of X a) (pw_of X _)) (by
  obtain ⟨c, e1, e2⟩ := Option.bind_eq_some_iff.mp e
  refine h σ H Fs s c e1 _ fun H1 s1 => ?_
  cases c with
  | true => exact g σ H1 Fs (s.same s1) z (by simpa using e2) Q fun H2 s2 => k H2 (s1.trans s2)
  | false =>
    cases e2
    exact k H1 s1)
theorem tw_or {t u : Option Bool} {rest : List Expr} (h : Te X Γ a t) (g : Tw X Γ (.BoolOp .Or (b :: rest) pos) u) : Tw X Γ (.BoolOp .Or (a :: b :: rest) pos) (t.bind fun c => if c = true then some true else u) := .mk fun σ H Fs s z e Q k => TWof.of (pw_or (pt_of X a) (pw_of X _)) (by
  obtain ⟨c, e1, e2⟩ := Option.bind_eq_some_iff.mp e
  refine h σ H Fs s c e1 _ fun H1 s1 => ?_
  cases c with
  | false => exact g σ H1 Fs (s.same s1) z (by simpa using e2) Q fun H2 s2 => k H2 (s1.trans s2)
  | true =>
    cases e2
    exact k H1 s1)
theorem pu_if {c : Expr} {t : Option Bool} {q : Option α} (hc : Te X Γ c t) (ha : Pu X Γ a p A) (hb : Pu X Γ b q A) : Pu X Γ (.IfExp c a b pos) (t.bind fun d => if d = true then p else q) A :=
  .mk fun σ H Fs s z e Q k => TEof.of (pe_ifExp (pt_of X c) (pe_of X a) (pe_of X b)) (by
    obtain ⟨d, e1, e2⟩ := Option.bind_eq_some_iff.mp e
    refine hc σ H Fs s d e1 _ fun H1 s1 => ?_
    cases d with
    | true => exact ha σ H1 Fs (s.same s1) z (by simpa using e2) Q fun v H2 F s2 h fr => k v H2 F (s1.trans s2) h fun x f => s1.free (fr x f)
    | false => exact hb σ H1 Fs (s.same s1) z (by simpa using e2) Q fun v H2 F s2 h fr => k v H2 F (s1.trans s2) h fun x f => s1.free (fr x f))
end

/-! ### blocks -/
section
variable {α β γ ρ δ S : Type} {X : Cx} {Γ : Cxt} {pos : Pos} {st : Stmt} {rest : List Stmt}
def Fl.bind {β β' γ ρ : Type} (f : Fl β γ ρ) (k : β → Option (Fl β' γ ρ)) : Option (Fl β' γ ρ) := match f with
  | .nx b => k b
  | .bk g => some (.bk g)
  | .ct g => some (.ct g)
  | .rt r => some (.rt r)
theorem Mv.ent {Γ Δ : Cxt} {σ : L2.St} {H : Hp} {Fs : Nat → Fp} (h : Ent Γ Δ) : Mv Γ Fs σ H Δ Fs σ H := ⟨Step.same (Same.refl H) fun a o => .inl (o.ent h), fun j B e => ⟨⟨B, h.lnt e⟩, rfl, rfl⟩⟩
theorem bn_nil {b : β} {N : β → Cxt} (h : Ent Γ (N b)) : Bn X Γ [] (some b) N := .mk fun σ H Fs s b' e D q => by
  cases e
  exact TBof.of pss_nil (q σ H Fs (s.ent h) (Mv.ent h))
theorem bn_cons {m : Option β} {N : β → Cxt} {k : β → Option δ} {M : δ → Cxt} (h1 : Sn X Γ st m N) (h2 : ∀ b, Bn X (N b) rest (k b) M) : Bn X Γ (st :: rest) (m.bind k) M := .mk fun σ H Fs s d e D q => by
  obtain ⟨b, e1, e2⟩ := Option.bind_eq_some_iff.mp e
  refine TBof.of (pss_cons (ps_of X st) (pss_of X rest)) ?_
  exact h1 σ H Fs s b e1 _ fun σ1 H1 F1 s1 t1 => h2 b σ1 H1 F1 s1 d e2 D fun σ2 H2 F2 s2 t2 => q σ2 H2 F2 s2 (t1.trans t2)
theorem bx_nil {b : β} {N : β → Cxt} {L : γ → Cxt} {R : Rt ρ} (h : Ent Γ (N b)) : Bx X Γ [] (some (.nx b)) N L R := .mk fun σ H Fs s f e D q => by
  cases e
  exact TBof.of pss_nil (q σ H Fs (s.ent h) (Mv.ent h))
theorem FlEnd.step {Δ : Cxt} {σ σ' : L2.St} {Fs Gs : Nat → Fp} {H H' : Hp} {N : β → Cxt} {L : γ → Cxt} {R : Rt ρ} {D : Ends} (t : Mv Γ Fs σ H Δ Gs σ' H') : ∀ {f : Fl β γ ρ}, FlEnd Γ Fs σ H N L R D f → FlEnd Δ Gs σ' H' N L R D f
  | .nx b, h => fun σ' H2 F2 s2 t2 => h σ' H2 F2 s2 (t.trans t2)
  | .bk g, h => fun σ' H2 F2 s2 t2 => h σ' H2 F2 s2 (t.trans t2)
  | .ct g, h => fun σ' H2 F2 s2 t2 => h σ' H2 F2 s2 (t.trans t2)
  | .rt r, h => fun v σ' H2 F2 T s2 a d t2 => h v σ' H2 F2 T s2 a d (t.st.trans t2)
theorem bx_cons {m : Option β} {N : β → Cxt} {k : β → Option (Fl δ γ ρ)} {M : δ → Cxt} {L : γ → Cxt} {R : Rt ρ} (h1 : Sn X Γ st m N) (h2 : ∀ b, Bx X (N b) rest (k b) M L R) : Bx X Γ (st :: rest) (m.bind k) M L R := .mk fun σ H Fs s d e D q => by
  obtain ⟨b, e1, e2⟩ := Option.bind_eq_some_iff.mp e
  refine TBof.of (pss_cons (ps_of X st) (pss_of X rest)) ?_
  exact h1 σ H Fs s b e1 _ fun σ1 H1 F1 s1 t1 => h2 b σ1 H1 F1 s1 d e2 D (q.step t1)
theorem bx_consx {m : Option (Fl β γ ρ)} {N : β → Cxt} {k : β → Option (Fl δ γ ρ)} {M : δ → Cxt} {L : γ → Cxt} {R : Rt ρ} (h1 : Sx X Γ st m N L R) (h2 : ∀ b, Bx X (N b) rest (k b) M L R) : Bx X Γ (st :: rest) (m.bind fun f => f.bind k) M L R := .mk fun σ H Fs s d e D q => by
  obtain ⟨f, e1, e2⟩ := Option.bind_eq_some_iff.mp e
  refine TBof.of (pss_cons (ps_of X st) (pss_of X rest)) ?_
  refine h1 σ H Fs s f e1 _ ?_
  cases f with
  | nx b => exact fun σ1 H1 F1 s1 t1 => h2 b σ1 H1 F1 s1 d e2 D (q.step t1)
  | bk g => cases e2; exact q
  | ct g => cases e2; exact q
  | rt r => cases e2; exact q
/-- the last statement -/
theorem bx_last {m : Option (Fl β γ ρ)} {N : β → Cxt} {L : γ → Cxt} {R : Rt ρ} (h1 : Sx X Γ st m N L R) : Bx X Γ [st] m N L R := .mk fun σ H Fs s d e D q =>
  TBof.of (pss_one (ps_of X st)) (h1 σ H Fs s d e D q)
theorem bn_last {m : Option β} {N : β → Cxt} (h1 : Sn X Γ st m N) : Bn X Γ [st] m N := .mk fun σ H Fs s d e D q =>
  TBof.of (pss_one (ps_of X st)) (h1 σ H Fs s d e D q)
theorem Bn.bx {sts : List Stmt} {m : Option β} {N : β → Cxt} {L : γ → Cxt} {R : Rt ρ} (h : Bn X Γ sts m N) : Bx X Γ sts (m.bind fun b => some (.nx b)) N L R := .mk fun σ H Fs s d e D q => by
  obtain ⟨b, e1, e2⟩ := Option.bind_eq_some_iff.mp e
  cases e2
  exact h σ H Fs s b e1 D q
/-- a block's end is told by less -/
theorem Bn.to {sts : List Stmt} {m : Option β} {N : β → Cxt} {M : δ → Cxt} (h : Bn X Γ sts m N) (g : β → δ) (en : ∀ b, Ent (N b) (M (g b))) : Bn X Γ sts (m.map g) M := .mk fun σ H Fs s d e D q => by
  obtain ⟨b, e1, rfl⟩ := Option.map_eq_some_iff.mp e
  exact h σ H Fs s b e1 D fun σ1 H1 F1 s1 t1 => q σ1 H1 F1 (s1.ent (en b)) (t1.trans (Mv.ent (en b)))

/-! ### statements -/
variable {A : α → Ass} {e : Expr} {p : Option α}
theorem sn_set (i : Nat) {x : Str} {pos' : Pos} (he : Pu X Γ e p A) (hi : i < Γ.length) (hN : X.N.Nodup) (hx : X.N[i]? = some x) (hl : Loc X.env.scope x) (hf : X.fn x = true ∨ X.env.scope.names.lookup x = some .local)
    (hs : swapsWith e (some (.Name x pos')) pos.line X.env = pure false) : Sn X Γ (.Assign [.Name x pos'] e pos) p (fun a => Γ.set i (.own none (A a))) := .mk fun σ H Fs s a ea D q => by
  refine TSof.of (ps_set (i := i) hN hx hl (pe_of X e) hs hf) ?_
  refine he σ H Fs s a ea _ fun v H1 F s1 h1 fr => ?_
  have s2 := s.same s1
  refine q _ H1 (setF Fs i F) (s2.set hi h1 (s.apart fr).1 (s.apart fr).2) ⟨Step.same s1 fun b o => ?_, fun j B ej => ?_⟩
  · rcases Own.set hi o with f | o
    · exact .inr (fr b f)
    · exact .inl o
  · have hj : j ≠ i := fun z => by
      subst z
      rw [List.getElem?_set_self hi] at ej
      cases ej
    rw [List.getElem?_set_ne (Ne.symm hj)] at ej
    exact ⟨⟨B, ej⟩, setF_ne hj, List.getElem?_set_ne (Ne.symm hj)⟩
theorem Ef.mv {Γ : S → Cxt} {s0 s' : S} {σ : L2.St} {H H' : Hp} {Fs Fs' : Nat → Fp} {T : Fp} (st : Step (Own (Γ s0) Fs) H (un T (Own (Γ s') Fs')) H') (ls : LS (Γ s0) Fs (Γ s') Fs') : Mv (Γ s0) Fs σ H (Γ s') Fs' σ H' :=
  ⟨st.sub fun _ => .inr, fun j B e => ⟨(ls j B e).1, (ls j B e).2, rfl⟩⟩
theorem sn_setE (i : Nat) {Γ : S → Cxt} {s0 : S} {m : Option (α × S)} {x : Str} {pos' : Pos} (he : Ef X Γ s0 e m A) (hi : ∀ s, i < (Γ s).length) (hN : X.N.Nodup) (hx : X.N[i]? = some x) (hl : Loc X.env.scope x) (hf : X.fn x = true ∨ X.env.scope.names.lookup x = some .local)
    (hs : swapsWith e (some (.Name x pos')) pos.line X.env = pure false) : Sn X (Γ s0) (.Assign [.Name x pos'] e pos) m (fun a => (Γ a.2).set i (.own none (A a.1))) := .mk fun σ H Fs s a ea D q => by
  refine TSof.of (ps_set (i := i) hN hx hl (pe_of X e) hs hf) ?_
  refine he σ H Fs s a.1 a.2 ea _ fun v H1 Fs' T s1 h1 d t l => ?_
  refine q _ H1 (setF Fs' i T) (s1.set (hi _) h1 d.1 d.2) ⟨⟨t.1, fun b o => ?_⟩, fun j B ej => ?_⟩
  · rcases Own.set (hi _) o with f | o
    · exact t.2 b (.inl f)
    · exact t.2 b (.inr o)
  · have hj : j ≠ i := fun z => by
      subst z
      rw [List.getElem?_set_self (hi _)] at ej
      cases ej
    rw [List.getElem?_set_ne (Ne.symm hj)] at ej
    obtain ⟨c, r⟩ := l j B ej
    exact ⟨c, (setF_ne hj).trans r, List.getElem?_set_ne (Ne.symm hj)⟩
end
end Rf
/-! Rf2: arguments, calls, promises of defs. Own work. -/
namespace Rf
open PySem PySem.Spec L2

section
variable {α β γ ρ κ S : Type}
/-- pure arguments, read only -/
abbrev Ag (X : Cx) (Γ : Cxt) (es : List Expr) (p : Option α) (A : α → AssL) : Prop := Hold (
  ∀ σ H Fs, Sat Γ σ H Fs → ∀ a, p = some a → ∀ Q : List V → Hp → Prop, (∀ vs H' F, Same H H' → (A a).h vs H' F → (∀ x, F x → Cov Γ Fs x ∨ H x = none) → Q vs H') → TAof X es σ H Q)
/-- pure arguments, each new, apart from each other -/
abbrev Ah (X : Cx) (Γ : Cxt) (es : List Expr) (p : Option α) (A : α → AssL) : Prop := Hold (
  ∀ σ H Fs, Sat Γ σ H Fs → ∀ a, p = some a → ∀ Q : List V → Hp → Prop, (∀ vs H' F, Same H H' → (A a).h vs H' F → (∀ x, F x → H x = none) → Q vs H') → TAof X es σ H Q)
/-- arguments with effects, each own, apart from each other -/
abbrev Ae (X : Cx) (Γ : S → Cxt) (s : S) (es : List Expr) (m : Option (α × S)) (A : α → AssL) : Prop := Hold (
  ∀ σ H Fs, Sat (Γ s) σ H Fs → ∀ a s', m = some (a, s') → ∀ Q : List V → Hp → Prop, (∀ vs H' Fs' T, Sat (Γ s') σ H' Fs' → (A a).h vs H' T → Apart T (Γ s') Fs' → Step (Own (Γ s) Fs) H (un T (Own (Γ s') Fs')) H' → LS (Γ s) Fs (Γ s') Fs' → Q vs H') → TAof X es σ H Q)
end

section
variable {α β γ ρ κ S : Type} {X : Cx} {Γ : Cxt} {e : Expr} {es : List Expr} {p : Option α} {q : Option β} {A : α → Ass} {B : β → AssL}
theorem AssL.same {L : AssL} {vs : List V} {H H' : Hp} {F : Fp} (x : L.h vs H F) (s : Same H H') : L.h vs H' F := L.stb x (Same.keep s F)
theorem AssL.out {L : AssL} {vs : List V} {H : Hp} {F : Fp} {a : Addr} (x : L.h vs H F) (n : H a = none) : ¬ F a := fun f => by
  obtain ⟨o, e⟩ := mut_some (L.trk x f)
  rw [n] at e; cases e
theorem AssL.step {L : AssL} {vs : List V} {H H' : Hp} {F O O' : Fp} (x : L.h vs H F) (s : Step O H O' H') (tr : ∀ a, O a → Mut (H a)) (d : ∀ a, F a → ¬ O a) : L.h vs H' F := by
  refine L.stb x fun a o e c => s.1 a o e fun q => ?_
  rcases c with c | c
  · exact d a c q
  · have := tr a q
    rw [e] at this
    exact c this
theorem ag_nil : Ag X Γ [] (some ()) nilLu := .mk fun σ H Fs s a e Q q => by
  cases e
  exact TAof.of pa_nil (q [] H no (Same.refl H) ⟨rfl, rfl⟩ fun _ z => z.elim)
theorem ag_cons (h : Al X Γ e p A) (g : Ag X Γ es q B) (hs : starEach (e :: es) X.env = (false, eval e X.env) :: starEach es X.env := by rfl) :
    Ag X Γ (e :: es) (p.bind fun x => q.bind fun y => some (x, y)) (fun z => consA (A z.1) (B z.2)) := .mk fun σ H Fs s a ea Q k => by
  obtain ⟨x, e1, e0⟩ := Option.bind_eq_some_iff.mp ea
  obtain ⟨y, e2, e3⟩ := Option.bind_eq_some_iff.mp e0
  cases e3
  refine TAof.of (pa_cons (pe_of X e) (pa_of X es) hs) ?_
  refine h σ H Fs s x e1 _ fun v H1 F s1 h1 c1 => ?_
  refine g σ H1 Fs (s.same s1) y e2 _ fun vs H2 G s2 h2 c2 => k (v :: vs) H2 (un F G) (s1.trans s2) ⟨v, vs, F, G, rfl, Ass.same h1 s2, h2, rfl⟩ fun z f => ?_
  rcases f with f | f
  · exact c1 z f
  · exact (c2 z f).imp id fun n => s1.free n
theorem ah_nil : Ah X Γ [] (some ()) nilLu := .mk fun σ H Fs s a e Q q => by
  cases e
  exact TAof.of pa_nil (q [] H no (Same.refl H) ⟨rfl, rfl⟩ fun _ z => z.elim)
theorem ah_cons (h : Pu X Γ e p A) (g : Ah X Γ es q B) (hs : starEach (e :: es) X.env = (false, eval e X.env) :: starEach es X.env := by rfl) :
    Ah X Γ (e :: es) (p.bind fun x => q.bind fun y => some (x, y)) (fun z => consL (A z.1) (B z.2)) := .mk fun σ H Fs s a ea Q k => by
  obtain ⟨x, e1, e0⟩ := Option.bind_eq_some_iff.mp ea
  obtain ⟨y, e2, e3⟩ := Option.bind_eq_some_iff.mp e0
  cases e3
  refine TAof.of (pa_cons (pe_of X e) (pa_of X es) hs) ?_
  refine h σ H Fs s x e1 _ fun v H1 F s1 h1 c1 => ?_
  refine g σ H1 Fs (s.same s1) y e2 _ fun vs H2 G s2 h2 c2 => k (v :: vs) H2 (un F G) (s1.trans s2) ⟨v, vs, F, G, rfl, Ass.same h1 s2, h2, fun z f g => (Ass.out h1 (c2 z g)) f, rfl⟩ fun z f => ?_
  rcases f with f | f
  · exact c1 z f
  · exact s1.free (c2 z f)
theorem ae_nil {Γ : S → Cxt} {s : S} : Ae X Γ s [] (some ((), s)) nilLu := .mk fun σ H Fs t a s' e Q q => by
  cases e
  exact TAof.of pa_nil (q [] H Fs no t ⟨rfl, rfl⟩ ⟨fun _ z => z.elim, fun _ _ _ _ z => z.elim⟩ ⟨fun _ _ e _ => e, fun a z => z.elim False.elim .inl⟩ (LS.refl _ _))
/-- behind a step, a value that was apart still is -/
theorem Apart.step {T : Fp} {Γ Δ : Cxt} {Fs Gs : Nat → Fp} {H H' : Hp} {U : Fp} {σ : L2.St} {A : Ass} {v : V} (h : A.h v H T) (a : Apart T Γ Fs) (t : Step (Own Γ Fs) H (un U (Own Δ Gs)) H') (z : Sat Δ σ H' Gs) (dl : ∀ j B, Δ[j]? = some (.lnt B) → ∀ x, T x → ¬ Gs j x) : Apart T Δ Gs ∧ ∀ x, T x → ¬ U x := by
  have key : ∀ x, T x → ¬ un U (Own Δ Gs) x := fun x f g => by
    rcases t.2 x g with o | n
    · exact a.1 x f o
    · exact Ass.out h n f
  exact ⟨⟨fun x f o => key x f (.inr o), dl⟩, fun x f u => key x f (.inl u)⟩
end

/-! ### what a def promises -/
section
variable {α β γ ρ κ S : Type}
def argsL (l : List Ass) : AssL := l.foldr consA nilL
/-- pure: nothing that stood is changed -/
def FSpec (As : α → List Ass) (m : α → Option ρ) (R : ρ → Ass) : Sp := fun vs H Q _ => ∃ a F r, (argsL (As a)).h vs H F ∧ m a = some r ∧ ∀ v H' T, Same H H' → (R r).h v H' T → (∀ x, T x → H x = none) → Q v H'
/-- the first argument may be changed -/
def MSpec (C : κ → Ass) (As : α → List Ass) (m : κ → α → Option (ρ × κ)) (R : ρ → Ass) : Sp := fun vs H Q _ => ∃ v0 vr c a F G r c', vs = v0 :: vr ∧ (C c).h v0 H F ∧ (argsL (As a)).h vr H G ∧ (∀ x, F x → ¬ G x) ∧ m c a = some (r, c') ∧
  ∀ v H' F' T, (C c').h v0 H' F' → (R r).h v H' T → (∀ x, T x → ¬ F' x) → Step F H (un T F') H' → Q v H'
theorem argsL_len : ∀ {l : List Ass} {vs : List V} {H : Hp} {F : Fp}, (argsL l).h vs H F → vs.length = l.length
  | [], vs, _, _, h => by rw [show vs = [] from h.1]; rfl
  | A :: l, vs, _, _, ⟨v, r, F1, F2, e, _, h, _⟩ => by rw [e]; simp [argsL_len (l := l) h]
/-- a def of the text, as it is called -/
structure Fo (P : Program) (w : World) (K : PySem.W.Frag) (mg : Str → Option Value) (base : Heap) (k : Nat) (nm : Str) (ps : List Str) (sp : Sp) : Prop where
  ex : ∃ (f : Addr) (fd : FuncData), FnOk P w K mg base CX0 k f fd ps sp ∧ mg nm = some (.ref f) ∧ PySem.W.keepIn K (.ref f) = true ∧ Binds K fd ps [] ∧ ∃ (oc : Value) (od : Option Addr) (osl : Array (Option Value)), K.lookup f = some ⟨oc, od, .func fd, osl⟩
theorem Fo.mono {P : Program} {w : World} {K : PySem.W.Frag} {mg : Str → Option Value} {base : Heap} {j k : Nat} {nm : Str} {n : List Str} {sp : Sp} (F : Fo P w K mg base j nm n sp) (h : j ≤ k) : Fo P w K mg base k nm n sp := by
  obtain ⟨f, fd, a, b, c, d, e⟩ := F
  exact ⟨f, fd, a.mono h, b, c, d, e⟩
end

section
variable {α β γ ρ κ S : Type} {X : Cx} {Γ : Cxt} {e : Expr} {es : List Expr} {k : Nat} {n : List Str} {x : Str} {pp pos : Pos}
/-- a call of a pure def -/
theorem pu_call {As : α → List Ass} {m : α → Option ρ} {R : ρ → Ass} {A : β → AssL} {q : Option β} (F : Fo X.prog X.w X.K X.mg X.base k x n (FSpec As m R)) (hr : Room k X.A) (ha : Ag X Γ (e :: es) q A) (t : β → α) (ht : ∀ b, A b = argsL (As (t b)) := by intro _; rfl)
    (hg : Gl X x := by rfl) (hdb : (x == ("__debug__" : Str)) = false := by decide) (he : starEach (e :: es) X.env = (false, eval e X.env) :: starEach es X.env := by rfl) (hpl : (backTo pos (starEach es X.env)).any (·.1) = false := by rfl) :
    Pu X Γ (.Call (.Name x pp) (e :: es) [] pos) (q.bind fun b => m (t b)) R := .mk fun σ H Fs s r er Q g => by
  obtain ⟨f, fd, hF, hm, hk, hb, _⟩ := F
  obtain ⟨b, e1, e2⟩ := Option.bind_eq_some_iff.mp er
  refine TEof.of (pe_call hF hr hg hm hk hb .nil pass0 (pa_of X (e :: es)) hdb he hpl) ?_
  refine ha σ H Fs s b e1 _ fun vs H1 F s1 h1 c1 => ?_
  rw [ht] at h1
  refine ⟨t b, F, r, by simpa using h1, e2, fun v H' T s2 h2 fr => g v H' T (s1.trans s2) h2 fun x f => s1.free (fr x f)⟩
/-- a call of a pure def with arguments that have effects -/
theorem ef_call {Γ : S → Cxt} {s0 : S} {As : α → List Ass} {m : α → Option ρ} {R : ρ → Ass} {A : β → AssL} {q : Option (β × S)} (F : Fo X.prog X.w X.K X.mg X.base k x n (FSpec As m R)) (hr : Room k X.A) (ha : Ae X Γ s0 (e :: es) q A) (t : β → α) (ht : ∀ b vs H F, (A b).h vs H F → (argsL (As (t b))).h vs H F)
    (hg : Gl X x := by rfl) (hdb : (x == ("__debug__" : Str)) = false := by decide) (he : starEach (e :: es) X.env = (false, eval e X.env) :: starEach es X.env := by rfl) (hpl : (backTo pos (starEach es X.env)).any (·.1) = false := by rfl) :
    Ef X Γ s0 (.Call (.Name x pp) (e :: es) [] pos) (q.bind fun b => (m (t b.1)).bind fun r => some (r, b.2)) R := .mk fun σ H Fs s r s' er Q g => by
  obtain ⟨f, fd, hF, hm, hk, hb, _⟩ := F
  obtain ⟨⟨b, s1⟩, e1, e0⟩ := Option.bind_eq_some_iff.mp er
  obtain ⟨r', e2, e3⟩ := Option.bind_eq_some_iff.mp e0
  cases e3
  refine TEof.of (pe_call hF hr hg hm hk hb .nil pass0 (pa_of X (e :: es)) hdb he hpl) ?_
  refine ha σ H Fs s b _ e1 _ fun vs H1 Fs1 T s1 h1 d1 t1 l1 => ?_
  refine ⟨t b, T, r, by simpa using ht b _ _ _ h1, e2, fun v H' U s2 h2 fr => g v H' Fs1 U (s1.same s2) h2 (s1.apart fr) ⟨fun a o ea n => s2 a o (t1.1 a o ea n), fun a u => ?_⟩ l1⟩
  rcases u with u | u
  · by_cases w : Own (Γ s0) Fs a
    · exact .inl w
    · cases ea : H a with
      | none => exact .inr rfl
      | some o =>
        have := t1.1 a o ea w
        rw [fr a u] at this; cases this
  · exact t1.2 a (.inr u)
/-- a slot that is changed in place; the own objects of a temporary G may go into it -/
theorem Sat.chgG {σ : L2.St} {H H' : Hp} {Fs : Nat → Fp} {i : Nat} {p : Option V} {A B : Ass} {F' G : Fp} (s : Sat Γ σ H Fs) (e : Γ[i]? = some (.own p A)) {v : V} (ev : σ[i]? = some (some v)) (h : B.h v H' F') (hG : Apart G Γ Fs) (tG : ∀ a, G a → Mut (H a)) (t : Step (un (Fs i) G) H F' H') :
    Sat (Γ.set i (.own p B)) σ H' (setF Fs i F') ∧ Step (un G (Own Γ Fs)) H (Own (Γ.set i (.own p B)) (setF Fs i F')) H' := by
  have hi : i < Γ.length := (List.getElem?_eq_some_iff.mp e).1
  obtain ⟨v0, ev0, h0, hp⟩ := s.own i p A e
  rw [ev] at ev0; cases ev0
  have tr : ∀ a, un (Fs i) G a → Mut (H a) := fun a f => f.elim (A.trk h0) (tG a)
  have apart : ∀ j sl, j ≠ i → Γ[j]? = some sl → ((∃ q C, sl = .own q C) ∨ ∃ C, sl = .lnt C) → ∀ a, Fs j a → ¬ un (Fs i) G a := fun j sl hj ej c a g f => by
    rcases f with k | k
    · rcases c with ⟨q, C, rfl⟩ | ⟨C, rfl⟩
      · exact s.dj i j p A (Ne.symm hj) e (.inl ⟨q, C, ej⟩) a k g
      · exact s.dj i j p A (Ne.symm hj) e (.inr ⟨C, ej⟩) a k g
    · rcases c with ⟨q, C, rfl⟩ | ⟨C, rfl⟩
      · exact hG.1 a k ⟨j, q, C, ej, g⟩
      · exact hG.2 j C ej a k g
  have others : ∀ j sl, j ≠ i → Γ[j]? = some sl → ((∃ q C, sl = .own q C) ∨ ∃ C, sl = .lnt C) → ∀ a, F' a → ¬ Fs j a := fun j sl hj ej c a f g => by
    have tg : Mut (H a) := by
      rcases c with ⟨q, C, rfl⟩ | ⟨C, rfl⟩
      · exact s.trk ⟨j, q, C, ej, g⟩
      · exact s.lntTrk ej g
    rcases t.2 a f with k | k
    · exact apart j sl hj ej c a g k
    · rw [k] at tg; exact tg
  refine ⟨⟨by simp [s.len], fun j q C ej => ?_, fun j C ej => ?_, fun j l q C n ej c a f => ?_⟩, ⟨fun a o ea n => t.1 a o ea fun f => n ?_, fun a o => ?_⟩⟩
  · by_cases hj : j = i
    · subst hj
      rw [List.getElem?_set_self hi] at ej
      cases ej
      exact ⟨v, ev, by rw [setF_at]; exact h, hp⟩
    · rw [List.getElem?_set_ne (Ne.symm hj)] at ej
      obtain ⟨u, a, b, c⟩ := s.own j q C ej
      refine ⟨u, a, ?_, c⟩
      rw [setF_ne hj]
      exact Ass.step b t tr fun x f g => apart j _ hj ej (.inl ⟨q, C, rfl⟩) x f g
  · by_cases hj : j = i
    · subst hj
      rw [List.getElem?_set_self hi] at ej
      cases ej
    · rw [List.getElem?_set_ne (Ne.symm hj)] at ej
      obtain ⟨u, a, b⟩ := s.lnt j C ej
      refine ⟨u, a, ?_⟩
      rw [setF_ne hj]
      exact Ass.step b t tr fun x f g => apart j _ hj ej (.inr ⟨C, rfl⟩) x f g
  · by_cases hj : j = i
    · subst hj
      rw [setF_at] at f
      have hl : l ≠ j := Ne.symm n
      rw [setF_ne hl]
      rw [List.getElem?_set_ne (Ne.symm hl)] at c
      rcases c with ⟨q', D, c⟩ | ⟨D, c⟩
      · exact others l _ hl c (.inl ⟨q', D, rfl⟩) a f
      · exact others l _ hl c (.inr ⟨D, rfl⟩) a f
    · rw [setF_ne hj] at f
      rw [List.getElem?_set_ne (Ne.symm hj)] at ej
      by_cases hl : l = i
      · subst hl
        rw [setF_at]
        exact fun g => others j _ hj ej (.inl ⟨q, C, rfl⟩) a g f
      · rw [setF_ne hl]
        rw [List.getElem?_set_ne (Ne.symm hl)] at c
        exact s.dj j l q C n ej c a f
  · rcases f with f | f
    · exact .inr ⟨i, p, A, e, f⟩
    · exact .inl f
  · obtain ⟨j, q, C, ej, f⟩ := o
    by_cases hj : j = i
    · subst hj
      rw [setF_at] at f
      rcases t.2 a f with (k | k) | k
      · exact .inl (.inr ⟨j, p, A, e, k⟩)
      · exact .inl (.inl k)
      · exact .inr k
    · rw [setF_ne hj] at f
      rw [List.getElem?_set_ne (Ne.symm hj)] at ej
      exact .inl (.inr ⟨j, q, C, ej, f⟩)
theorem Apart.no {Γ : Cxt} {Fs : Nat → Fp} : Apart no Γ Fs := ⟨fun _ z => z.elim, fun _ _ _ _ z => z.elim⟩
theorem Sat.chg {σ : L2.St} {H H' : Hp} {Fs : Nat → Fp} {i : Nat} {p : Option V} {A B : Ass} {F' : Fp} (s : Sat Γ σ H Fs) (e : Γ[i]? = some (.own p A)) {v : V} (ev : σ[i]? = some (some v)) (h : B.h v H' F') (t : Step (Fs i) H F' H') :
    Sat (Γ.set i (.own p B)) σ H' (setF Fs i F') ∧ Step (Own Γ Fs) H (Own (Γ.set i (.own p B)) (setF Fs i F')) H' := by
  have := s.chgG e ev h Apart.no (fun _ z => z.elim) (show Step (un (Fs i) no) H F' H' by rw [un_no]; exact t)
  rw [no_un] at this
  exact this
end
end Rf
/-! Rf3: calls and methods that change a slot; returns; branches; bodies of defs. Own work. -/
namespace Rf
open PySem PySem.Spec L2

theorem ent_dead : ∀ (Γ : Cxt) (i : Nat), Ent Γ (Γ.set i .dead)
  | [], _ => .nil
  | _ :: Γ, 0 => .dead (Ent.refl Γ)
  | _ :: Γ, i + 1 => .same (ent_dead Γ i)
theorem ent_deads : ∀ (Γ : Cxt) (n : Nat), Γ.length = n → Ent Γ (List.replicate n .dead)
  | [], 0, _ => .nil
  | _ :: Γ, n + 1, h => .dead (ent_deads Γ n (by simpa using h))
  | [], _ + 1, h => by simp at h
  | _ :: _, 0, h => by simp at h

section
variable {α β γ ρ κ S : Type} {X : Cx} {e : Expr} {es : List Expr} {k : Nat} {n : List Str} {x nm : Str} {pp pos p0 : Pos}
/-- a slot i of a family of contexts, its value read and put back -/
structure Lens (Γ : S → Cxt) (i : Nat) (C : κ → Ass) (get : S → κ) (put : S → κ → S) : Prop where
  at_ : ∀ s, ∃ p, (Γ s)[i]? = some (.own p (C (get s))) ∧ ∀ c, Γ (put s c) = (Γ s).set i (.own p (C c))
/-- what a change of slot i leaves -/
theorem Lens.chg {Γ : S → Cxt} {i : Nat} {C : κ → Ass} {get : S → κ} {put : S → κ → S} (l : Lens Γ i C get put) {s : S} {σ : L2.St} {H H' : Hp} {Fs : Nat → Fp} (t : Sat (Γ s) σ H Fs) {v : V} (ev : σ[i]? = some (some v)) {c' : κ} {F' T G : Fp} {R : Ass} {w : V}
    (h : (C c').h v H' F') (hr : R.h w H' T) (d : ∀ a, T a → ¬ F' a) (hG : Apart G (Γ s) Fs) (tG : ∀ a, G a → Mut (H a)) (st : Step (un (Fs i) G) H (un T F') H') :
    ∃ Fs', Sat (Γ (put s c')) σ H' Fs' ∧ Apart T (Γ (put s c')) Fs' ∧ Step (un G (Own (Γ s) Fs)) H (un T (Own (Γ (put s c')) Fs')) H' ∧ LS (Γ s) Fs (Γ (put s c')) Fs' := by
  obtain ⟨p, e, ep⟩ := l.at_ s
  obtain ⟨a, b⟩ := t.chgG e ev h hG tG (st.sub fun x f => .inr f)
  rw [← ep c'] at a b
  refine ⟨setF Fs i F', a, ?_, ⟨b.1, fun x f => f.elim (fun f => ?_) (b.2 x)⟩, fun j B ej => ?_⟩
  · have key : ∀ j sl, j ≠ i → (Γ s)[j]? = some sl → ((∃ q C, sl = .own q C) ∨ ∃ C, sl = .lnt C) → ∀ a, T a → ¬ Fs j a := fun j sl hj ej c a f g => by
      rcases st.2 a (.inl f) with (k | k) | k
      · rcases c with ⟨q, D, rfl⟩ | ⟨D, rfl⟩
        · exact t.dj i j p _ (Ne.symm hj) e (.inl ⟨q, D, ej⟩) a k g
        · exact t.dj i j p _ (Ne.symm hj) e (.inr ⟨D, ej⟩) a k g
      · rcases c with ⟨q, D, rfl⟩ | ⟨D, rfl⟩
        · exact hG.1 a k ⟨j, q, D, ej, g⟩
        · exact hG.2 j D ej a k g
      · rcases c with ⟨q, D, rfl⟩ | ⟨D, rfl⟩
        · have := t.trk ⟨j, q, D, ej, g⟩
          rw [k] at this; exact this
        · have := t.lntTrk ej g
          rw [k] at this; exact this
    refine ⟨fun y f ⟨j, q, D, ej, g⟩ => ?_, fun j D ej y f g => ?_⟩
    · by_cases hj : j = i
      · subst hj
        rw [setF_at] at g
        exact d y f g
      · rw [setF_ne hj] at g
        rw [ep c', List.getElem?_set_ne (Ne.symm hj)] at ej
        exact key j _ hj ej (.inl ⟨q, D, rfl⟩) y f g
    · by_cases hj : j = i
      · subst hj
        rw [ep c', List.getElem?_set_self (List.getElem?_eq_some_iff.mp e).1] at ej
        cases ej
      · rw [setF_ne hj] at g
        rw [ep c', List.getElem?_set_ne (Ne.symm hj)] at ej
        exact key j _ hj ej (.inr ⟨D, rfl⟩) y f g
  · rcases st.2 x (.inl f) with (k | k) | k
    · exact .inl (.inr ⟨i, p, _, e, k⟩)
    · exact .inl (.inl k)
    · exact .inr k
  · have hj : j ≠ i := fun z => by
      subst z
      rw [ep c', List.getElem?_set_self (List.getElem?_eq_some_iff.mp e).1] at ej
      cases ej
    rw [ep c', List.getElem?_set_ne (Ne.symm hj)] at ej
    exact ⟨⟨B, ej⟩, setF_ne hj⟩
theorem Step.pre {O O' : Fp} {H H1 H' : Hp} (s : Same H H1) (t : Step O H1 O' H') : Step O H O' H' := ⟨fun a o e n => t.1 a o (s a o e) n, fun a f => (t.2 a f).imp id fun n => s.free n⟩

/-- f(x, ..): x is slot i and may be changed; the other arguments are pure and don't speak of it -/
theorem ef_callM {Γ : S → Cxt} {s0 : S} {i : Nat} {C : κ → Ass} {get : S → κ} {put : S → κ → S} {As : α → List Ass} {m : κ → α → Option (ρ × κ)} {R : ρ → Ass} {A : β → AssL} {q : Option β} (l : Lens Γ i C get put)
    (F : Fo X.prog X.w X.K X.mg X.base k x n (MSpec C As m R)) (hr : Room k X.A) (ha : Ag X ((Γ s0).set i .dead) es q A) (t : β → α) (ht : ∀ b, A b = argsL (As (t b)) := by intro _; rfl)
    (hN : X.N[i]? = some nm := by rfl) (hv : Vis X.env.scope nm := by exact visOf rfl) (hd : (nm == ("__debug__" : Str)) = false := by decide) (hcd : (nm == ("__classdict__" : Str)) = false := by decide)
    (hg : Gl X x := by rfl) (hdb : (x == ("__debug__" : Str)) = false := by decide) (he : starEach (.Name nm p0 :: es) X.env = (false, eval (.Name nm p0) X.env) :: starEach es X.env := by rfl) (hpl : (backTo pos (starEach es X.env)).any (·.1) = false := by rfl) :
    Ef X Γ s0 (.Call (.Name x pp) (.Name nm p0 :: es) [] pos) (q.bind fun b => (m (get s0) (t b)).bind fun r => some (r.1, put s0 r.2)) R := .mk fun σ H Fs s r s' er Q g => by
  obtain ⟨f, fd, hF, hm, hk, hb, _⟩ := F
  obtain ⟨b, e1, e0⟩ := Option.bind_eq_some_iff.mp er
  obtain ⟨⟨r', c'⟩, e2, e3⟩ := Option.bind_eq_some_iff.mp e0
  cases e3
  obtain ⟨p, ei, ep⟩ := l.at_ s0
  obtain ⟨v0, ev, h0, _⟩ := s.own i p _ ei
  refine TEof.of (pe_call hF hr hg hm hk hb .nil pass0 (pa_cons (pe_var hN hv hd hcd) (pa_of X es) he) hdb he hpl) ?_
  refine ⟨v0, ev, ?_⟩
  refine ha σ H Fs (s.ent (ent_dead _ i)) b e1 _ fun vs H1 F s1 h1 c1 => ?_
  rw [ht] at h1
  have s1' := s.same s1
  refine ⟨v0, vs, get s0, t b, Fs i, F, _, c', by simp, Ass.same h0 s1, h1, fun a f g => ?_, e2, fun v H' F' T hc hv2 d st => ?_⟩
  · rcases c1 a g with ⟨j, ej, gj⟩ | k
    · have hj : j ≠ i := fun z => by
        subst z
        rw [List.getElem?_set_self (List.getElem?_eq_some_iff.mp ei).1] at ej
        rcases ej with ⟨_, _, ej⟩ | ⟨_, ej⟩ <;> cases ej
      rw [List.getElem?_set_ne (Ne.symm hj)] at ej
      exact s.dj i j p _ (Ne.symm hj) ei ej a f gj
    · exact Ass.out h0 k f
  · obtain ⟨Fs', a1, a2, a3, a4⟩ := l.chg s1' ev hc hv2 d Apart.no (fun _ z => z.elim) (by rw [un_no]; exact st)
    rw [no_un] at a3
    exact g v H' Fs' T a1 hv2 a2 (a3.pre s1) a4
/-- .. the other arguments have effects, each own -/
theorem ef_callMe {Γ : S → Cxt} {s0 : S} {i : Nat} {C : κ → Ass} {get : S → κ} {put : S → κ → S} {As : α → List Ass} {m : κ → α → Option (ρ × κ)} {R : ρ → Ass} {A : β → AssL} {q : Option (β × S)} (l : Lens Γ i C get put)
    (F : Fo X.prog X.w X.K X.mg X.base k x n (MSpec C As m R)) (hr : Room k X.A) (ha : Ae X Γ s0 es q A) (t : β → α) (ht : ∀ b vs H F, (A b).h vs H F → (argsL (As (t b))).h vs H F)
    (hN : X.N[i]? = some nm := by rfl) (hv : Vis X.env.scope nm := by exact visOf rfl) (hd : (nm == ("__debug__" : Str)) = false := by decide) (hcd : (nm == ("__classdict__" : Str)) = false := by decide)
    (hg : Gl X x := by rfl) (hdb : (x == ("__debug__" : Str)) = false := by decide) (he : starEach (.Name nm p0 :: es) X.env = (false, eval (.Name nm p0) X.env) :: starEach es X.env := by rfl) (hpl : (backTo pos (starEach es X.env)).any (·.1) = false := by rfl) :
    Ef X Γ s0 (.Call (.Name x pp) (.Name nm p0 :: es) [] pos) (q.bind fun b => (m (get b.2) (t b.1)).bind fun r => some (r.1, put b.2 r.2)) R := .mk fun σ H Fs s r s' er Q g => by
  obtain ⟨f, fd, hF, hm, hk, hb, _⟩ := F
  obtain ⟨⟨b, s2⟩, e1, e0⟩ := Option.bind_eq_some_iff.mp er
  obtain ⟨⟨r', c'⟩, e2, e3⟩ := Option.bind_eq_some_iff.mp e0
  cases e3
  obtain ⟨p, ei, ep⟩ := l.at_ s0
  obtain ⟨v0, ev, h0, _⟩ := s.own i p _ ei
  refine TEof.of (pe_call hF hr hg hm hk hb .nil pass0 (pa_cons (pe_var hN hv hd hcd) (pa_of X es) he) hdb he hpl) ?_
  refine ⟨v0, ev, ?_⟩
  refine ha σ H Fs s b s2 e1 _ fun vs H1 Fs1 T1 s1 h1 ap st1 l1 => ?_
  obtain ⟨p', ei', ep'⟩ := l.at_ s2
  obtain ⟨v0', ev', h0', _⟩ := s1.own i p' _ ei'
  rw [ev] at ev'; cases ev'
  have h1' := ht b _ _ _ h1
  refine ⟨v0, vs, get s2, t b, Fs1 i, T1, _, c', by simp, h0', h1', fun a f g => ap.1 a g ⟨i, p', _, ei', f⟩, e2, fun v H' F' T hc hv2 d st => ?_⟩
  obtain ⟨Fs', a1, a2, a3, a4⟩ := l.chg s1 ev hc hv2 d Apart.no (fun _ z => z.elim) (by rw [un_no]; exact st)
  rw [no_un] at a3
  exact g v H' Fs' T a1 hv2 a2 (Step.trans st1 (a3.sub0 fun x f => .inr f)) (l1.trans a4)

/-! ### methods of a slot's object -/
/-- a method, by its values: c is changed, the arguments may go into it -/
def MOp (r : V → List V → Hp → VK → Prop) (C : κ → Ass) (A : α → AssL) (R : ρ → Ass) (f : κ → α → Option (ρ × κ)) : Prop :=
  ∀ {c a v vs H F G z c'}, (C c).h v H F → (A a).h vs H G → (∀ x, F x → ¬ G x) → f c a = some (z, c') → ∀ Q : VK, (∀ w H' F' T, (C c').h v H' F' → (R z).h w H' T → (∀ x, T x → ¬ F' x) → Step (un F G) H (un T F') H' → Q w H') → r v vs H Q
def TyOk (T : String) (C : κ → Ass) : Prop := ∀ {K c v H F}, (C c).h v H F → tyV K T v H
theorem ef_meth {Γ : S → Cxt} {s0 : S} {i : Nat} {C : κ → Ass} {get : S → κ} {put : S → κ → S} {T id : String} {name : Str} {r : V → List V → Hp → VK → Prop} {A : α → AssL} {R : ρ → Ass} {f : κ → α → Option (ρ × κ)} {q : Option (α × S)} {apos : Pos} (l : Lens Γ i C get put)
    (pa : PlainAttrs T) (slot : Slot T name id) (hty : typeOf (.builtin id) = pure (.type "method_descriptor")) (hm : MtR X id r) (o : MOp r C A R f) (ty : TyOk T C) (ha : Ae X Γ s0 (e :: es) q A)
    (hN : X.N[i]? = some nm := by rfl) (hv : Vis X.env.scope nm := by exact visOf rfl) (hd : (nm == ("__debug__" : Str)) = false := by decide) (hcd : (nm == ("__classdict__" : Str)) = false := by decide)
    (hb : attributeBase (.Name nm p0) name X.env (eval (.Name nm p0) X.env) = eval (.Name nm p0) X.env := by rfl) (hline : (apos.endLine == pos.line) = true := by rfl)
    (hfew : ((backTo pos (starEach (e :: es) X.env)).all (fun x => !x.1) && (backToKw pos (keywordEach [] X.env)).all (fun x => x.1.isSome)
      && decide ((e :: es).length + ([] : List Keyword).length + (if ([] : List Keyword).isEmpty then 0 else 1) < 30)) = true := by rfl)
    (he : starEach (e :: es) X.env = (false, eval e X.env) :: starEach es X.env := by rfl) (hpl : (backTo pos (starEach es X.env)).any (·.1) = false := by rfl) :
    Ef X Γ s0 (.Call (.Attribute (.Name nm p0) name apos) (e :: es) [] pos) (q.bind fun b => (f (get b.2) b.1).bind fun z => some (z.1, put b.2 z.2)) R := .mk fun σ H Fs s r s' er Q g => by
  obtain ⟨⟨b, s2⟩, e1, e0⟩ := Option.bind_eq_some_iff.mp er
  obtain ⟨⟨r', c'⟩, e2, e3⟩ := Option.bind_eq_some_iff.mp e0
  cases e3
  obtain ⟨p, ei, ep⟩ := l.at_ s0
  obtain ⟨v0, ev, h0, _⟩ := s.own i p _ ei
  refine TEof.of (pe_bm pa slot hty hm (pe_var hN hv hd hcd) (pa_of X (e :: es)) hb hfew hline he hpl) ?_
  refine ⟨v0, ev, ty h0, ?_⟩
  refine ha σ H Fs s b s2 e1 _ fun vs H1 Fs1 T1 s1 h1 ap st1 l1 => ?_
  obtain ⟨p', ei', ep'⟩ := l.at_ s2
  obtain ⟨v0', ev', h0', _⟩ := s1.own i p' _ ei'
  rw [ev] at ev'; cases ev'
  refine o h0' h1 (fun a f g => ap.1 a g ⟨i, p', _, ei', f⟩) e2 Q fun w H' F' T hc hv2 d st => ?_
  obtain ⟨Fs', a1, a2, a3, a4⟩ := l.chg s1 ev hc hv2 d ap (fun _ => (A b).trk h1) st
  exact g w H' Fs' T a1 hv2 a2 (Step.trans st1 a3) (l1.trans a4)
/-- .. without arguments -/
theorem ef_meth0 {Γ : S → Cxt} {s0 : S} {i : Nat} {C : κ → Ass} {get : S → κ} {put : S → κ → S} {T id : String} {name : Str} {r : V → List V → Hp → VK → Prop} {R : ρ → Ass} {f : κ → Unit → Option (ρ × κ)} {apos : Pos} (l : Lens Γ i C get put)
    (pa : PlainAttrs T) (slot : Slot T name id) (hty : typeOf (.builtin id) = pure (.type "method_descriptor")) (hm : MtR X id r) (o : MOp r C nilLu R f) (ty : TyOk T C)
    (hN : X.N[i]? = some nm := by rfl) (hv : Vis X.env.scope nm := by exact visOf rfl) (hd : (nm == ("__debug__" : Str)) = false := by decide) (hcd : (nm == ("__classdict__" : Str)) = false := by decide)
    (hb : attributeBase (.Name nm p0) name X.env (eval (.Name nm p0) X.env) = eval (.Name nm p0) X.env := by rfl) (hline : (apos.endLine == pos.line) = true := by rfl) :
    Ef X Γ s0 (.Call (.Attribute (.Name nm p0) name apos) [] [] pos) ((f (get s0) ()).bind fun z => some (z.1, put s0 z.2)) R := .mk fun σ H Fs s r s' er Q g => by
  obtain ⟨⟨r', c'⟩, e2, e3⟩ := Option.bind_eq_some_iff.mp er
  cases e3
  obtain ⟨p, ei, ep⟩ := l.at_ s0
  obtain ⟨v0, ev, h0, _⟩ := s.own i p _ ei
  refine TEof.of (pe_bm0 pa slot hty hm (pe_var hN hv hd hcd) hb hline) ?_
  refine ⟨v0, ev, ty h0, ?_⟩
  refine o (a := ()) (G := no) h0 ⟨rfl, rfl⟩ (fun _ _ z => z.elim) e2 Q fun w H' F' T hc hv2 d st => ?_
  rw [un_no] at st
  obtain ⟨Fs', a1, a2, a3, a4⟩ := l.chg s ev hc hv2 d Apart.no (fun _ z => z.elim) (by rw [un_no]; exact st)
  rw [no_un] at a3
  exact g w H' Fs' T a1 hv2 a2 a3 a4

/-! ### arguments with effects -/
theorem ae_pu {Γ : S → Cxt} {s0 : S} {q : Option α} {A : α → AssL} (h : Ah X (Γ s0) es q A) : Ae X Γ s0 es (q.bind fun a => some (a, s0)) A := .mk fun σ H Fs s a s' ea Q g => by
  obtain ⟨b, e1, e0⟩ := Option.bind_eq_some_iff.mp ea
  cases e0
  exact h σ H Fs s _ e1 Q fun vs H' F sm x fr => g vs H' Fs F (s.same sm) x (s.apart fr) (Step.same sm fun y f => f.elim (fun f => .inr (fr y f)) .inl) (LS.refl _ _)
theorem ae_cons {Γ : S → Cxt} {s0 : S} {m : Option (α × S)} {A : α → Ass} {k : α → S → Option (β × S)} {B : β → AssL} (h : Ef X Γ s0 e m A) (g : ∀ a s, Ae X Γ s es (k a s) B) (hs : starEach (e :: es) X.env = (false, eval e X.env) :: starEach es X.env := by rfl) :
    Ae X Γ s0 (e :: es) (m.bind fun a => (k a.1 a.2).bind fun b => some ((a.1, b.1), b.2)) (fun z => consL (A z.1) (B z.2)) := .mk fun σ H Fs s z s' ez Q q => by
  obtain ⟨⟨a, s1⟩, e1, e0⟩ := Option.bind_eq_some_iff.mp ez
  obtain ⟨⟨b, s2⟩, e2, e3⟩ := Option.bind_eq_some_iff.mp e0
  cases e3
  refine TAof.of (pa_cons (pe_of X e) (pa_of X es) hs) ?_
  refine h σ H Fs s a s1 e1 _ fun v H1 Fs1 T1 t1 h1 ap1 st1 l1 => ?_
  refine g a s1 σ H1 Fs1 t1 b _ e2 _ fun vs H2 Fs2 T2 t2 h2 ap2 st2 l2 => ?_
  have key : ∀ x, T1 x → ¬ un T2 (Own (Γ s2) Fs2) x := fun x f o => by
    rcases st2.2 x o with o | n
    · exact ap1.1 x f o
    · exact Ass.out h1 n f
  have keyl : ∀ j D, (Γ s2)[j]? = some (.lnt D) → ∀ x, T1 x → ¬ Fs2 j x := fun j D ej x f o => by
    obtain ⟨⟨C, c⟩, r⟩ := l2 j D ej
    rw [r] at o
    exact ap1.2 j C c x f o
  refine q (v :: vs) H2 Fs2 (un T1 T2) t2 ⟨v, vs, T1, T2, rfl, Ass.step h1 st2 (fun _ => t1.trk) ap1.1, h2, fun x f o => key x f (.inl o), rfl⟩ ⟨fun x f o => ?_, fun j D ej x f o => ?_⟩ ?_ (l1.trans l2)
  · exact f.elim (fun f => key x f (.inr o)) fun f => ap2.1 x f o
  · exact f.elim (fun f => keyl j D ej x f o) fun f => ap2.2 j D ej x f o
  · refine ⟨fun x o ex n => st2.1 x o (st1.1 x o ex n) fun f => ?_, fun x f => ?_⟩
    · rcases st1.2 x (.inr f) with r | r
      · exact n r
      · rw [ex] at r; cases r
    · rcases f with (f | f) | f
      · exact st1.2 x (.inl f)
      · rcases st2.2 x (.inl f) with r | r
        · exact st1.2 x (.inr r)
        · by_cases w : Own (Γ s0) Fs x
          · exact .inl w
          · cases ex : H x with
            | none => exact .inr rfl
            | some o => rw [st1.1 x o ex w] at r; cases r
      · rcases st2.2 x (.inr f) with r | r
        · exact st1.2 x (.inr r)
        · by_cases w : Own (Γ s0) Fs x
          · exact .inl w
          · cases ex : H x with
            | none => exact .inr rfl
            | some o => rw [st1.1 x o ex w] at r; cases r
end
end Rf
/-! Rf4: statements: expressions, returns, branches, loops; bodies of defs. Own work. -/
namespace Rf
open PySem PySem.Spec L2

section
variable {α β γ δ ρ κ S : Type} {X : Cx} {Γ : Cxt} {e c : Expr} {a b : List Stmt} {pos : Pos} {p : Option α} {A : α → Ass}
/-- an expression as a statement -/
theorem sn_exprE {Γ : S → Cxt} {s0 : S} {m : Option (α × S)} (h : Ef X Γ s0 e m A) (hs : swapsWith e none pos.line X.env = pure false := by rfl) : Sn X (Γ s0) (.Expr e pos) (m.map (·.2)) Γ := .mk fun σ H Fs s z ez D q => by
  obtain ⟨⟨a, s'⟩, e1, e2⟩ := Option.map_eq_some_iff.mp ez
  cases e2
  exact TSof.of (ps_expr (pe_of X e) hs) (h σ H Fs s a s' e1 _ fun v H' Fs' T t _ _ st ls => q σ H' Fs' t (Ef.mv st ls))

/-! ### returns -/
theorem sx_ret {N : β → Cxt} {L : γ → Cxt} {R : Rt ρ} (h : Pu X Γ e p A) (f : α → ρ) (hA : ∀ a, R.A (f a) = A a := by intro _; rfl) (hG : ∀ a, Ent Γ (R.G (f a))) : Sx X Γ (.Return (some e) pos) (p.bind fun a => some (Fl.rt (f a))) N L R := .mk fun σ H Fs s z ez D q => by
  obtain ⟨a, e1, e2⟩ := Option.bind_eq_some_iff.mp ez
  cases e2
  refine TSof.of (ps_ret (pe_of X e)) (h σ H Fs s a e1 _ fun v H' F sm x fr => ?_)
  refine q v σ H' Fs F ((s.same sm).ent (hG a)) (by rw [hA]; exact x) (fun y f o => s.out (fr y f) (o.ent (hG a))) (Step.same sm fun y f => f.elim (fun f => .inr (fr y f)) fun o => .inl (o.ent (hG a)))
theorem sx_retE {Γ : S → Cxt} {s0 : S} {m : Option (α × S)} {N : β → Cxt} {L : γ → Cxt} {R : Rt ρ} (h : Ef X Γ s0 e m A) (f : α → S → ρ) (hA : ∀ a s, R.A (f a s) = A a := by intro _ _; rfl) (hG : ∀ a s, Ent (Γ s) (R.G (f a s))) : Sx X (Γ s0) (.Return (some e) pos) (m.bind fun z => some (Fl.rt (f z.1 z.2))) N L R := .mk fun σ H Fs s z ez D q => by
  obtain ⟨⟨a, s'⟩, e1, e2⟩ := Option.bind_eq_some_iff.mp ez
  cases e2
  refine TSof.of (ps_ret (pe_of X e)) (h σ H Fs s a s' e1 _ fun v H' Fs' T t x ap st ls => ?_)
  refine q v σ H' Fs' T (t.ent (hG a s')) (by rw [hA]; exact x) (fun y f o => ap.1 y f (o.ent (hG a s'))) (st.sub fun y f => f.imp id fun o => o.ent (hG a s'))

/-- a slot's own value is handed back -/
theorem sx_retMv (i : Nat) {x : Str} {pp : Pos} {N : β → Cxt} {L : γ → Cxt} {R : Rt ρ} {pv : Option V} {a0 : α} (r : ρ) (ei : Γ[i]? = some (.own pv (A a0))) (hA : R.A r = A a0 := by rfl) (hG : Ent (Γ.set i .dead) (R.G r))
    (hN : X.N[i]? = some x := by rfl) (hv : Vis X.env.scope x := by exact visOf rfl) (hd : (x == ("__debug__" : Str)) = false := by decide) (hcd : (x == ("__classdict__" : Str)) = false := by decide) :
    Sx X Γ (.Return (some (.Name x pp)) pos) (some (Fl.rt r)) N L R := .mk fun σ H Fs s z ez D q => by
  cases ez
  obtain ⟨v, ev, h, _⟩ := s.own i pv _ ei
  refine TSof.of (ps_ret (pe_var hN hv hd hcd)) ⟨v, ev, ?_⟩
  have s2 := s.ent (ent_dead Γ i)
  refine q v σ H Fs (Fs i) (s2.ent hG) (by rw [hA]; exact h) (fun y f o => ?_) (Step.same (Same.refl H) fun y f => .inl ?_)
  · obtain ⟨j, q', B, ej, g⟩ := o.ent hG
    have hj : j ≠ i := fun z => by
      subst z
      rw [List.getElem?_set_self (List.getElem?_eq_some_iff.mp ei).1] at ej
      cases ej
    rw [List.getElem?_set_ne (Ne.symm hj)] at ej
    exact s.dj i j pv _ (Ne.symm hj) ei (.inl ⟨q', B, ej⟩) y f g
  · rcases f with f | f
    · exact ⟨i, pv, _, ei, f⟩
    · exact (f.ent hG).ent (ent_dead Γ i)

/-! ### branches -/
theorem sn_if {t : Option Bool} {m1 m2 : Option β} {N : β → Cxt} (h : Te X Γ c t) (h1 : Bn X Γ a m1 N) (h2 : Bn X Γ b m2 N) : Sn X Γ (.If c a b pos) (t.bind fun d => if d = true then m1 else m2) N := .mk fun σ H Fs s z ez D q => by
  obtain ⟨d, e1, e2⟩ := Option.bind_eq_some_iff.mp ez
  refine TSof.of (ps_if (pt_of X c) (pss_of X a) (pss_of X b)) ?_
  refine h σ H Fs s d e1 _ fun H1 s1 => ?_
  cases d with
  | true => exact h1 σ H1 Fs (s.same s1) z (by simpa using e2) D fun σ' H' F' t u => q σ' H' F' t ((Mv.same s1).trans u)
  | false => exact h2 σ H1 Fs (s.same s1) z (by simpa using e2) D fun σ' H' F' t u => q σ' H' F' t ((Mv.same s1).trans u)
theorem sx_if {t : Option Bool} {m1 m2 : Option (Fl β γ ρ)} {N : β → Cxt} {L : γ → Cxt} {R : Rt ρ} (h : Te X Γ c t) (h1 : Bx X Γ a m1 N L R) (h2 : Bx X Γ b m2 N L R) : Sx X Γ (.If c a b pos) (t.bind fun d => if d = true then m1 else m2) N L R := .mk fun σ H Fs s z ez D q => by
  obtain ⟨d, e1, e2⟩ := Option.bind_eq_some_iff.mp ez
  refine TSof.of (ps_if (pt_of X c) (pss_of X a) (pss_of X b)) ?_
  refine h σ H Fs s d e1 _ fun H1 s1 => ?_
  cases d with
  | true => exact h1 σ H1 Fs (s.same s1) z (by simpa using e2) D (q.step (Mv.same s1))
  | false => exact h2 σ H1 Fs (s.same s1) z (by simpa using e2) D (q.step (Mv.same s1))
theorem Tf.mv {Γ : S → Cxt} {s0 s' : S} {σ : L2.St} {H H' : Hp} {Fs Fs' : Nat → Fp} (st : Step (Own (Γ s0) Fs) H (Own (Γ s') Fs') H') (ls : LS (Γ s0) Fs (Γ s') Fs') : Mv (Γ s0) Fs σ H (Γ s') Fs' σ H' := ⟨st, fun j B e => ⟨(ls j B e).1, (ls j B e).2, rfl⟩⟩
theorem sn_ifE {Γ : S → Cxt} {s0 : S} {t : Option (Bool × S)} {m1 m2 : S → Option β} {N : β → Cxt} (h : Tf X Γ s0 c t) (h1 : ∀ s, Bn X (Γ s) a (m1 s) N) (h2 : ∀ s, Bn X (Γ s) b (m2 s) N) : Sn X (Γ s0) (.If c a b pos) (t.bind fun d => if d.1 = true then m1 d.2 else m2 d.2) N := .mk fun σ H Fs s z ez D q => by
  obtain ⟨⟨d, s'⟩, e1, e2⟩ := Option.bind_eq_some_iff.mp ez
  refine TSof.of (ps_if (pt_of X c) (pss_of X a) (pss_of X b)) ?_
  refine h σ H Fs s d s' e1 _ fun H1 F1 t1 st ls => ?_
  cases d with
  | true => exact h1 s' σ H1 F1 t1 z (by simpa using e2) D fun σ' H' F' t u => q σ' H' F' t ((Tf.mv st ls).trans u)
  | false => exact h2 s' σ H1 F1 t1 z (by simpa using e2) D fun σ' H' F' t u => q σ' H' F' t ((Tf.mv st ls).trans u)
theorem sx_ifE {Γ : S → Cxt} {s0 : S} {t : Option (Bool × S)} {m1 m2 : S → Option (Fl β γ ρ)} {N : β → Cxt} {L : γ → Cxt} {R : Rt ρ} (h : Tf X Γ s0 c t) (h1 : ∀ s, Bx X (Γ s) a (m1 s) N L R) (h2 : ∀ s, Bx X (Γ s) b (m2 s) N L R) : Sx X (Γ s0) (.If c a b pos) (t.bind fun d => if d.1 = true then m1 d.2 else m2 d.2) N L R := .mk fun σ H Fs s z ez D q => by
  obtain ⟨⟨d, s'⟩, e1, e2⟩ := Option.bind_eq_some_iff.mp ez
  refine TSof.of (ps_if (pt_of X c) (pss_of X a) (pss_of X b)) ?_
  refine h σ H Fs s d s' e1 _ fun H1 F1 t1 st ls => ?_
  cases d with
  | true => exact h1 s' σ H1 F1 t1 z (by simpa using e2) D (q.step (Tf.mv st ls))
  | false => exact h2 s' σ H1 F1 t1 z (by simpa using e2) D (q.step (Tf.mv st ls))

/-! ### while -/
def whileM {G : Type} (t : G → Option Bool) (f : G → Option G) : Nat → G → Option G
  | 0, _ => none
  | n + 1, g => (t g).bind fun b => if b = true then (f g).bind (whileM t f n) else some g
theorem sn_while {G : Type} {Γ : G → Cxt} {g0 : G} {t : G → Option Bool} {f : G → Option G} (n : Nat) (hc : ∀ g, Te X (Γ g) c (t g)) (hb : ∀ g, Bn X (Γ g) a (f g) Γ) (hp : PassesOwn (model X.prog X.w) X.A X.env X.xe := by exact PassesOwn.never) :
    Sn X (Γ g0) (.While c a [] pos) (whileM t f n g0) Γ := .mk fun σ H Fs s z ez D q => by
  refine TSof.of (ps_while hp (pt_of X c) (pss_of X a)) ?_
  refine ⟨fun m σ' H' => ∃ g Fs', Sat (Γ g) σ' H' Fs' ∧ whileM t f m g = some z ∧ Mv (Γ g0) Fs σ H (Γ g) Fs' σ' H', ⟨n, g0, Fs, s, ez, Mv.same (Same.refl H)⟩, ?_⟩
  rintro m σ1 H1 ⟨g, F1, s1, e1, mv⟩
  cases m with
  | zero => cases e1
  | succ m =>
    obtain ⟨b, e2, e3⟩ := Option.bind_eq_some_iff.mp e1
    refine hc g σ1 H1 F1 s1 b e2 _ fun H2 sm => ?_
    cases b with
    | false =>
      simp only [Bool.false_eq_true, if_false] at e3 ⊢
      cases e3
      exact q σ1 H2 F1 (s1.same sm) (mv.trans (Mv.same sm))
    | true =>
      simp only [if_true] at e3 ⊢
      obtain ⟨g', e4, e5⟩ := Option.bind_eq_some_iff.mp e3
      refine ⟨fun σ' H' => ∃ Fs', Sat (Γ g') σ' H' Fs' ∧ Mv (Γ g0) Fs σ H (Γ g') Fs' σ' H', fun σ' H' ⟨Fs', s', mv'⟩ => ⟨m, Nat.lt_succ_self m, g', Fs', s', e5, mv'⟩, ?_⟩
      exact hb g σ1 H2 F1 (s1.same sm) g' e4 _ fun σ' H' Fs' s' mv' => ⟨Fs', s', (mv.trans (Mv.same sm)).trans mv'⟩
def whileX {G γ ρ : Type} (t : G → Option Bool) (f : G → Option (Fl G G ρ)) : Nat → G → Option (Fl G γ ρ)
  | 0, _ => none
  | n + 1, g => (t g).bind fun b => if b = true then (f g).bind fun
      | .nx g' => whileX t f n g'
      | .ct g' => whileX t f n g'
      | .bk g' => some (.nx g')
      | .rt r => some (.rt r)
    else some (.nx g)
theorem sx_while {G : Type} {Γ : G → Cxt} {L : γ → Cxt} {R : Rt ρ} {g0 : G} {t : G → Option Bool} {f : G → Option (Fl G G ρ)} (n : Nat) (hc : ∀ g, Te X (Γ g) c (t g)) (hb : ∀ g, Bx X (Γ g) a (f g) Γ Γ R) (hp : PassesOwn (model X.prog X.w) X.A X.env X.xe := by exact PassesOwn.never) :
    Sx X (Γ g0) (.While c a [] pos) (whileX t f n g0) Γ L R := .mk fun σ H Fs s z ez D q => by
  refine TSof.of (ps_while hp (pt_of X c) (pss_of X a)) ?_
  refine ⟨fun m σ' H' => ∃ g Fs', Sat (Γ g) σ' H' Fs' ∧ whileX t f m g = some z ∧ Mv (Γ g0) Fs σ H (Γ g) Fs' σ' H', ⟨n, g0, Fs, s, ez, Mv.same (Same.refl H)⟩, ?_⟩
  rintro m σ1 H1 ⟨g, F1, s1, e1, mv⟩
  cases m with
  | zero => cases e1
  | succ m =>
    obtain ⟨b, e2, e3⟩ := Option.bind_eq_some_iff.mp e1
    refine hc g σ1 H1 F1 s1 b e2 _ fun H2 sm => ?_
    cases b with
    | false =>
      simp only [Bool.false_eq_true, if_false] at e3 ⊢
      cases e3
      exact q σ1 H2 F1 (s1.same sm) (mv.trans (Mv.same sm))
    | true =>
      simp only [if_true] at e3 ⊢
      obtain ⟨fl, e4, e5⟩ := Option.bind_eq_some_iff.mp e3
      have mv2 := mv.trans (Mv.same sm)
      refine ⟨fun σ' H' => ∃ g' Fs', (fl = .nx g' ∨ fl = .ct g') ∧ Sat (Γ g') σ' H' Fs' ∧ Mv (Γ g0) Fs σ H (Γ g') Fs' σ' H', fun σ' H' ⟨g', Fs', hf, s', mv'⟩ => ⟨m, Nat.lt_succ_self m, g', Fs', s', ?_, mv'⟩, ?_⟩
      · rcases hf with rfl | rfl <;> exact e5
      · refine hb g σ1 H2 F1 (s1.same sm) fl e4 _ ?_
        cases fl with
        | nx g' => exact fun σ' H' Fs' s' mv' => ⟨g', Fs', .inl rfl, s', mv2.trans mv'⟩
        | ct g' => exact fun σ' H' Fs' s' mv' => ⟨g', Fs', .inr rfl, s', mv2.trans mv'⟩
        | bk g' =>
          cases e5
          exact fun σ' H' Fs' s' mv' => q σ' H' Fs' s' (mv2.trans mv')
        | rt r =>
          cases e5
          exact fun v σ' H' Fs' T s' h d st => q v σ' H' Fs' T s' h d (mv2.st.trans st)
end

/-! ### what is walked -/
section
variable {ι α β γ δ ρ κ S : Type} {X : Cx} {Γ : Cxt} {tg iter : Expr} {pos : Pos}
def TIof (X : Cx) (tg iter : Expr) : TI := fun σ H R => ∀ (pins : List (Addr × Obj)) (s : Shared), Inv X pins σ H s → wpAny (model X.prog X.w) X.A (eval iter X.env) (fun v s1 => wpAny (model X.prog X.w) X.A (pyIter v) (PIE X pins σ tg R) X.xe s1) X.xe s
theorem pi_of (X : Cx) (tg iter : Expr) : PI X tg iter (TIof X tg iter) := ⟨fun pins s σ H R I h => h pins s I⟩
theorem TIof.of {wi : TI} {σ : L2.St} {H : Hp} {R : It → Hp → Prop} (h : PI X tg iter wi) (q : wi σ H R) : TIof X tg iter σ H R := fun pins s I => h.run pins s σ H R I q
/-- a source of items: L is what it reads -/
def Src (J : It) (xs : List ι) (B : ι → Ass) (L : Fp) (H : Hp) : Prop :=
  ∃ (G : Hp → Prop) (Y : Nat → Hp → V → Hp → Prop), Walk J xs.length G Y ∧ G H ∧ (∀ H1 H2, G H1 → Keep L H1 H2 → G H2) ∧ (∀ a, L a → Mut (H a)) ∧
    ∀ i x v H1 H2, xs[i]? = some x → G H1 → Y i H1 v H2 → Same H1 H2 ∧ ∃ F, (B x).h v H2 F ∧ ∀ y, F y → L y
/-- a pure source -/
abbrev Wa (X : Cx) (Γ : Cxt) (tg iter : Expr) (p : Option (List ι)) (B : ι → Ass) : Prop := Hold (
  ∀ σ H Fs, Sat Γ σ H Fs → ∀ xs, p = some xs → ∀ R : It → Hp → Prop, (∀ J H' L, Same H H' → Src J xs B L H' → (∀ a, L a → ¬ Own Γ Fs a) → R J H') → TIof X tg iter σ H R)
/-- a target: what the slots are behind it; the slots at is alone are stored -/
def TgS (g : TG) (B : ι → Ass) (is : List Nat) (N : Cxt → ι → Cxt) : Prop :=
  ∀ Γ x v σ H Fs F, (∀ i ∈ is, i < Γ.length) → Sat Γ σ H Fs → (B x).h v H F → (∀ y, F y → ¬ Own Γ Fs y) → ∀ Q : L2.St → Hp → Prop, (∀ σ' Fs', Sat (N Γ x) σ' H Fs' → (∀ y, Own (N Γ x) Fs' y → Own Γ Fs y) → (σ'.length = σ.length ∧ ∀ j, j ∉ is → Fs' j = Fs j ∧ σ'[j]? = σ[j]? ∧ (N Γ x)[j]? = Γ[j]?) → Q σ' H) → g v σ H Q
def Tg (X : Cx) (tg : Expr) (B : ι → Ass) (is : List Nat) (N : Cxt → ι → Cxt) : Prop := ∃ g : TG, PG X tg g ∧ TgS g B is N
/-- a slot is stored with something that is lent -/
theorem Sat.setL {σ : L2.St} {H : Hp} {Fs : Nat → Fp} {i : Nat} {A : Ass} {v : V} {F : Fp} (s : Sat Γ σ H Fs) (hi : i < Γ.length) (x : A.h v H F) (d : ∀ a, F a → ¬ Own Γ Fs a) : Sat (Γ.set i (.lnt A)) (σ.set i (some v)) H (setF Fs i F) := by
  have hs : i < σ.length := s.len ▸ hi
  refine ⟨by simp [s.len], fun j p B e => ?_, fun j B e => ?_, fun j k p B n e c a f => ?_⟩
  · by_cases h : j = i
    · subst h
      rw [List.getElem?_set_self hi] at e
      cases e
    · rw [List.getElem?_set_ne (Ne.symm h)] at e
      obtain ⟨u, a, b, c⟩ := s.own j p B e
      exact ⟨u, by rw [List.getElem?_set_ne (Ne.symm h)]; exact a, by rw [setF_ne h]; exact b, c⟩
  · by_cases h : j = i
    · subst h
      rw [List.getElem?_set_self hi] at e
      cases e
      exact ⟨v, by rw [List.getElem?_set_self hs], by rw [setF_at]; exact x⟩
    · rw [List.getElem?_set_ne (Ne.symm h)] at e
      obtain ⟨u, a, b⟩ := s.lnt j B e
      exact ⟨u, by rw [List.getElem?_set_ne (Ne.symm h)]; exact a, by rw [setF_ne h]; exact b⟩
  · by_cases h : j = i
    · subst h
      rw [List.getElem?_set_self hi] at e
      cases e
    · rw [setF_ne h] at f
      rw [List.getElem?_set_ne (Ne.symm h)] at e
      by_cases hk : k = i
      · subst hk
        rw [setF_at]
        exact fun g => d a g ⟨j, p, B, e, f⟩
      · rw [setF_ne hk]
        rw [List.getElem?_set_ne (Ne.symm hk)] at c
        exact s.dj j k p B n e c a f
theorem Own.setL {Fs : Nat → Fp} {i : Nat} {A : Ass} {F : Fp} {a : Addr} (hi : i < Γ.length) (o : Own (Γ.set i (.lnt A)) (setF Fs i F) a) : Own Γ Fs a := by
  obtain ⟨j, p, B, e, f⟩ := o
  by_cases h : j = i
  · subst h
    rw [List.getElem?_set_self hi] at e
    cases e
  · rw [setF_ne h] at f
    rw [List.getElem?_set_ne (Ne.symm h)] at e
    exact ⟨j, p, B, e, f⟩
theorem tgs_name (i : Nat) {B : ι → Ass} : TgS (gName i) B [i] (fun Γ x => Γ.set i (.lnt (B x))) := fun Γ x v σ H Fs F hl s h d Q q => by
  have hi : i < Γ.length := hl i (by simp)
  refine q _ (setF Fs i F) (s.setL hi h d) (fun y o => o.setL hi) ⟨List.length_set, fun j hj => ?_⟩
  have hj : j ≠ i := by simpa using hj
  exact ⟨setF_ne hj, List.getElem?_set_ne (Ne.symm hj), List.getElem?_set_ne (Ne.symm hj)⟩
theorem tg_name (i : Nat) {x : Str} {B : ι → Ass} (hN : X.N.Nodup) (hi : X.N[i]? = some x) (hx : Loc X.env.scope x) (hf : X.fn x = true ∨ X.env.scope.names.lookup x = some .local) : Tg X (.Name x pos) B [i] (fun Γ x => Γ.set i (.lnt (B x))) :=
  ⟨gName i, pg_name hN hi hx hf, tgs_name i⟩
/-- a, b = a pair -/
theorem tgs_pair {K : PySem.W.Frag} (i j : Nat) {A : α → Ass} {B : β → Ass} : TgS (gTup K 2 (gCons (gName i) (gCons (gName j) gNil))) (isP A B) [i, j] (fun Γ z => (Γ.set i (.lnt (A z.1))).set j (.lnt (B z.2))) := fun Γ z v σ H Fs F hl s h d Q q => by
  obtain ⟨a, vs, rfl, r, v1, r1, F1, F2, rfl, ha, ⟨v2, r2, F3, F4, rfl, hb, ⟨rfl, rfl⟩, _, rfl⟩, _, rfl⟩ := h
  have hi' : i < Γ.length := hl i (by simp)
  have hj' : j < (Γ.set i (.lnt (A z.1))).length := by rw [List.length_set]; exact hl j (by simp)
  have s1 := s.setL hi' ha fun y f => d y (.inl f)
  have s2 := s1.setL hj' hb fun y f o => d y (.inr (.inl f)) (o.setL hi')
  refine ⟨a, [v1, v2], rfl, .inl (.inl r), rfl, v1, [v2], rfl, v2, [], rfl, rfl, ?_⟩
  refine q _ _ s2 (fun y o => (o.setL hj').setL hi') ⟨by simp, fun l hl => ?_⟩
  simp only [List.mem_cons, List.not_mem_nil, or_false, not_or] at hl
  refine ⟨(setF_ne hl.2).trans (setF_ne hl.1), ?_, ?_⟩
  · rw [List.getElem?_set_ne (Ne.symm hl.2), List.getElem?_set_ne (Ne.symm hl.1)]
  · rw [List.getElem?_set_ne (Ne.symm hl.2), List.getElem?_set_ne (Ne.symm hl.1)]
theorem pg_pair (i j : Nat) {x y : Str} {p1 p2 : Pos} {k : Nat} (hN : X.N.Nodup) (hi : X.N[i]? = some x) (hj : X.N[j]? = some y) (hx : Loc X.env.scope x) (hy : Loc X.env.scope y)
    (hfx : X.fn x = true ∨ X.env.scope.names.lookup x = some .local) (hfy : X.fn y = true ∨ X.env.scope.names.lookup y = some .local) (hc : X.calm = true := by rfl)
    (h1 : (assignEach [.Name x p1, .Name y p2] X.env).map (·.2) = assign (.Name x p1) X.env :: (assignEach [.Name y p2] X.env).map (·.2) := by rfl) (h2 : (assignEach [.Name y p2] X.env).map (·.2) = assign (.Name y p2) X.env :: (assignEach [] X.env).map (·.2) := by rfl)
    (hn : (assignEach [.Name x p1, .Name y p2] X.env).length = 2 := by rfl) (hst : (assignEach [.Name x p1, .Name y p2] X.env).findIdx? (·.1) = none := by rfl) :
    PG X (.Tuple [.Name x p1, .Name y p2] k pos) (gTup X.K 2 (gCons (gName i) (gCons (gName j) gNil))) :=
  pg_tup hc (pgs_cons (pg_name (i := i) hN hi hx hfx) (pgs_cons (pg_name (i := j) hN hj hy hfy) pgs_nil h2) h1) hn hst

/-! ### for -/
def foldO {G : Type} (f : ι → G → Option G) : List ι → G → Option G
  | [], g => some g
  | x :: xs, g => (f x g).bind (foldO f xs)
theorem foldO_at {G : Type} {f : ι → G → Option G} {xs : List ι} {g z : G} {i : Nat} (h : foldO f (xs.drop i) g = some z) (hi : i < xs.length) : ∃ g', f xs[i] g = some g' ∧ foldO f (xs.drop (i + 1)) g' = some z := by
  rw [List.drop_eq_getElem_cons hi] at h
  exact Option.bind_eq_some_iff.mp h
theorem sn_for {G : Type} {Γ : G → Cxt} {g0 : G} {p : Option (List ι)} {B : ι → Ass} {is : List Nat} {N : Cxt → ι → Cxt} {f : ι → G → Option G} {body : List Stmt} (hw : Wa X (Γ g0) tg iter p B) (ht : Tg X tg B is N) (hb : ∀ x g, Bn X (N (Γ g) x) body (f x g) Γ)
    (hd : ∀ g i, i ∈ is → (Γ g)[i]? = some .dead) (hp : PassesOwn (model X.prog X.w) X.A X.env X.xe := by exact PassesOwn.never) (hc : X.calm = true := by rfl) (hs : ∀ x, foldedSetIterable iter X.env x = pure x := by intro _; rfl) :
    Sn X (Γ g0) (.For tg iter body [] pos) (p.bind fun xs => foldO f xs g0) Γ := .mk fun σ H Fs s z ez D q => by
  obtain ⟨xs, e1, e2⟩ := Option.bind_eq_some_iff.mp ez
  obtain ⟨g, hg, tgr⟩ := ht
  refine TSof.of (ps_for hp hc (pi_of X tg iter) hg (pss_of X body) hs) ?_
  refine hw σ H Fs s xs e1 _ fun J H1 L sm ⟨G', Y, W, hG, keep, lt, items⟩ dl => ?_
  have s1 := s.same sm
  refine for_it W (fun i σ' H' => ∃ g Fs', Sat (Γ g) σ' H' Fs' ∧ foldO f (xs.drop i) g = some z ∧ Mv (Γ g0) Fs σ H1 (Γ g) Fs' σ' H' ∧ G' H' ∧ (∀ a, L a → Mut (H' a)) ∧ ∀ a, L a → ¬ Own (Γ g) Fs' a) ⟨g0, Fs, s1, by simpa using e2, Mv.same (Same.refl H1), hG, lt, dl⟩ (fun i σ' H' _ ⟨_, _, _, _, _, a, _⟩ => a) ?_ ?_
  · rintro i v σ2 H2 H2' hi ⟨g, F2, s2, e3, mv, hG2, lt2, d2⟩ hy
    obtain ⟨g', e4, e5⟩ := foldO_at e3 hi
    obtain ⟨sm2, F, hv, hF⟩ := items i _ v H2 H2' (List.getElem?_eq_getElem hi) hG2 hy
    have s2' := s2.same sm2
    have hl : ∀ i ∈ is, i < (Γ g).length := fun i m => (List.getElem?_eq_some_iff.mp (hd g i m)).1
    refine tgr (Γ g) xs[i] v σ2 H2' F2 F hl s2' hv (fun y f => d2 y (hF y f)) _ fun σ3 F3 s3 o3 ⟨_, k3⟩ => ?_
    have mv23 : Step (Own (Γ g) F2) H2 (Own (N (Γ g) xs[i]) F3) H2' := ⟨fun a o e _ => sm2 a o e, fun a o => .inl (o3 a o)⟩
    have key : ∀ σ4 H4 F4, Sat (Γ g') σ4 H4 F4 → Mv (N (Γ g) xs[i]) F3 σ3 H2' (Γ g') F4 σ4 H4 → ∃ g Fs', Sat (Γ g) σ4 H4 Fs' ∧ foldO f (xs.drop (i + 1)) g = some z ∧ Mv (Γ g0) Fs σ H1 (Γ g) Fs' σ4 H4 ∧ G' H4 ∧ (∀ a, L a → Mut (H4 a)) ∧ ∀ a, L a → ¬ Own (Γ g) Fs' a := fun σ4 H4 F4 s4 mv4 => by
      have st := mv23.trans mv4.st
      have stay : ∀ a o, H2 a = some o → L a → H4 a = some o := fun a o e l => st.1 a o e (d2 a l)
      refine ⟨g', F4, s4, e5, mv.trans ⟨st, fun j C ej => ?_⟩, keep H2 H4 hG2 fun a o e c => ?_, fun a l => ?_, fun a l o => ?_⟩
      · obtain ⟨⟨C', c'⟩, r, t⟩ := mv4.ls j C ej
        have hj : j ∉ is := fun m => by
          rw [hd g' j m] at ej; cases ej
        obtain ⟨k1, k2, k4⟩ := k3 j hj
        rw [k4] at c'
        exact ⟨⟨C', c'⟩, r.trans k1, t.trans k2⟩
      · rcases c with l | n
        · exact stay a o e l
        · refine st.1 a o e fun ow => n ?_
          have := s2.trk ow
          rw [e] at this; exact this
      · obtain ⟨o, e⟩ := mut_some (lt2 a l)
        have m := lt2 a l
        rw [e] at m
        rw [stay a o e l]; exact m
      · rcases st.2 a o with k | k
        · exact d2 a l k
        · have := lt2 a l
          rw [k] at this; exact this
    exact hb xs[i] g σ3 H2' F3 s3 g' e4 _ key
  · rintro σ2 H2 ⟨g, F2, s2, e3, mv, _⟩
    rw [List.drop_length] at e3
    cases e3
    exact q σ2 H2 F2 s2 ((Mv.same sm).trans mv)
def foldX {G γ ρ : Type} (f : ι → G → Option (Fl G G ρ)) : List ι → G → Option (Fl G γ ρ)
  | [], g => some (.nx g)
  | x :: xs, g => (f x g).bind fun
      | .nx g' => foldX f xs g'
      | .ct g' => foldX f xs g'
      | .bk g' => some (.nx g')
      | .rt r => some (.rt r)
theorem sx_for {G : Type} {Γ : G → Cxt} {g0 : G} {p : Option (List ι)} {B : ι → Ass} {is : List Nat} {N : Cxt → ι → Cxt} {L0 : γ → Cxt} {R0 : Rt ρ} {f : ι → G → Option (Fl G G ρ)} {body : List Stmt} (hw : Wa X (Γ g0) tg iter p B) (ht : Tg X tg B is N) (hb : ∀ x g, Bx X (N (Γ g) x) body (f x g) Γ Γ R0)
    (hd : ∀ g i, i ∈ is → (Γ g)[i]? = some .dead) (hp : PassesOwn (model X.prog X.w) X.A X.env X.xe := by exact PassesOwn.never) (hc : X.calm = true := by rfl) (hs : ∀ x, foldedSetIterable iter X.env x = pure x := by intro _; rfl) :
    Sx X (Γ g0) (.For tg iter body [] pos) (p.bind fun xs => foldX f xs g0) Γ L0 R0 := .mk fun σ H Fs s z ez D q => by
  obtain ⟨xs, e1, e2⟩ := Option.bind_eq_some_iff.mp ez
  obtain ⟨g, hg, tgr⟩ := ht
  refine TSof.of (ps_for hp hc (pi_of X tg iter) hg (pss_of X body) hs) ?_
  refine hw σ H Fs s xs e1 _ fun J H1 L sm ⟨G', Y, W, hG, keep, lt, items⟩ dl => ?_
  have s1 := s.same sm
  have q := q.step (Mv.same (σ := σ) sm)
  refine for_it W (fun i σ' H' => ∃ g Fs', Sat (Γ g) σ' H' Fs' ∧ foldX (γ := γ) f (xs.drop i) g = some z ∧ Mv (Γ g0) Fs σ H1 (Γ g) Fs' σ' H' ∧ G' H' ∧ (∀ a, L a → Mut (H' a)) ∧ ∀ a, L a → ¬ Own (Γ g) Fs' a) ⟨g0, Fs, s1, by simpa using e2, Mv.same (Same.refl H1), hG, lt, dl⟩ (fun i σ' H' _ ⟨_, _, _, _, _, a, _⟩ => a) ?_ ?_
  · rintro i v σ2 H2 H2' hi ⟨g, F2, s2, e3, mv, hG2, lt2, d2⟩ hy
    rw [List.drop_eq_getElem_cons hi] at e3
    obtain ⟨fl, e4, e5⟩ := Option.bind_eq_some_iff.mp e3
    obtain ⟨sm2, F, hv, hF⟩ := items i _ v H2 H2' (List.getElem?_eq_getElem hi) hG2 hy
    have s2' := s2.same sm2
    have hl : ∀ i ∈ is, i < (Γ g).length := fun i m => (List.getElem?_eq_some_iff.mp (hd g i m)).1
    refine tgr (Γ g) xs[i] v σ2 H2' F2 F hl s2' hv (fun y f => d2 y (hF y f)) _ fun σ3 F3 s3 o3 ⟨_, k3⟩ => ?_
    have mv23 : Step (Own (Γ g) F2) H2 (Own (N (Γ g) xs[i]) F3) H2' := ⟨fun a o e _ => sm2 a o e, fun a o => .inl (o3 a o)⟩
    have mvs : ∀ g' σ4 H4 F4, Mv (N (Γ g) xs[i]) F3 σ3 H2' (Γ g') F4 σ4 H4 → Mv (Γ g0) Fs σ H1 (Γ g') F4 σ4 H4 := fun g' σ4 H4 F4 mv4 => mv.trans ⟨mv23.trans mv4.st, fun j C ej => by
      obtain ⟨⟨C', c'⟩, r, t⟩ := mv4.ls j C ej
      have hj : j ∉ is := fun m => by
        rw [hd g' j m] at ej; cases ej
      obtain ⟨k1, k2, k4⟩ := k3 j hj
      rw [k4] at c'
      exact ⟨⟨C', c'⟩, r.trans k1, t.trans k2⟩⟩
    have key : ∀ g', foldX (γ := γ) f (xs.drop (i + 1)) g' = some z → ∀ σ4 H4 F4, Sat (Γ g') σ4 H4 F4 → Mv (N (Γ g) xs[i]) F3 σ3 H2' (Γ g') F4 σ4 H4 → ∃ g Fs', Sat (Γ g) σ4 H4 Fs' ∧ foldX (γ := γ) f (xs.drop (i + 1)) g = some z ∧ Mv (Γ g0) Fs σ H1 (Γ g) Fs' σ4 H4 ∧ G' H4 ∧ (∀ a, L a → Mut (H4 a)) ∧ ∀ a, L a → ¬ Own (Γ g) Fs' a := fun g' e5 σ4 H4 F4 s4 mv4 => by
      have st := mv23.trans mv4.st
      have stay : ∀ a o, H2 a = some o → L a → H4 a = some o := fun a o e l => st.1 a o e (d2 a l)
      refine ⟨g', F4, s4, e5, mvs g' σ4 H4 F4 mv4, keep H2 H4 hG2 fun a o e c => ?_, fun a l => ?_, fun a l o => ?_⟩
      · rcases c with l | n
        · exact stay a o e l
        · refine st.1 a o e fun ow => n ?_
          have := s2.trk ow
          rw [e] at this; exact this
      · obtain ⟨o, e⟩ := mut_some (lt2 a l)
        have m := lt2 a l
        rw [e] at m
        rw [stay a o e l]; exact m
      · rcases st.2 a o with k | k
        · exact d2 a l k
        · have := lt2 a l
          rw [k] at this; exact this
    refine hb xs[i] g σ3 H2' F3 s3 fl e4 _ ?_
    cases fl with
    | nx g' => exact key g' e5
    | ct g' => exact key g' e5
    | bk g' =>
      cases e5
      exact fun σ4 H4 F4 s4 mv4 => q σ4 H4 F4 s4 (mvs g' σ4 H4 F4 mv4)
    | rt r =>
      cases e5
      exact fun v σ4 H4 F4 T s4 h4 d4 st4 => q v σ4 H4 F4 T s4 h4 d4 (mv.st.trans (mv23.trans st4))
  · rintro σ2 H2 ⟨g, F2, s2, e3, mv, _⟩
    rw [List.drop_length] at e3
    cases e3
    exact q σ2 H2 F2 s2 mv
end
end Rf
/-! Rf5: what is walked: lists, tuples, texts, ranges, enumerate. Own work. -/
namespace Rf
open PySem PySem.Spec L2

/-! ### enumerate over a tuple -/
set_option maxHeartbeats 1000000 in
theorem meets_enumerate_new1 {v : Value} {o : Obj} {H : Heap → Prop} (B : Begins v o H) :
    Meets (Builtin.«enumerate.__new__» ⟨[.type "enumerate", v], []⟩) (fun _ R s => H s.heap ∧
      R (.ok (.ret (.ref (s.heap.push o).objs.size))) { s with heap := (s.heap.push o).push { cls := .type "enumerate", data := .fields #[.none, .bool false, .ref s.heap.objs.size, rawInt 0, .none, .none] } }) :=
  .of_wp fun prog w A R s h => by
    obtain ⟨hp, g, d, tk, os⟩ := s; obtain ⟨h1, h⟩ := h
    have hsub := sub_enumerate
    have q1 : ∀ {A' : Around} {E : Value → Shared → Prop} {Q : Value → Shared → Prop}, Q (.ref hp.objs.size) ⟨hp.push o, g, d, tk, os⟩ → wpAny (model prog w) A' (pyIter v) Q E ⟨hp, g, d, tk, os⟩ :=
      fun q => B.iter prog w _ _ ⟨hp, g, d, tk, os⟩ _ h1 q
    wp_walk using q1
    refine wpAny_stack_any fun st => wpAny_pure ?_
    split
    · rename_i c _ _ _ _ _
      cases (c == Value.type "enumerate")
      · wp_walk using q1
        exact ⟨_, rfl, h⟩
      · wp_walk using q1
        exact ⟨_, rfl, h⟩
    · wp_walk using q1
      exact ⟨_, rfl, h⟩
theorem enum_begins1 {prog : Program} {w : World} {A : Around} {E : Value → Shared → Prop} {s : Shared} {v : Value} {o : Obj} {H : Heap → Prop} {Q : Value → Shared → Prop} (B : Begins v o H) (h1 : H s.heap)
    (h : ∀ h', IsEnum h' (s.heap.objs.size + 1) s.heap.objs.size 0 .none → h'.get? s.heap.objs.size = some o → h'.objs.size = s.heap.objs.size + 2 →
      (∀ b o, s.heap.get? b = some o → h'.get? b = some o) → Q (.ref (s.heap.objs.size + 1)) { s with heap := h' }) :
    wpAny (model prog w) A (call (.type "enumerate") [v]) Q E s := by
  refine callType_new F.called_enumerate (by decide) (F.typeCall_enumerate_1 _) (F.newCall_enumerate_1 _) (fun obj => F.args_object_init_2 obj _) F.entry_enumerate_new
    (meets_enumerate_new1 B) ⟨h1, ?_⟩
  have hz : (s.heap.push o).objs.size = s.heap.objs.size + 1 := Heap.size_push ..
  show _ ∧ _
  rw [hz]
  have he : IsEnum ((s.heap.push o).push { cls := .type "enumerate", data := .fields #[.none, .bool false, .ref s.heap.objs.size, rawInt 0, .none, .none] }) (s.heap.objs.size + 1) s.heap.objs.size 0 .none := by
    have := Heap.get?_push_size (s.heap.push o) (o := { cls := .type "enumerate", data := .fields #[.none, .bool false, .ref s.heap.objs.size, rawInt 0, .none, .none] }) rfl
    rw [hz] at this; exact this
  refine ⟨⟨_, he, rfl⟩, h _ he (Heap.get?_push_of_some _ (Heap.get?_push_size _ B.free)) (by rw [Heap.size_push, hz]) fun b o x => Heap.get?_push_of_some _ (Heap.get?_push_of_some _ x)⟩
theorem enumT_end {prog : Program} {w : World} {A : Around} {E : Value → Shared → Prop} {s : Shared} {e it t : Addr} {i : Nat} {items : Array Value} {c : Int} {old : Value} {Q : Option Value → Shared → Prop} (hh : A.handled = none)
    (he : IsEnum s.heap e it c old) (hit : s.heap.IsTupleIter it t i) (ht : s.heap.IsTuple t items) (hx : items[i]? = none)
    (hQ : ∀ h', Heap.ExtBut it s.heap h' → Q none { s with heap := h' }) : wpAny (model prog w) A (pyNext (.ref e)) Q E s := by
  have ty : s.TypeIs (.ref e) "enumerate" := ⟨_, he, rfl⟩
  unfold pyNext
  refine wpAny_bind (wpAny_attempt ?_)
  refine wpAny_callSpecial?_slot (name := Str.ofString "__next__") ty F.slot_enumerate_next ?_
  refine wpAny_call_entry F.slot_enumerate_next ty F.entry_enumerate_next ?_ (F.args_enumerate_next_1 _)
  show wpAny _ _ (field (.ref e) 2 >>= _) _ _ _
  refine wpAny_bind (wpAny_field he rfl (x := .ref it) rfl (wpAny_bind ?_))
  refine wpAny_nextOf_tuple_end hh hit ht hx fun h' x he' ⟨o, ho, hc⟩ => ?_
  exact wpAny_bind (wpAny_isInstance (T := "StopIteration") (b := true) ⟨o, ho, hc⟩ isSubtype_stop (wpAny_pure (hQ _ he')))
/-- a tuple, each item in a new pair -/
def IteT (K : PySem.W.Frag) (a : Addr) : It :=
  ⟨fun i H => ∃ (xs : List V) (x : V), SqT K H a xs ∧ xs[i]? = some x, fun i H v H' => ∃ T x, v = .ref T ∧ H T = none ∧ H' = upd H T (.tup [.int (i : Nat), x]) ∧ ∀ xs, SqT K H a xs → xs[i]? = some x, fun i H => ∃ xs : List V, SqT K H a xs ∧ xs.length ≤ i⟩
theorem turn_enumT {P : Program} {w : World} {K : PySem.W.Frag} {elts : List Expr} {kk : Nat} {tpos : Pos} (a e it : Addr) :
    Turn P w K (.Tuple elts kk tpos) (IteT K a) [e, it] e (fun i h => (∃ old, IsEnum h e it ((i : Nat) : Int) old) ∧ h.IsTupleIter it a i ∧ e ≠ it) where
  mem := by simp
  obj := fun i h st b hb => by
    obtain ⟨⟨old, he⟩, ⟨o, ho, hc, hd⟩, _⟩ := st
    have e' : b = e ∨ b = it := by simpa using hb
    rcases e' with z | z
    · rw [z]; exact ⟨_, he, fun v q => nomatch q⟩
    · rw [z]; exact ⟨o, ho, fun v q => by rw [hd] at q; cases q⟩
  keep := fun i h h' st k => let ⟨⟨old, he⟩, hi, hne⟩ := st; ⟨⟨old, k e (by simp) _ he⟩, hi.at fun o q => k it (by simp) o q, hne⟩
  item := by
    intro X hP hw hK hc i pins s σ H E I hf st hg
    subst hP hw hK
    obtain ⟨⟨old, he⟩, hit, hne⟩ := st
    obtain ⟨xs, x, hq, hx⟩ := hg
    obtain ⟨its, rv, p, hz⟩ := I.tuple hq
    obtain ⟨u, hu, ru⟩ := rv.get hx
    have hel : e < s.heap.objs.size := Heap.lt_size he
    have hil : it < s.heap.objs.size := by obtain ⟨_, q, _⟩ := hit; exact Heap.lt_size q
    have pt : s.heap.IsTuple a its.toArray := p
    have hta : a ≠ it := fun z => by
      obtain ⟨o, ho, hc', _⟩ := pt
      obtain ⟨o2, ho2, hc2, _⟩ := hit
      rw [z, ho2] at ho
      cases ho
      rw [hc2] at hc'
      exact absurd hc' (by simp)
    have hea : e ≠ a := fun z => by
      obtain ⟨o, ho, hc', _⟩ := pt
      rw [← z, he] at ho
      cases ho
      exact absurd hc' (by simp)
    have D := Draws.tuple (prog := X.prog) (w := X.w) (A := X.A.in1) (I.ok.hd hc) it a hta its.toArray
    have hi' : i < its.toArray.size := by
      have := (List.getElem?_eq_some_iff.mp hu).1
      simpa using this
    refine wpAny_pyNext_enum_itemC D he (i := i) ⟨hit, pt⟩ hi' hne (by simp [hne, hea]) fun y h' tk hP ho hst' hT hsz hk => ?_
    have ey : y = u := by
      have : its.toArray[i]? = some u := by simpa using hu
      rw [this] at hP
      exact (Option.some.inj hP).symm
    subst ey
    refine ⟨_, rfl, wpAny_letOwnedTupleGo_enum (s := { s with heap := h', toks := tk + 1 }) ho fun h'' he' sb => ?_⟩
    have hT2 : h''.get? s.heap.objs.size = some { cls := .type "tuple", data := .seq #[.int i tk, y] } := (sb.2 _ (Nat.ne_of_gt hel)).trans hT
    have new : ObjOk X.prog X.w (upd H s.heap.objs.size (.tup [.int (i : Nat), x])) h'' s.heap.objs.size (.tup [.int (i : Nat), x]) :=
      ⟨by show 2 ≤ sizeLine; decide, [.int i tk, y], .cons ⟨_, rfl⟩ (.cons ru .nil), ⟨_, hT2, rfl, _, rfl⟩⟩
    have I1 : Inv X pins σ (upd H s.heap.objs.size (.tup [.int (i : Nat), x])) { s with heap := h'', toks := tk + 1 } :=
      I.turnedNew (ch := [e, it]) (fun b ob hb q => (sb.2 b (fun z => hb (by simp [z]))).trans (hk b ob (fun z => hb (by simp [z])) (fun z => hb (by simp [z])) q)) hf (Nat.le_refl _) new
    refine ⟨.ref s.heap.objs.size, _, I1, rfl, ⟨_, x, rfl, I.hok.fresh (Nat.le_refl _), rfl, fun ys hy => by rw [I.tuple_inj hy hq]; exact hx⟩, ⟨⟨y, ?_⟩, hst'.1.at fun o q => (sb.2 it (Ne.symm hne)).trans q, hne⟩, fun b hb => ?_⟩
    · have e1 : ((i + 1 : Nat) : Int) = (i : Int) + 1 := by omega
      rw [e1]; exact he'
    · have hb' : b < s.heap.objs.size := by
        have e' : b = e ∨ b = it := by simpa using hb
        rcases e' with z | z
        · rw [z]; exact hel
        · rw [z]; exact hil
      rw [upd_ne (Nat.ne_of_lt hb')]
      exact (hf b hb).1
  done := by
    intro X hP hw hK hc i pins s σ H E I hf st hg
    subst hP hw hK
    obtain ⟨⟨old, he⟩, hit, hne⟩ := st
    obtain ⟨xs, hq, hx⟩ := hg
    obtain ⟨its, rv, p, hz⟩ := I.tuple hq
    obtain ⟨f0, f1, f2, f3, f4, f5⟩ := hf it (by simp)
    have hl := rv.length
    have pt : s.heap.IsTuple a its.toArray := p
    have hta : a ≠ it := fun z => by
      obtain ⟨o, ho, hc', _⟩ := pt
      obtain ⟨o2, ho2, hc2, _⟩ := hit
      rw [z, ho2] at ho
      cases ho
      rw [hc2] at hc'
      exact absurd hc' (by simp)
    exact enumT_end (I.ok.hd hc) he hit pt (by simp; omega) fun h' eb => ⟨rfl, I.turned (t' := s.toks) (fun b o hb q => eb b o hb q) f0 f1 f3 f4 f5⟩
  self := fun A i s Q E st h => let ⟨⟨_, he⟩, _⟩ := st; wpAny_pyIter_enum he h

theorem walk_enumT {K : PySem.W.Frag} {a : Addr} {xs : List V} : Walk (IteT K a) xs.length (fun H => SqT K H a xs) (YPair (fun i => some (.int (i : Nat))) (fun i => xs[i]?)) := by
  refine ⟨fun i _ hi q => ⟨xs, xs[i], q, by simp [hi]⟩, fun _ q => ⟨xs, q, Nat.le_refl _⟩, fun i H v H' _ q y => ?_⟩
  obtain ⟨T, x, h1, h2, h3, h4⟩ := y
  exact ⟨T, .int (i : Nat), x, h1, h2, h3, rfl, h4 xs q⟩
def iEnumT (K : PySem.W.Frag) (ta : TA) : TI := fun σ H R => ta σ H fun vs H1 => ∃ a xs, vs = [.ref a] ∧ SqT K H1 a xs ∧ R (IteT K a) H1
theorem pi_enumT {X : Cx} {e : Expr} {ta : TA} {p pos tpos : Pos} {elts : List Expr} {kk : Nat} (hg : Gl X "enumerate") (hm : X.mg "enumerate" = none) (ha : PA X [e] ta) (hs : starEach [e] X.env = [(false, eval e X.env)] := by rfl) :
    PI X (.Tuple elts kk tpos) (.Call (.Name "enumerate" p) [e] [] pos) (iEnumT X.K ta) := by
  refine ⟨fun pins s σ H R I h => PyProof.Rows.Call_ (ld_blt I hg hm PyProof.Rows.boot_enumerate (PyProof.Rows.callWith_type1 ?_ hs rfl))⟩
  refine thn (ha.run pos pins s σ H _ I h) fun us s1 ⟨vs, H1, I1, r1, a, xs, ex, hq, q⟩ => ?_
  subst ex
  obtain ⟨u, rfl, r⟩ := vals1 r1
  cases r
  obtain ⟨its, rv, p', hz⟩ := I1.tuple hq
  refine enum_begins1 (begins_tuple a its.toArray) p' fun h' he hit hsz hk => wpAny_pyIter_enum he ?_
  have I2 : Inv X pins σ H1 { s1 with heap := h' } := I1.kept (t' := s1.toks) hk
  refine ⟨s1.heap.objs.size + 1, [s1.heap.objs.size + 1, s1.heap.objs.size], _, _, H1, rfl, I2, turn_enumT a (s1.heap.objs.size + 1) s1.heap.objs.size, ⟨⟨.none, he⟩, ⟨_, hit, rfl, rfl⟩, Nat.succ_ne_self _⟩, fun b hb => ?_, q⟩
  have hle : s1.heap.objs.size ≤ b := by
    rcases List.mem_cons.mp hb with z | z
    · rw [z]; exact Nat.le_add_right _ _
    · rw [List.mem_singleton.mp z]; exact Nat.le_refl _
  exact I1.fpOk hle (I1.hok.fresh hle)

/-! ### sources -/
section
variable {ι α β S : Type} {X : Cx} {Γ : Cxt} {tg e : Expr} {pos : Pos} {p : Option (List ι)} {B : ι → Ass}
def Sl.isOwn : Sl → Bool
  | .own _ _ => true
  | _ => false
/-- no slot is own -/
def noOwn (Γ : Cxt) : Bool := Γ.all fun s => !s.isOwn
theorem noOwn_cov {Fs : Nat → Fp} {Δ : Cxt} (h : noOwn Δ = true) {a : Addr} (c : Cov Δ Fs a) : ∃ j B, Δ[j]? = some (.lnt B) ∧ Fs j a := by
  obtain ⟨j, (⟨q, A, e⟩ | ⟨A, e⟩), f⟩ := c
  · have := List.all_eq_true.mp h _ (List.mem_of_getElem? e)
    cases this
  · exact ⟨j, A, e, f⟩
theorem Src.imm {J : It} {xs : List ι} {H : Hp} {G : Hp → Prop} {Y : Nat → Hp → V → Hp → Prop} (w : Walk J xs.length G Y) (g : G H) (k : ∀ H1 H2, G H1 → Keep no H1 H2 → G H2) (it : ∀ i x v H1 H2, xs[i]? = some x → G H1 → Y i H1 v H2 → Same H1 H2 ∧ (B x).h v H2 no) : Src J xs B no H :=
  ⟨G, Y, w, g, k, fun _ z => z.elim, fun i x v H1 H2 e g y => let ⟨a, b⟩ := it i x v H1 H2 e g y; ⟨a, no, b, fun _ z => z⟩⟩
theorem rd_keep {F : Fp} {H H' : Hp} {a : Addr} {vs : List V} (k : Keep F H H') (r : Rd H a (.tup vs)) : Rd H' a (.tup vs) :=
  r.elim (fun r => .inl (k a _ r (.inr fun z => z))) fun ⟨o, r⟩ => .inr ⟨o, k a _ r (.inr fun z => z)⟩
/-- a tuple of things that own nothing -/
theorem wa_tup [im : Imm B] (h : Al X Γ e p (isT B)) : Wa X Γ tg e p B := .mk fun σ H Fs s xs ex R q => by
  refine TIof.of (pi_tup (pe_of X e)) ?_
  refine h σ H Fs s xs ex _ fun v H1 F sm ⟨a, vs, ev, r, hv⟩ _ => ⟨a, ev, ⟨vs, .inl (.inl r)⟩, ?_⟩
  have e0 := hv.nil
  subst e0
  have hl := hv.length
  refine q _ H1 no sm (Src.imm (G := fun H => H a = some (.tup vs) ∧ AllF B H xs vs no) (Y := YAt vs) ?_ ⟨r, hv⟩ (fun H1 H2 g k => ⟨k a _ g.1 (.inr fun z => z), g.2.stb k⟩) fun i x v H1 H2 e g y => ?_) fun _ z => z.elim
  · rw [hl]
    exact (walk_tup (K := X.K) (a := a) (xs := vs)).mono (fun H g => .inl (.inl g.1)) fun _ _ _ _ _ _ y => y
  · obtain ⟨rfl, ey⟩ := y
    obtain ⟨w, ew, hw⟩ := g.2.all e
    rw [ew] at ey
    cases ey
    exact ⟨Same.refl H2, hw⟩
/-- a list that is lent, or new -/
theorem wa_list {Δ : Cxt} (en : Ent Γ Δ) (nw : noOwn Δ = true) (h : Al X Δ e p (isL B)) : Wa X Γ tg e p B := .mk fun σ H Fs s xs ex R q => by
  refine TIof.of (pi_list (pe_of X e)) ?_
  refine h σ H Fs (s.ent en) xs ex _ fun v H1 F sm hF cv => ?_
  obtain ⟨a, vs, G, ev, r, hv, na, eF⟩ := id hF
  refine ⟨a, ev, ⟨vs, .inl (.inl r)⟩, ?_⟩
  have hl := hv.length
  refine q _ H1 F sm ⟨fun H => H a = some (.lst vs) ∧ AllF B H xs vs G, YAt vs, ?_, ⟨r, hv⟩, fun H1 H2 g k => ⟨k a _ g.1 (.inl (by rw [eF]; exact .inl rfl)), g.2.stb (k.sub fun b f => by rw [eF]; exact .inr f)⟩, fun b f => (isL B xs).trk hF f, fun i x v H1 H2 e g y => ?_⟩ fun b f o => ?_
  · rw [hl]
    exact (walk_list (K := X.K) (a := a) (xs := vs)).mono (fun H g => .inl (.inl g.1)) fun _ _ _ _ _ _ y => y
  · obtain ⟨rfl, ey⟩ := y
    obtain ⟨w, G', ew, hw, sub⟩ := g.2.get e
    rw [ew] at ey
    cases ey
    exact ⟨Same.refl H2, G', hw, fun y f => by rw [eF]; exact .inr (sub y f)⟩
  · rcases cv b f with c | n
    · obtain ⟨j, D, ej, fj⟩ := noOwn_cov nw c
      exact s.djl (en.lnt ej) fj o
    · exact s.out n o
/-- a text, sign by sign -/
theorem wa_str {p : Option Str} (h : Al X Γ e p isS) : Wa X Γ tg e (p.map fun x => x.cps.toList.map fun c => (⟨#[c]⟩ : Str)) isS := .mk fun σ H Fs s xs ex R q => by
  obtain ⟨z, ez, rfl⟩ := Option.map_eq_some_iff.mp ex
  refine TIof.of (pi_str (pe_of X e)) ?_
  refine h σ H Fs s z ez _ fun v H1 F sm hv _ => ⟨z, hv.1, ?_⟩
  refine q _ H1 no sm (Src.imm (G := fun _ => True) (Y := fun i H v H' => H' = H ∧ ∃ c, z.cps[i]? = some c ∧ v = .str ⟨#[c]⟩) ?_ trivial (fun _ _ _ _ => trivial) fun i x v H1 H2 e g y => ?_) fun _ z => z.elim
  · rw [List.length_map, Array.length_toList]
    exact walk_str
  · obtain ⟨rfl, c, ec, rfl⟩ := y
    rw [List.getElem?_map, Array.getElem?_toList, ec] at e
    cases e
    exact ⟨Same.refl H2, rfl, rfl⟩
def rngL (a b : Int) : List Int := (List.range (b - a).toNat).map fun i => a + (i : Nat)
theorem rngL_length (a b : Int) : (rngL a b).length = (b - a).toNat := by simp [rngL]
theorem rngL_get {a b : Int} {i : Nat} {x : Int} (h : (rngL a b)[i]? = some x) : x = a + (i : Nat) := by
  unfold rngL at h
  rw [List.getElem?_map] at h
  obtain ⟨j, e, rfl⟩ := Option.map_eq_some_iff.mp h
  have := (List.getElem?_eq_some_iff.mp e).2
  simp at this
  omega
def smR (a : Int) : Bool := decide (-(2 ^ 62) ≤ a) && decide (a < 2 ^ 62)
def rng1 (n : Int) : Option (List Int) := if smR n = true then some (rngL 0 n) else none
def rng2 (a b : Int) : Option (List Int) := if smR a && smR b = true then some (rngL a b) else none
theorem src_rng {H : Hp} {a b : Int} {J : It} (hJ : J = Itr a (b - a).toNat) : Src J (rngL a b) isI no H := by
  subst hJ
  refine Src.imm (G := fun _ => True) (Y := YFn fun i => .int (a + i)) ?_ trivial (fun _ _ _ _ => trivial) fun i x v H1 H2 e g y => ?_
  · rw [rngL_length]
    exact walk_range
  · obtain ⟨rfl, rfl⟩ := y
    rw [rngL_get e]
    exact ⟨Same.refl H2, rfl, rfl⟩
theorem wa_rng1 {a : Expr} {pp : Pos} {p : Option Int} (h : Al X Γ a p isI) (hm : X.mg "range" = none) (hg : Gl X "range" := by rfl) (hs : starEach [a] X.env = [(false, eval a X.env)] := by rfl) : Wa X Γ tg (.Call (.Name "range" pp) [a] [] pos) (p.bind rng1) isI := .mk fun σ H Fs s xs ex R q => by
  obtain ⟨n, en, e2⟩ := Option.bind_eq_some_iff.mp ex
  unfold rng1 at e2
  split at e2
  · rename_i hc
    cases e2
    simp only [smR, Bool.and_eq_true, decide_eq_true_eq] at hc
    refine TIof.of (pi_range1 hg hm (pa_cons (pe_of X a) pa_nil hs) hs) ?_
    refine h σ H Fs s n en _ fun v H1 F sm hv _ => ⟨n, by rw [hv.1], hc.1, hc.2, ?_⟩
    exact q _ H1 no sm (src_rng (by simp)) fun _ z => z.elim
  · cases e2
theorem wa_rng2 {a b : Expr} {pp : Pos} {p r : Option Int} (h : Al X Γ a p isI) (h2 : Al X Γ b r isI) (hm : X.mg "range" = none) (hg : Gl X "range" := by rfl) (hs : starEach [a, b] X.env = [(false, eval a X.env), (false, eval b X.env)] := by rfl) (hs2 : starEach [b] X.env = [(false, eval b X.env)] := by rfl) :
    Wa X Γ tg (.Call (.Name "range" pp) [a, b] [] pos) (p.bind fun x => r.bind fun y => rng2 x y) isI := .mk fun σ H Fs s xs ex R q => by
  obtain ⟨n, en, e1⟩ := Option.bind_eq_some_iff.mp ex
  obtain ⟨m, em, e2⟩ := Option.bind_eq_some_iff.mp e1
  unfold rng2 at e2
  split at e2
  · rename_i hc
    cases e2
    simp only [smR, Bool.and_eq_true, decide_eq_true_eq] at hc
    refine TIof.of (pi_range2 hg hm (pa_cons (pe_of X a) (pa_cons (pe_of X b) pa_nil hs2) (by rw [hs, hs2])) hs hs2) ?_
    refine h σ H Fs s n en _ fun v H1 F sm hv _ => ?_
    refine h2 σ H1 Fs (s.same sm) m em _ fun u H2 F2 sm2 hu _ => ⟨n, m, by rw [hv.1, hu.1], ⟨hc.1.1, hc.1.2, hc.2.1, hc.2.2⟩, ?_⟩
    exact q _ H2 no (sm.trans sm2) (src_rng rfl) fun _ z => z.elim
  · cases e2
def enumI (i : Int) : List ι → List (Int × ι)
  | [] => []
  | x :: xs => (i, x) :: enumI (i + 1) xs
theorem enumI_length : ∀ (i : Int) (xs : List ι), (enumI i xs).length = xs.length
  | _, [] => rfl
  | i, x :: xs => by simp [enumI, enumI_length (i + 1) xs]
theorem enumI_get : ∀ {i : Int} {xs : List ι} {j : Nat} {z : Int × ι}, (enumI i xs)[j]? = some z → z.1 = i + (j : Nat) ∧ xs[j]? = some z.2
  | _, [], j, z, h => by simp [enumI] at h
  | i, x :: xs, 0, z, h => by
    simp [enumI] at h
    subst h
    simp
  | i, x :: xs, j + 1, z, h => by
    have := enumI_get (i := i + 1) (xs := xs) (j := j) (by simpa [enumI] using h)
    refine ⟨?_, by simpa using this.2⟩
    rw [this.1]; omega
theorem isP_new {α β : Type} {A : α → Ass} {B : β → Ass} {x : α} {y : β} {v u : V} {H : Hp} {T : Addr} (nT : H T = none) (h1 : (A x).h v H no) (h2 : (B y).h u H no) : Same H (upd H T (.tup [v, u])) ∧ (isP A B (x, y)).h (.ref T) (upd H T (.tup [v, u])) no := by
  have sm : Same H (upd H T (.tup [v, u])) := fun b o e => by
    rw [upd_ne (ne_of_none e nT)]; exact e
  exact ⟨sm, T, [v, u], rfl, upd_same, v, [u], no, no, rfl, Ass.same h1 sm, ⟨u, [], no, no, rfl, Ass.same h2 sm, ⟨rfl, rfl⟩, fun _ z => z.elim, (un_no no).symm⟩, fun _ z => z.elim, (un_no no).symm⟩
/-- enumerate of a tuple -/
theorem wa_enumT [im : Imm B] {elts : List Expr} {kk : Nat} {tpos pp : Pos} (h : Al X Γ e p (isT B)) (hm : X.mg "enumerate" = none) (hg : Gl X "enumerate" := by rfl) (hs : starEach [e] X.env = [(false, eval e X.env)] := by rfl) :
    Wa X Γ (.Tuple elts kk tpos) (.Call (.Name "enumerate" pp) [e] [] pos) (p.map (enumI 0)) (isP isI B) := .mk fun σ H Fs s xs ex R q => by
  obtain ⟨xs, ez, rfl⟩ := Option.map_eq_some_iff.mp ex
  refine TIof.of (pi_enumT hg hm (pa_cons (pe_of X e) pa_nil hs) hs) ?_
  refine h σ H Fs s xs ez _ fun v H1 F sm ⟨a, vs, ev, r, hv⟩ _ => ⟨a, vs, by rw [ev], .inl (.inl r), ?_⟩
  have e0 := hv.nil
  subst e0
  have hl := hv.length
  refine q _ H1 no sm (Src.imm (G := fun H => H a = some (.tup vs) ∧ AllF B H xs vs no) (Y := YPair (fun i => some (.int (i : Nat))) (fun i => vs[i]?)) ?_ ⟨r, hv⟩ (fun H1 H2 g k => ⟨k a _ g.1 (.inr fun z => z), g.2.stb k⟩) fun i x v H1 H2 e g y => ?_) fun _ z => z.elim
  · rw [enumI_length, hl]
    exact (walk_enumT (K := X.K) (a := a) (xs := vs)).mono (fun H g => .inl (.inl g.1)) fun _ _ _ _ _ _ y => y
  · obtain ⟨T, u, w, rfl, nT, rfl, eu, ew⟩ := y
    obtain ⟨i', x⟩ := x
    obtain ⟨e1, e2⟩ := enumI_get e
    obtain ⟨w', ew', hw⟩ := g.2.all e2
    simp only at ew
    rw [ew'] at ew
    cases ew
    cases eu
    simp only at e1
    subst e1
    exact isP_new (A := isI) (v := .int (i : Nat)) nT ⟨by simp, rfl⟩ hw
/-- enumerate of a list that is lent, or new, of things that own nothing -/
theorem wa_enumL [im : Imm B] {Δ : Cxt} {elts : List Expr} {kk : Nat} {tpos pp : Pos} (en : Ent Γ Δ) (nw : noOwn Δ = true) (h : Al X Δ e p (isL B)) (hm : X.mg "enumerate" = none) (hg : Gl X "enumerate" := by rfl) (hs : starEach [e] X.env = [(false, eval e X.env)] := by rfl) :
    Wa X Γ (.Tuple elts kk tpos) (.Call (.Name "enumerate" pp) [e] [] pos) (p.map (enumI 0)) (isP isI B) := .mk fun σ H Fs s xs ex R q => by
  obtain ⟨xs, ez, rfl⟩ := Option.map_eq_some_iff.mp ex
  refine TIof.of (pi_enum hg hm (pa_cons (pe_of X e) pa_nil hs) hs) ?_
  refine h σ H Fs (s.ent en) xs ez _ fun v H1 F sm hF cv => ?_
  obtain ⟨a, vs, G, ev, r, hv, na, eF⟩ := id hF
  refine ⟨a, vs, by rw [ev], .inl (.inl r), ?_⟩
  have e0 := hv.nil
  subst e0
  have hl := hv.length
  refine q _ H1 F sm ⟨fun H => H a = some (.lst vs) ∧ AllF B H xs vs no, YPair (fun i => some (.int (i : Nat))) (fun i => vs[i]?), ?_, ⟨r, hv⟩, fun H1 H2 g k => ⟨k a _ g.1 (.inl (by rw [eF]; exact .inl rfl)), g.2.stb (k.sub fun b f => f.elim)⟩, fun b f => (isL B xs).trk hF f, fun i x v H1 H2 e g y => ?_⟩ fun b f o => ?_
  · rw [enumI_length, hl]
    exact (walk_enum (K := X.K) (a := a) (xs := vs)).mono (fun H g => .inl (.inl g.1)) fun _ _ _ _ _ _ y => y
  · obtain ⟨T, u, w, rfl, nT, rfl, eu, ew⟩ := y
    obtain ⟨i', x⟩ := x
    obtain ⟨e1, e2⟩ := enumI_get e
    obtain ⟨w', ew', hw⟩ := g.2.all e2
    simp only at ew
    rw [ew'] at ew
    cases ew
    cases eu
    simp only at e1
    subst e1
    obtain ⟨sm, hp⟩ := isP_new (A := isI) (x := 0 + (i : Int)) (v := .int (i : Nat)) nT ⟨by simp, rfl⟩ hw
    exact ⟨sm, no, hp, fun _ z => z.elim⟩
  · rcases cv b f with c | n
    · obtain ⟨j, D, ej, fj⟩ := noOwn_cov nw c
      exact s.djl (en.lnt ej) fj o
    · exact s.out n o
end
end Rf
/-! Rf6: lending a slot; list comprehensions; the bodies of defs. Own work. -/
namespace Rf
open PySem PySem.Spec L2

section
variable {ι α β γ δ ρ κ S : Type} {X : Cx} {Γ : Cxt} {st : Stmt} {tg iter e : Expr} {pos : Pos}
/-! ### lending -/
theorem Sat.lend {σ : L2.St} {H : Hp} {Fs : Nat → Fp} {j : Nat} {p : Option V} {A : Ass} (s : Sat Γ σ H Fs) (e : Γ[j]? = some (.own p A)) : Sat (Γ.set j (.lnt A)) σ H Fs := by
  have hj := (List.getElem?_eq_some_iff.mp e).1
  obtain ⟨v, ev, h, hp⟩ := s.own j p A e
  refine ⟨by simp [s.len], fun i q B ei => ?_, fun i B ei => ?_, fun i k q B n ei c a f => ?_⟩
  · by_cases hi : i = j
    · subst hi; rw [List.getElem?_set_self hj] at ei; cases ei
    · rw [List.getElem?_set_ne (Ne.symm hi)] at ei; exact s.own i q B ei
  · by_cases hi : i = j
    · subst hi; rw [List.getElem?_set_self hj] at ei; cases ei; exact ⟨v, ev, h⟩
    · rw [List.getElem?_set_ne (Ne.symm hi)] at ei; exact s.lnt i B ei
  · by_cases hi : i = j
    · subst hi; rw [List.getElem?_set_self hj] at ei; cases ei
    · rw [List.getElem?_set_ne (Ne.symm hi)] at ei
      by_cases hk : k = j
      · subst hk; exact s.dj i k q B hi ei (.inl ⟨p, A, e⟩) a f
      · rw [List.getElem?_set_ne (Ne.symm hk)] at c; exact s.dj i k q B n ei c a f
theorem Own.lend {Fs : Nat → Fp} {j : Nat} {A : Ass} {a : Addr} (hj : j < Γ.length) (o : Own (Γ.set j (.lnt A)) Fs a) : Own Γ Fs a := by
  obtain ⟨i, q, B, ei, f⟩ := o
  by_cases hi : i = j
  · subst hi; rw [List.getElem?_set_self hj] at ei; cases ei
  · rw [List.getElem?_set_ne (Ne.symm hi)] at ei; exact ⟨i, q, B, ei, f⟩
/-- .. and taking it back -/
theorem Sat.back {σ σ' : L2.St} {H H' : Hp} {Fs Gs : Nat → Fp} {j : Nat} {p : Option V} {A : Ass} {Δ : Cxt} (s : Sat Γ σ H Fs) (e : Γ[j]? = some (.own p A)) (t : Sat Δ σ' H' Gs) (ed : Δ[j]? = some (.lnt A)) (mv : Mv (Γ.set j (.lnt A)) Fs σ H Δ Gs σ' H') :
    Sat (Δ.set j (.own p A)) σ' H' Gs ∧ Mv Γ Fs σ H (Δ.set j (.own p A)) Gs σ' H' := by
  have hj := (List.getElem?_eq_some_iff.mp e).1
  have hd := (List.getElem?_eq_some_iff.mp ed).1
  obtain ⟨v, ev, h, hp⟩ := s.own j p A e
  obtain ⟨u, eu, hu⟩ := t.lnt j A ed
  obtain ⟨_, f1, f2⟩ := mv.ls j A ed
  rw [eu, ev] at f2
  cases f2
  have others : ∀ k sl, k ≠ j → Δ[k]? = some sl → ((∃ q B, sl = .own q B) ∨ ∃ B, sl = .lnt B) → ∀ a, Gs j a → ¬ Gs k a := fun k sl hk ek c a f g => by
    rcases c with ⟨q, B, rfl⟩ | ⟨B, rfl⟩
    · exact t.dj k j q B hk ek (.inr ⟨A, ed⟩) a g f
    · obtain ⟨⟨C, ec⟩, f3, _⟩ := mv.ls k B ek
      rw [List.getElem?_set_ne (Ne.symm hk)] at ec
      rw [f1] at f
      rw [f3] at g
      exact s.dj j k p A (Ne.symm hk) e (.inr ⟨C, ec⟩) a f g
  refine ⟨⟨by simp [t.len], fun i q B ei => ?_, fun i B ei => ?_, fun i k q B n ei c a f => ?_⟩, ⟨⟨fun a o ea n => mv.st.1 a o ea fun w => n (w.lend hj), fun a o => ?_⟩, fun k B ek => ?_⟩⟩
  · by_cases hi : i = j
    · subst hi; rw [List.getElem?_set_self hd] at ei; cases ei; exact ⟨v, eu, hu, hp⟩
    · rw [List.getElem?_set_ne (Ne.symm hi)] at ei; exact t.own i q B ei
  · by_cases hi : i = j
    · subst hi; rw [List.getElem?_set_self hd] at ei; cases ei
    · rw [List.getElem?_set_ne (Ne.symm hi)] at ei; exact t.lnt i B ei
  · by_cases hi : i = j
    · subst hi
      have hk := Ne.symm n
      rw [List.getElem?_set_ne (Ne.symm hk)] at c
      rcases c with ⟨q', D, c⟩ | ⟨D, c⟩
      · exact others k _ hk c (.inl ⟨q', D, rfl⟩) a f
      · exact others k _ hk c (.inr ⟨D, rfl⟩) a f
    · rw [List.getElem?_set_ne (Ne.symm hi)] at ei
      by_cases hk : k = j
      · subst hk; exact t.dj i k q B hi ei (.inr ⟨A, ed⟩) a f
      · rw [List.getElem?_set_ne (Ne.symm hk)] at c; exact t.dj i k q B n ei c a f
  · obtain ⟨i, q, B, ei, f⟩ := o
    by_cases hi : i = j
    · subst hi
      rw [f1] at f
      exact .inl ⟨i, p, A, e, f⟩
    · rw [List.getElem?_set_ne (Ne.symm hi)] at ei
      exact (mv.st.2 a ⟨i, q, B, ei, f⟩).imp (fun w => w.lend hj) id
  · have hk : k ≠ j := fun z => by subst z; rw [List.getElem?_set_self hd] at ek; cases ek
    rw [List.getElem?_set_ne (Ne.symm hk)] at ek
    obtain ⟨⟨C, ec⟩, r⟩ := mv.ls k B ek
    rw [List.getElem?_set_ne (Ne.symm hk)] at ec
    exact ⟨⟨C, ec⟩, r⟩
theorem sn_lend (j : Nat) {p : Option V} {A : Ass} {m : Option β} {N : β → Cxt} (e : Γ[j]? = some (.own p A)) (h : Sn X (Γ.set j (.lnt A)) st m N) (hN : ∀ b, (N b)[j]? = some (.lnt A)) : Sn X Γ st m (fun b => (N b).set j (.own p A)) := .mk fun σ H Fs s b eb D q =>
  h σ H Fs (s.lend e) b eb D fun σ' H' Fs' t mv => let ⟨a, c⟩ := s.back e t (hN b) mv; q σ' H' Fs' a c
def Fl.ofE {β γ ρ : Type} : Fl β Empty ρ → Fl β γ ρ
  | .nx b => .nx b
  | .rt r => .rt r
theorem sx_lend (j : Nat) {p : Option V} {A : Ass} {m : Option (Fl β Empty ρ)} {N : β → Cxt} {L0 : Empty → Cxt} {L : γ → Cxt} {R : Rt ρ} (e : Γ[j]? = some (.own p A)) (h : Sx X (Γ.set j (.lnt A)) st m N L0 R) (hN : ∀ b, (N b)[j]? = some (.lnt A)) : Sx X Γ st (m.map Fl.ofE) (fun b => (N b).set j (.own p A)) L R := .mk fun σ H Fs s f ef D q => by
  obtain ⟨f0, e0, rfl⟩ := Option.map_eq_some_iff.mp ef
  refine h σ H Fs (s.lend e) f0 e0 D ?_
  cases f0 with
  | bk g => exact nomatch g
  | ct g => exact nomatch g
  | nx b => exact fun σ' H' Fs' t mv => let ⟨a, c⟩ := s.back e t (hN b) mv; q σ' H' Fs' a c
  | rt r => exact fun v σ' H' Fs' T t hr d st => q v σ' H' Fs' T t hr d (st.sub0 fun x o => o.lend (List.getElem?_eq_some_iff.mp e).1)
theorem sx_ofE {m : Option (Fl β Empty ρ)} {N : β → Cxt} {L0 : Empty → Cxt} {L : γ → Cxt} {R : Rt ρ} (h : Sx X Γ st m N L0 R) : Sx X Γ st (m.map Fl.ofE) N L R := .mk fun σ H Fs s f ef D q => by
  obtain ⟨f0, e0, rfl⟩ := Option.map_eq_some_iff.mp ef
  refine h σ H Fs s f0 e0 D ?_
  cases f0 with
  | bk g => exact nomatch g
  | ct g => exact nomatch g
  | nx b => exact q
  | rt r => exact q

/-! ### list comprehensions -/
def wipeC (Γ : Cxt) : List Nat → Cxt
  | [] => Γ
  | v :: vs => (wipeC Γ vs).set v .dead
theorem wipeC_ent (Γ : Cxt) : ∀ vs : List Nat, Ent Γ (wipeC Γ vs)
  | [] => Ent.refl Γ
  | v :: vs => by
    have a := wipeC_ent Γ vs
    have b := ent_dead (wipeC Γ vs) v
    exact Ent.trans a b
where
  Ent.trans : ∀ {Γ Δ Θ : Cxt}, Ent Γ Δ → Ent Δ Θ → Ent Γ Θ
    | _, _, _, .nil, .nil => .nil
    | _, _, _, .same a, .same b => .same (Ent.trans a b)
    | _, _, _, .same a, .dead b => .dead (Ent.trans a b)
    | _, _, _, .dead a, .same b => .dead (Ent.trans a b)
    | _, _, _, .dead a, .dead b => .dead (Ent.trans a b)
theorem wipeC_at {Γ : Cxt} {j : Nat} : ∀ {vs : List Nat}, j ∈ vs → ∀ {sl}, (wipeC Γ vs)[j]? = some sl → sl = .dead
  | v :: vs, h, sl, e => by
    unfold wipeC at e
    by_cases z : v = j
    · subst z
      by_cases l : v < (wipeC Γ vs).length
      · rw [List.getElem?_set_self l] at e; cases e; rfl
      · rw [List.getElem?_eq_none (by simpa using l)] at e; cases e
    · rw [List.getElem?_set_ne z] at e
      exact wipeC_at ((List.mem_cons.mp h).resolve_left (Ne.symm z)) e
theorem wipe_ne {σ : L2.St} {j : Nat} : ∀ {vs : List Nat}, j ∉ vs → (wipe σ vs)[j]? = σ[j]?
  | [], _ => rfl
  | v :: vs, h => by
    unfold wipe
    rw [List.getElem?_set_ne (fun z => h (by simp [z]))]
    exact wipe_ne fun z => h (List.mem_cons_of_mem _ z)
theorem wipe_in {σ : L2.St} {j : Nat} : ∀ {vs : List Nat}, j ∈ vs → j < σ.length → (wipe σ vs)[j]? = some none
  | v :: vs, h, l => by
    unfold wipe
    by_cases z : v = j
    · subst z
      rw [List.getElem?_set_self (by rw [wipe_length]; exact l)]
    · rw [List.getElem?_set_ne z]
      exact wipe_in ((List.mem_cons.mp h).resolve_left (Ne.symm z)) l
theorem wipe_eq {σ τ : L2.St} {vs : List Nat} (l : σ.length = τ.length) (h : ∀ j, j ∉ vs → σ[j]? = τ[j]?) : wipe σ vs = wipe τ vs := by
  apply List.ext_getElem?
  intro j
  by_cases m : j ∈ vs
  · by_cases k : j < σ.length
    · rw [wipe_in m k, wipe_in m (l ▸ k)]
    · rw [List.getElem?_eq_none (by rw [wipe_length]; omega), List.getElem?_eq_none (by rw [wipe_length]; omega)]
  · rw [wipe_ne m, wipe_ne m, h j m]
theorem Sat.wipe {σ : L2.St} {H : Hp} {Fs : Nat → Fp} (s : Sat Γ σ H Fs) (vs : List Nat) : Sat (wipeC Γ vs) (wipe σ vs) H Fs := by
  have en := wipeC_ent Γ vs
  have t := s.ent en
  refine ⟨by rw [wipe_length]; exact t.len, fun i p A e => ?_, fun i A e => ?_, t.dj⟩
  · obtain ⟨v, a, b⟩ := t.own i p A e
    have ni : i ∉ vs := fun m => by cases wipeC_at m e
    exact ⟨v, by rw [wipe_ne ni]; exact a, b⟩
  · obtain ⟨v, a, b⟩ := t.lnt i A e
    have ni : i ∉ vs := fun m => by cases wipeC_at m e
    exact ⟨v, by rw [wipe_ne ni]; exact a, b⟩
def compO (t : ι → Option Bool) (f : ι → Option α) : List ι → Option (List α)
  | [] => some []
  | x :: xs => (t x).bind fun b => if b = true then (f x).bind fun y => (compO t f xs).map (y :: ·) else compO t f xs
def fits (ys : List α) : Option (List α) := if ys.length ≤ sizeLine then some ys else none
/-- the block's contexts -/
def Blk (X : Cx) (scope : Scope) (q : Cx → Prop) : Prop := ∀ (s : Shared) (H : Hp) (C : Addr) (cl : List (Str × Addr)) (fp : List Addr), q (X.blk s H scope (compEnvC scope cl C X.env) fp)
def teB (X : Cx) (scope : Scope) (elt : Expr) : TE := fun σ H Q => Blk X scope fun X' => TEof X' elt σ H Q
def TCof (X : Cx) (ifs : List Expr) : TT := fun σ H Q => ∀ (pins : List (Addr × Obj)) (s : Shared), Inv X pins σ H s →
  wpAny (model X.prog X.w) X.A (forIn ifs true fun c r => if r = true then do let ok ← isTrue c X.env (eval c X.env); pure (ForInStep.yield ok) else pure (ForInStep.yield r)) (TP X pins σ Q) X.xe s
theorem pts_of (X : Cx) (ifs : List Expr) : PTs X ifs (TCof X ifs) := ⟨fun pins s σ H Q I h => h pins s I⟩
theorem TCof.of {X : Cx} {ifs : List Expr} {t : TT} {σ : L2.St} {H : Hp} {Q : Bool → Hp → Prop} (h : PTs X ifs t) (q : t σ H Q) : TCof X ifs σ H Q := fun pins s I => h.run pins s σ H Q I q
def ttB (X : Cx) (scope : Scope) (ifs : List Expr) : TT := fun σ H Q => Blk X scope fun X' => TCof X' ifs σ H Q
/-- the tests of a comprehension -/
abbrev Tc (X : Cx) (Γ : Cxt) (ifs : List Expr) (p : Option Bool) : Prop := Hold (
  ∀ σ H Fs, Sat Γ σ H Fs → ∀ b, p = some b → ∀ Q : Bool → Hp → Prop, (∀ H', Same H H' → Q b H') → TCof X ifs σ H Q)
theorem tc_nil : Tc X Γ [] (some true) := .mk fun σ H Fs s b e Q q => by
  cases e
  exact TCof.of pts_nil (q H (Same.refl H))
theorem tc_one {c : Expr} {p : Option Bool} (h : Te X Γ c p) : Tc X Γ [c] p := .mk fun σ H Fs s b e Q q => TCof.of (pts_one (pt_of X c)) (h σ H Fs s b e Q q)
theorem compO_step {t : ι → Option Bool} {f : ι → Option α} {xs : List ι} {i : Nat} {zs : List α} (h : compO t f (xs.drop i) = some zs) (hi : i < xs.length) :
    (t xs[i] = some false ∧ compO t f (xs.drop (i + 1)) = some zs) ∨ ∃ y ys, t xs[i] = some true ∧ f xs[i] = some y ∧ compO t f (xs.drop (i + 1)) = some ys ∧ zs = y :: ys := by
  rw [List.drop_eq_getElem_cons hi] at h
  unfold compO at h
  obtain ⟨b, e1, e2⟩ := Option.bind_eq_some_iff.mp h
  cases b with
  | false => exact .inl ⟨e1, by simpa using e2⟩
  | true =>
    simp only [if_true] at e2
    obtain ⟨y, e3, e4⟩ := Option.bind_eq_some_iff.mp e2
    obtain ⟨ys, e5, rfl⟩ := Option.map_eq_some_iff.mp e4
    exact .inr ⟨y, ys, e1, e3, e5, rfl⟩
/-- a new object does not touch what stood -/
theorem upd_keep {F : Fp} {H : Hp} {D : Addr} {o : HO} {u : HO} (h : H D = some u) (m : Mut (some u)) (n : ¬ F D) : Keep F H (upd H D o) := fun a x e c => by
  have ha : a ≠ D := fun z => by
    subst z
    rw [h] at e; cases e
    rcases c with c | c
    · exact n c
    · exact c m
  rw [upd_ne ha]; exact e
theorem lc_sem {g : TG} {A : α → Ass} {B : ι → Ass} {is vs : List Nat} {N : Cxt → ι → Cxt} {p : Option (List ι)} {t : ι → Option Bool} {f : ι → Option α} {ifs : List Expr} {elt : Expr} {scope : Scope}
    (hw : Wa X Γ tg iter p B) (ht : TgS g B is N) (hi : ∀ i ∈ is, i ∈ vs) (hv : ∀ i ∈ vs, i < Γ.length)
    (htt : ∀ x, Blk X scope fun X' => Tc X' (N (wipeC Γ vs) x) ifs (t x)) (he : ∀ x, Blk X scope fun X' => Pu X' (N (wipeC Γ vs) x) elt (f x) A)
    {σ : L2.St} {H : Hp} {Fs : Nat → Fp} (s : Sat Γ σ H Fs) {zs : List α} (ez : (p.bind fun xs => (compO t f xs).bind fits) = some zs) {Q : VK} (q : ∀ v H' F, Same H H' → (isL A zs).h v H' F → (∀ x, F x → H x = none) → Q v H') :
    tLc (TIof X tg iter) g (ttB X scope ifs) (teB X scope elt) vs σ H Q := by
  obtain ⟨xs, e1, e0⟩ := Option.bind_eq_some_iff.mp ez
  obtain ⟨zs', e2, e3⟩ := Option.bind_eq_some_iff.mp e0
  unfold fits at e3
  split at e3
  · rename_i hz
    cases e3
    refine hw σ H Fs s xs e1 _ fun J H1 L sm ⟨G', Y, W, hG, keep, lt, items⟩ dl D nD => ?_
    have s1 := s.same sm
    have sD : Same H1 (upd H1 D (.lst [])) := fun b o e => by rw [upd_ne (ne_of_none e nD)]; exact e
    have hLD : ¬ L D := fun l => by
      obtain ⟨o, e⟩ := mut_some (lt D l)
      rw [nD] at e; cases e
    refine lc_it W (fun i H' => ∃ ys ws vs' G, compO t f (xs.drop i) = some ws ∧ zs = ys ++ ws ∧ Same H1 H' ∧ H' D = some (.lst vs') ∧ AllF A H' ys vs' G ∧ (∀ x, G x → H1 x = none) ∧ ¬ G D ∧ G' H') ⟨[], zs, [], no, by simpa using e2, rfl, sD, upd_same, rfl, fun _ z => z.elim, fun z => z, keep _ _ hG (Same.keep sD _)⟩ (fun i H' _ ⟨_, _, _, _, _, _, _, _, _, _, _, g⟩ => g) ?_ ?_
    · rintro i v H2 H2' hi' ⟨ys, ws, vs', G, ew, rfl, sm2, eD, hA, fr, nG, g2⟩ hy
      obtain ⟨sm3, F, hvB, hF⟩ := items i _ v H2 H2' (List.getElem?_eq_getElem hi') g2 hy
      have sW : Sat (wipeC Γ vs) (wipe σ vs) H2' Fs := ((s1.same sm2).same sm3).wipe vs
      have hl : ∀ i ∈ is, i < (wipeC Γ vs).length := fun i m => by
        rw [← (wipeC_ent Γ vs).len]
        exact hv i (hi i m)
      refine ht (wipeC Γ vs) xs[i] v _ H2' Fs F hl sW hvB (fun y f o => dl y (hF y f) (o.ent (wipeC_ent Γ vs))) _ fun σ3 F3 s3 o3 k3 => ?_
      have sm13 := sm2.trans sm3
      refine ⟨?_, ?_⟩
      · have l3 : σ3.length = (wipe σ vs).length := k3.1
        refine (wipe_eq l3 fun j hj => (k3.2 j fun m => hj (hi j m)).2.1).trans ?_
        exact wipe_eq (wipe_length σ vs) fun j hj => wipe_ne hj
      · have hD3 : H2' D = some (.lst vs') := sm3 _ _ eD
        have nlD : ¬ L D := hLD
        rcases compO_step ew hi' with ⟨et, er⟩ | ⟨y, ys', et, ey, er, rfl⟩
        · intro s0 H0 C cl fp
          refine htt xs[i] s0 H0 C cl fp σ3 H2' F3 s3 false et _ fun H4 sm4 => ?_
          exact ⟨ys, ws, vs', G, er, rfl, sm13.trans sm4, sm4 _ _ hD3, (hA.stb (Same.keep sm3 _)).stb (Same.keep sm4 _), fr, nG, keep _ _ (keep _ _ g2 (Same.keep sm3 _)) (Same.keep sm4 _)⟩
        · intro s0 H0 C cl fp
          refine htt xs[i] s0 H0 C cl fp σ3 H2' F3 s3 true et _ fun H4 sm4 => ?_
          intro s0 H0 C cl fp
          refine he xs[i] s0 H0 C cl fp σ3 H4 F3 (s3.same sm4) y ey _ fun w H5 U sm5 hw5 fr5 => ?_
          have hD5 : H5 D = some (.lst vs') := sm5 _ _ (sm4 _ _ hD3)
          have hA5 := ((hA.stb (Same.keep sm3 _)).stb (Same.keep sm4 _)).stb (Same.keep sm5 G)
          have len := hA.length
          have nUD : ¬ U D := fun u => by
            have := fr5 D u
            rw [sm4 _ _ hD3] at this; cases this
          have dj : ∀ a, G a → ¬ U a := fun a g u => by
            have m := (hA.stb (Same.keep sm3 _)).stb (Same.keep sm4 G) |>.trk g
            rw [fr5 a u] at m; exact m
          refine ⟨vs', hD5, ?_, ys ++ [y], ys', vs' ++ [w], un G U, er, by simp, fun b o e => ?_, upd_same, ?_, fun x f => ?_, fun f => f.elim nG nUD, ?_⟩
          · have : (ys ++ y :: ys').length ≤ sizeLine := hz
            simp at this
            omega
          · rw [upd_ne (ne_of_none e nD)]
            exact sm5 _ _ (sm4 _ _ (sm13 _ _ e))
          · have kp : ∀ V : Fp, ¬ V D → Keep V H5 (upd H5 D (.lst (vs' ++ [w]))) := fun V n => upd_keep hD5 trivial n
            exact (hA5.stb (kp G nG)).append (AllF.one ((A y).stb hw5 (kp U nUD))) dj
          · rcases f with f | f
            · exact fr x f
            · exact (sm13.trans sm4).free (fr5 x f)
          · have g5 : G' H5 := keep _ _ (keep _ _ (keep _ _ g2 (Same.keep sm3 _)) (Same.keep sm4 _)) (Same.keep sm5 _)
            exact keep _ _ g5 (upd_keep hD5 trivial nlD)
    · rintro H2 ⟨ys, ws, vs', G, ew, rfl, sm2, eD, hA, fr, nG, _⟩
      rw [List.drop_length] at ew
      cases ew
      rw [List.append_nil] at q
      refine q (.ref D) H2 _ (sm.trans sm2) ⟨D, vs', G, rfl, eD, hA, nG, rfl⟩ fun x f => ?_
      rcases f with rfl | f
      · exact sm.free nD
      · exact sm.free (fr x f)
  · cases e3
theorem blk_pe {scope : Scope} {elt : Expr} : Blk X scope fun X' => PE X' elt (teB X scope elt) := fun s0 H0 C cl fp => ⟨fun pins s σ H Q I h => h s0 H0 C cl fp pins s I⟩
theorem blk_pts {scope : Scope} {ifs : List Expr} : Blk X scope fun X' => PTs X' ifs (ttB X scope ifs) := fun s0 H0 C cl fp => ⟨fun pins s σ H Q I h => h s0 H0 C cl fp pins s I⟩
/-- [elt for tg in iter if ..]: own is the block's own names with their slots -/
theorem pu_lc {g : TG} {A : α → Ass} {B : ι → Ass} {is : List Nat} {N : Cxt → ι → Cxt} {p : Option (List ι)} {t : ι → Option Bool} {f : ι → Option α} {ifs : List Expr} {elt : Expr} {scope : Scope} {own : List (Str × Nat)}
    (hc : X.calm = true) (hN : X.N.Nodup) (hw : Wa X Γ tg iter p B) (ok : BlkOk X.N X.env.scope scope own) (hg : Blk X scope fun X' => PG X' tg g) (ht : TgS g B is N) (hi : ∀ i ∈ is, i ∈ own.map (·.2)) (hv : ∀ i ∈ own.map (·.2), i < Γ.length)
    (htt : ∀ x, Blk X scope fun X' => Tc X' (N (wipeC Γ (own.map (·.2))) x) ifs (t x)) (he : ∀ x, Blk X scope fun X' => Pu X' (N (wipeC Γ (own.map (·.2))) x) elt (f x) A) (hs : ∀ x, foldedSetIterable iter X.env x = pure x := by intro _; rfl) :
    Pu X Γ (.ListComp elt [⟨tg, iter, ifs, 0⟩] scope pos) (p.bind fun xs => (compO t f xs).bind fits) (isL A) := .mk fun σ H Fs s zs ez Q q =>
  TEof.of (pe_lc hc hN (pi_of X tg iter) ok hg blk_pts blk_pe hs) (lc_sem hw ht hi hv htt he s ez q)
/-- y = [..], y a local of the def -/
theorem sn_setLc (i : Nat) {g : TG} {A : α → Ass} {B : ι → Ass} {is : List Nat} {N : Cxt → ι → Cxt} {p : Option (List ι)} {t : ι → Option Bool} {f : ι → Option α} {ifs : List Expr} {elt : Expr} {scope : Scope} {own : List (Str × Nat)} {y : Str} {py spos : Pos}
    (hc : X.calm = true) (hN : X.N.Nodup) (hw : Wa X Γ tg iter p B) (ok : BlkOk X.N X.env.scope scope own) (hg : Blk X scope fun X' => PG X' tg g) (ht : TgS g B is N) (hi : ∀ i ∈ is, i ∈ own.map (·.2)) (hv : ∀ i ∈ own.map (·.2), i < Γ.length)
    (htt : ∀ x, Blk X scope fun X' => Tc X' (N (wipeC Γ (own.map (·.2))) x) ifs (t x)) (he : ∀ x, Blk X scope fun X' => Pu X' (N (wipeC Γ (own.map (·.2))) x) elt (f x) A)
    (hiy : i < Γ.length) (hy : X.N[i]? = some y) (hyl : X.env.scope.names.lookup y = some .local) (hsw : swapsWith (.ListComp elt [⟨tg, iter, ifs, 0⟩] scope pos) (some (.Name y py)) spos.line X.env = pure true) (hs : ∀ x, foldedSetIterable iter X.env x = pure x := by intro _; rfl) :
    Sn X Γ (.Assign [.Name y py] (.ListComp elt [⟨tg, iter, ifs, 0⟩] scope pos) spos) (p.bind fun xs => (compO t f xs).bind fits) (fun zs => Γ.set i (.own none (isL A zs))) := .mk fun σ H Fs s zs ez D q => by
  refine TSof.of (ps_setLc (i := i) hc hN hy hyl hsw (pi_of X tg iter) ok hg blk_pts blk_pe hs) ?_
  show tLc _ g _ _ _ σ H fun x H1 => D.nx (σ.set i (some x)) H1
  refine lc_sem hw ht hi hv htt he s ez fun v H1 F s1 h1 fr => ?_
  refine q _ H1 (setF Fs i F) ((s.same s1).set hiy h1 (s.apart fr).1 (s.apart fr).2) ⟨Step.same s1 fun b o => ?_, fun j B ej => ?_⟩
  · rcases Own.set hiy o with f | o
    · exact .inr (fr b f)
    · exact .inl o
  · have hj : j ≠ i := fun z => by
      subst z
      rw [List.getElem?_set_self hiy] at ej
      cases ej
    rw [List.getElem?_set_ne (Ne.symm hj)] at ej
    exact ⟨⟨B, ej⟩, setF_ne hj, List.getElem?_set_ne (Ne.symm hj)⟩

/-! ### the body of a def -/
def Fl.ret {β γ ρ : Type} : Fl β γ ρ → Option ρ
  | .rt r => some r
  | _ => none
def deads (n : Nat) : Cxt := List.replicate n .dead
theorem args_at : ∀ {l : List Ass} {vs : List V} {H : Hp} {F : Fp}, (argsL l).h vs H F → ∃ Fs : Nat → Fp, ∀ i A, l[i]? = some A → ∃ v, vs[i]? = some v ∧ A.h v H (Fs i) ∧ ∀ x, Fs i x → F x
  | [], _, _, _, _ => ⟨fun _ => no, fun i A e => by simp at e⟩
  | B :: l, vs, H, F, ⟨v, r, F1, F2, e, h1, h2, ef⟩ => by
    obtain ⟨Fs, hF⟩ := args_at (l := l) h2
    refine ⟨fun i => match i with | 0 => F1 | i + 1 => Fs i, fun i A ei => ?_⟩
    subst e ef
    cases i with
    | zero =>
      simp at ei; subst ei
      exact ⟨v, rfl, h1, fun x f => .inl f⟩
    | succ i =>
      obtain ⟨u, a, b, c⟩ := hF i A (by simpa using ei)
      exact ⟨u, by simpa using a, b, fun x f => .inr (c x f)⟩
theorem start_get {N : List Str} {vs : List V} {i : Nat} {v : V} (h : vs[i]? = some v) : (start N vs)[i]? = some (some v) := by
  unfold L2.start
  have l := (List.getElem?_eq_some_iff.mp h).1
  rw [List.getElem?_append_left (by simpa using l), List.getElem?_map, h]
  rfl
theorem start_len {N : List Str} {vs : List V} (h : vs.length ≤ N.length) : (start N vs).length = N.length := by
  unfold L2.start
  simp
  omega
theorem ctx_get {l : List Ass} {d i : Nat} {sl : Sl} (h : (l.map Sl.lnt ++ deads d)[i]? = some sl) (n : sl ≠ .dead) : ∃ A, l[i]? = some A ∧ sl = .lnt A := by
  by_cases k : i < l.length
  · rw [List.getElem?_append_left (by simpa using k), List.getElem?_map] at h
    obtain ⟨A, e, rfl⟩ := Option.map_eq_some_iff.mp h
    exact ⟨A, e, rfl⟩
  · rw [List.getElem?_append_right (by simpa using Nat.le_of_not_lt k)] at h
    unfold deads at h
    rw [List.getElem?_replicate] at h
    split at h
    · cases h; exact absurd rfl n
    · cases h
theorem sat_start {N : List Str} {l : List Ass} {vs : List V} {H : Hp} {F : Fp} (h : (argsL l).h vs H F) (hn : l.length ≤ N.length) : ∃ Fs, Sat (l.map Sl.lnt ++ deads (N.length - l.length)) (start N vs) H Fs := by
  obtain ⟨Fs, hF⟩ := args_at h
  have lv := argsL_len h
  refine ⟨Fs, ?_, fun i p A e => ?_, fun i A e => ?_, fun i j p A _ e => ?_⟩
  · rw [start_len (by omega)]
    simp [deads]
    omega
  · obtain ⟨B, _, z⟩ := ctx_get e (by intro z; cases z)
    cases z
  · obtain ⟨B, eB, z⟩ := ctx_get e (by intro z; cases z)
    cases z
    obtain ⟨v, a, b, _⟩ := hF i A eB
    exact ⟨v, start_get a, b⟩
  · obtain ⟨B, _, z⟩ := ctx_get e (by intro z; cases z)
    cases z
variable {P : Program} {w : World} {K : PySem.W.Frag} {mg : Str → Option Value} {base : Heap}
theorem FSpec.len {As : α → List Ass} {m : α → Option ρ} {R : ρ → Ass} {n : Nat} {ps : List Str} (hn : ps.length = n) (hl : ∀ a, (As a).length = n) : ∀ vs H Q E, FSpec As m R vs H Q E → vs.length = ps.length := fun vs H Q E ⟨a, F, r, h, _⟩ => by
  rw [argsL_len h, hl, hn]
/-- a pure def -/
theorem fo_pure {nm qual : Str} {st : Stmt} {f : Addr} {fd : FuncData} {N ps : List Str} {k n : Nat} (F : Fun K nm qual st f fd) (Sc : FnScope N ps (defScope st)) (hb : Binds K fd ps []) (hm : mg nm = some (.ref f)) (hn : ps.length = n) (hN : n ≤ N.length)
    {As : α → List Ass} (hl : ∀ a, (As a).length = n) {m : α → Option (Fl Unit Empty ρ)} {R : ρ → Ass} {L : Empty → Cxt}
    (body : ∀ (cdv : Value) (A : Around) (outer : List Env) (s : Shared) (H : Hp) (E : XK), Room k (A.deeper (PyProof.Rows.envOfC qual (defScope st) s.heap.objs.size f cdv)) → ∀ a,
      Bx (cxOf CX0 P w K mg base N qual (defScope st) f cdv A outer s H E).nox ((As a).map Sl.lnt ++ deads (N.length - n)) (defBody st) (m a) (fun _ => deads N.length) L ⟨R, fun _ => deads N.length⟩) :
    Fo P w K mg base (k + 1) nm ps (FSpec As (fun a => (m a).bind Fl.ret) R) := by
  refine ⟨f, fd, ?_, hm, F.kp, hb, let ⟨oc, od, kV, doc, pm, an, cdv, ct, osl, _, lk, _⟩ := F.ex; ⟨oc, od, osl, lk⟩⟩
  refine F.ok Sc (FSpec.len hn hl) fun cdv A outer s H vs Q E hr ⟨a, F0, r, h, er, q⟩ => ?_
  obtain ⟨fl, e1, e2⟩ := Option.bind_eq_some_iff.mp er
  refine ⟨_, pss_of _ (defBody st), ?_⟩
  obtain ⟨Fs, s0⟩ := sat_start (N := N) h (by rw [hl]; exact hN)
  rw [hl] at s0
  refine body cdv A outer s H E hr a _ H Fs s0 fl e1 _ ?_
  cases fl with
  | nx b => cases e2
  | bk g => exact nomatch g
  | ct g => exact nomatch g
  | rt r' =>
    cases e2
    intro v σ' H' Fs' T _ hv _ st
    have nO : ∀ x, ¬ Own ((As a).map Sl.lnt ++ deads (N.length - n)) Fs x := fun x ⟨i, p, A, e, _⟩ => by
      obtain ⟨B, _, z⟩ := ctx_get e (by intro z; cases z)
      cases z
    exact q v H' T (fun b o e => st.1 b o e (nO b)) hv fun x t => (st.2 x (.inl t)).resolve_left (nO x)
theorem MSpec.len {C : κ → Ass} {As : α → List Ass} {m : κ → α → Option (ρ × κ)} {R : ρ → Ass} {n : Nat} {ps : List Str} (hn : ps.length = n) (hl : ∀ a, (As a).length + 1 = n) : ∀ vs H Q E, MSpec C As m R vs H Q E → vs.length = ps.length := fun vs H Q E ⟨v0, vr, c, a, F, G, r, c', e, _, h, _⟩ => by
  rw [e, hn, ← hl a, List.length_cons, argsL_len h]
/-- a def whose first argument may be changed -/
theorem fo_mut {nm qual : Str} {st : Stmt} {f : Addr} {fd : FuncData} {N ps : List Str} {k n : Nat} (F : Fun K nm qual st f fd) (Sc : FnScope N ps (defScope st)) (hb : Binds K fd ps []) (hm : mg nm = some (.ref f)) (hn : ps.length = n) (hN : n ≤ N.length)
    {C : κ → Ass} {As : α → List Ass} (hl : ∀ a, (As a).length + 1 = n) {m : κ → α → Option (Fl Unit Empty (ρ × κ))} {R : ρ → Ass} {L : Empty → Cxt}
    (body : ∀ (cdv : Value) (A : Around) (outer : List Env) (s : Shared) (H : Hp) (E : XK), Room k (A.deeper (PyProof.Rows.envOfC qual (defScope st) s.heap.objs.size f cdv)) → ∀ v0 c a,
      Bx (cxOf CX0 P w K mg base N qual (defScope st) f cdv A outer s H E).nox (.own (some v0) (C c) :: ((As a).map Sl.lnt ++ deads (N.length - n))) (defBody st) (m c a) (fun _ => deads N.length) L ⟨fun r => R r.1, fun r => .own (some v0) (C r.2) :: deads (N.length - 1)⟩) :
    Fo P w K mg base (k + 1) nm ps (MSpec C As (fun c a => (m c a).bind Fl.ret) R) := by
  refine ⟨f, fd, ?_, hm, F.kp, hb, let ⟨oc, od, kV, doc, pm, an, cdv, ct, osl, _, lk, _⟩ := F.ex; ⟨oc, od, osl, lk⟩⟩
  refine F.ok Sc (MSpec.len hn hl) fun cdv A outer s H vs Q E hr ⟨v0, vr, c, a, F0, G0, r, c', ev, h0, h, dj, er, q⟩ => ?_
  obtain ⟨fl, e1, e2⟩ := Option.bind_eq_some_iff.mp er
  refine ⟨_, pss_of _ (defBody st), ?_⟩
  have h0' : 1 ≤ n := by have := hl a; omega
  obtain ⟨Fs, hF⟩ := args_at h
  have lv := argsL_len h
  have la := hl a
  let Gs : Nat → Fp := fun i => match i with | 0 => F0 | i + 1 => Fs i
  have s0 : Sat (.own (some v0) (C c) :: ((As a).map Sl.lnt ++ deads (N.length - n))) (start N vs) H Gs := by
    subst ev
    refine ⟨?_, fun i p A e => ?_, fun i A e => ?_, fun i j p A nij e k => ?_⟩
    · rw [start_len (by simp; omega)]
      simp [deads]
      omega
    · cases i with
      | zero =>
        simp at e
        obtain ⟨rfl, rfl⟩ := e
        exact ⟨v0, start_get rfl, h0, fun u z => Option.some.inj z⟩
      | succ i =>
        obtain ⟨B, _, z⟩ := ctx_get (i := i) (by simpa using e) (by intro z; cases z)
        cases z
    · cases i with
      | zero => simp at e
      | succ i =>
        obtain ⟨B, eB, z⟩ := ctx_get (i := i) (by simpa using e) (by intro z; cases z)
        cases z
        obtain ⟨v, a1, b, _⟩ := hF i A eB
        exact ⟨v, start_get (by simpa using a1), b⟩
    · cases i with
      | succ i =>
        obtain ⟨B, _, z⟩ := ctx_get (i := i) (by simpa using e) (by intro z; cases z)
        cases z
      | zero =>
        cases j with
        | zero => exact absurd rfl nij
        | succ j =>
          rcases k with ⟨q', B, k⟩ | ⟨B, k⟩
          · obtain ⟨D, _, z⟩ := ctx_get (i := j) (by simpa using k) (by intro z; cases z)
            cases z
          · obtain ⟨D, eD, z⟩ := ctx_get (i := j) (by simpa using k) (by intro z; cases z)
            obtain ⟨v, _, _, sub⟩ := hF j D eD
            exact fun x f g => dj x f (sub x g)
  have own0 : ∀ x, Own (.own (some v0) (C c) :: ((As a).map Sl.lnt ++ deads (N.length - n))) Gs x → F0 x := fun x ⟨i, p, A, e, f⟩ => by
    cases i with
    | zero => exact f
    | succ i =>
      obtain ⟨B, _, z⟩ := ctx_get (i := i) (by simpa using e) (by intro z; cases z)
      cases z
  refine body cdv A outer s H E hr v0 c a _ H Gs s0 fl e1 _ ?_
  cases fl with
  | nx b => cases e2
  | bk g => exact nomatch g
  | ct g => exact nomatch g
  | rt r' =>
    cases e2
    intro v σ' H' Fs' T s' hv dT st
    obtain ⟨u, eu, hu, hp⟩ := s'.own 0 (some v0) (C c') rfl
    have := hp v0 rfl
    subst this
    have own1 : ∀ x, Fs' 0 x → Own (Sl.own (some u) (C c') :: deads (N.length - 1)) Fs' x := fun x f => ⟨0, _, _, rfl, f⟩
    refine q v H' (Fs' 0) T hu hv (fun x t f => dT x t (own1 x f)) ?_
    exact ⟨fun b o e n => st.1 b o e fun ow => n (own0 b ow), fun x t => (st.2 x (t.imp id (own1 x))).imp (own0 x) id⟩
end
end Rf
/-! Rf7: operators and built-ins by their values. Own work. -/
namespace Rf
open PySem PySem.Spec L2

/-! ### ints -/
instance {i j : Int} : Decidable (CDiv i j) := inferInstanceAs (Decidable (_ ∧ _))
instance {i j : Int} : Decidable (CDivN i j) := inferInstanceAs (Decidable (_ ∧ _))
instance {i j : Int} : Decidable (CPow i j) := inferInstanceAs (Decidable (_ ∧ _ ∧ _))
instance {i j : Int} : Decidable (CMul i j) := inferInstanceAs (Decidable (_ ∨ _))
instance {i j : Int} : Decidable (CMulW i j) := inferInstanceAs (Decidable (_ < _))
theorem o_int0 {g : Int → Int → Int} : Op2 (rI0 fun i j => .int (g i j)) isI isI isI (fun i j => some (g i j)) := by
  intro x y v u H F G z hx hy e Q k
  cases e
  exact ⟨x, y, hx.1, hy.1, k _ H no (Same.refl H) ⟨rfl, rfl⟩ fun _ z => z.elim⟩
theorem o_intB {g : Int → Int → Bool} : Op2 (rI0 fun i j => .bl (g i j)) isI isI isB (fun i j => some (g i j)) := by
  intro x y v u H F G z hx hy e Q k
  cases e
  exact ⟨x, y, hx.1, hy.1, k _ H no (Same.refl H) ⟨rfl, rfl⟩ fun _ z => z.elim⟩
theorem o_intC {C : Int → Int → Prop} [d : ∀ i j, Decidable (C i j)] {g : Int → Int → Int} : Op2 (rI C fun i j => .int (g i j)) isI isI isI (fun i j => if C i j then some (g i j) else none) := by
  intro x y v u H F G z hx hy e Q k
  dsimp only at e
  by_cases c : C x y
  · rw [if_pos c] at e
    cases e
    exact ⟨x, y, hx.1, hy.1, c, k _ H no (Same.refl H) ⟨rfl, rfl⟩ fun _ z => z.elim⟩
  · rw [if_neg c] at e; cases e
def pmod (i j : Int) : Option Int := if 0 < j then some (i % j) else none
def pdiv (i j : Int) : Option Int := if CDiv i j then some (i / j) else none
def pmul (i j : Int) : Option Int := if CMul i j then some (i * j) else none
def pmulW (i j : Int) : Option Int := if CMulW i j then some (i * j) else none
def ppow (i j : Int) : Option Int := if CPow i j then some (i ^ j.toNat) else none
theorem o_mod : Op2 (rI (fun _ j => 0 < j) fun i j => .int (i % j)) isI isI isI pmod := by
  intro x y v u H F G z hx hy e Q k
  exact o_intC (C := fun _ j => 0 < j) (g := fun i j => i % j) hx hy e Q k
theorem o_div : Op2 (rI CDiv fun i j => .int (i / j)) isI isI isI pdiv := by
  intro x y v u H F G z hx hy e Q k
  exact o_intC (C := CDiv) (g := fun i j => i / j) hx hy e Q k
theorem o_mul : Op2 (rI CMul fun i j => .int (i * j)) isI isI isI pmul := by
  intro x y v u H F G z hx hy e Q k
  exact o_intC (C := CMul) (g := fun i j => i * j) hx hy e Q k
theorem o_mulW : Op2 (rI CMulW fun i j => .int (i * j)) isI isI isI pmulW := by
  intro x y v u H F G z hx hy e Q k
  exact o_intC (C := CMulW) (g := fun i j => i * j) hx hy e Q k
theorem o_pow : Op2 (rI CPow fun i j => .int (i ^ j.toNat)) isI isI isI ppow := by
  intro x y v u H F G z hx hy e Q k
  exact o_intC (C := CPow) (g := fun i j => i ^ j.toNat) hx hy e Q k
theorem o_neg : Op1 (rU fun i => .int (-i)) isI isI (fun i => some (-i)) := by
  intro x v H F z hx e Q k
  cases e
  exact ⟨x, hx.1, k _ H no (Same.refl H) ⟨rfl, rfl⟩ fun _ z => z.elim⟩
/-! ### equality of scalars -/
theorem o_eqI : Op2 rEq isI isI isB (fun i j => some (decide (i = j))) := by
  intro x y v u H F G z hx hy e Q k
  cases e
  rw [show v = .int x from hx.1, show u = .int y from hy.1]
  refine ⟨rfl, ?_⟩
  refine k _ H no (Same.refl H) ⟨?_, rfl⟩ fun _ z => z.elim
  congr 1
  simp
theorem o_neI : Op2 rNe isI isI isB (fun i j => some (decide (i ≠ j))) := by
  intro x y v u H F G z hx hy e Q k
  cases e
  rw [show v = .int x from hx.1, show u = .int y from hy.1]
  refine ⟨rfl, ?_⟩
  refine k _ H no (Same.refl H) ⟨?_, rfl⟩ fun _ z => z.elim
  congr 1
  simp
theorem o_eqS : Op2 rEq isS isS isB (fun i j => some (decide (i = j))) := by
  intro x y v u H F G z hx hy e Q k
  cases e
  rw [show v = .str x from hx.1, show u = .str y from hy.1]
  refine ⟨rfl, ?_⟩
  refine k _ H no (Same.refl H) ⟨?_, rfl⟩ fun _ z => z.elim
  congr 1
  simp
theorem o_neS : Op2 rNe isS isS isB (fun i j => some (decide (i ≠ j))) := by
  intro x y v u H F G z hx hy e Q k
  cases e
  rw [show v = .str x from hx.1, show u = .str y from hy.1]
  refine ⟨rfl, ?_⟩
  refine k _ H no (Same.refl H) ⟨?_, rfl⟩ fun _ z => z.elim
  congr 1
  simp
/-! ### texts -/
def scat (x y : Str) : Option Str := if x.length + y.length ≤ sizeLine then some (x ++ y) else none
theorem o_addS : Op2 (fun x y H Q => ∃ i j, x = .str i ∧ y = .str j ∧ i.length + j.length ≤ sizeLine ∧ Q (.str (i ++ j)) H) isS isS isS scat := by
  intro x y v u H F G z hx hy e Q k
  unfold scat at e
  split at e
  · rename_i c
    cases e
    exact ⟨x, y, hx.1, hy.1, c, k _ H no (Same.refl H) ⟨rfl, rfl⟩ fun _ z => z.elim⟩
  · cases e
def slt (x y : Str) : Bool := decide (x.cps.toList < y.cps.toList)
theorem o_ltS : Op2 (fun x y H Q => ∃ i j, x = .str i ∧ y = .str j ∧ Q (.bl (decide (i.cps.toList < j.cps.toList))) H) isS isS isB (fun x y => some (slt x y)) := by
  intro x y v u H F G z hx hy e Q k
  cases e
  exact ⟨x, y, hx.1, hy.1, k _ H no (Same.refl H) ⟨rfl, rfl⟩ fun _ z => z.elim⟩

/-! ### items -/
section
variable {α β γ : Type} {A : α → Ass} {B : β → Ass}
theorem atI_map {f : α → β} {xs : List α} {i : Int} : atI (xs.map f) i = (atI xs i).map f := by
  unfold atI
  rw [List.length_map]
  cases ixN xs.length i with
  | none => rfl
  | some j => simp
theorem AllF.atI {H : Hp} {xs : List α} {vs : List V} {F : Fp} {i : Int} {x : α} (h : AllF A H xs vs F) (e : atI xs i = some x) : ∃ v G, L2.atI vs i = some v ∧ (A x).h v H G ∧ ∀ a, G a → F a := by
  unfold L2.atI at e ⊢
  rw [h.length] at e
  obtain ⟨j, e1, e2⟩ := Option.bind_eq_some_iff.mp e
  obtain ⟨v, G, a, b, c⟩ := h.get e2
  exact ⟨v, G, Option.bind_eq_some_iff.mpr ⟨j, e1, a⟩, b, c⟩
theorem o_ixT {K : PySem.W.Frag} : Op2A (rIxT K) (isT A) isI A (fun xs i => atI xs i) := by
  intro x y v u H F G z ⟨a, vs, ev, r, h⟩ hy e Q k
  obtain ⟨w, G', e1, h1, sub⟩ := h.atI e
  exact ⟨a, vs, y, w, ev, hy.1, .inl (.inl r), e1, k w H G' (Same.refl H) h1 fun b t => .inl (sub b t)⟩
theorem o_ixL {K : PySem.W.Frag} : Op2A (rIxL K) (isL A) isI A (fun xs i => atI xs i) := by
  intro x y v u H F G z ⟨a, vs, G0, ev, r, h, _, eF⟩ hy e Q k
  obtain ⟨w, G', e1, h1, sub⟩ := h.atI e
  subst eF
  exact ⟨a, vs, y, w, ev, hy.1, .inl (.inl r), e1, k w H G' (Same.refl H) h1 fun b t => .inl (.inr (sub b t))⟩
def sat (x : Str) (i : Int) : Option Str := if x.length ≤ sizeLine then (atI x.cps.toList i).map fun c => ⟨#[c]⟩ else none
theorem o_ixS : Op2A rIxS isS isI isS sat := by
  intro x y v u H F G z hx hy e Q k
  unfold sat at e
  split at e
  · rename_i c
    obtain ⟨d, e1, rfl⟩ := Option.map_eq_some_iff.mp e
    exact ⟨x, y, d, hx.1, hy.1, c, e1, k _ H no (Same.refl H) ⟨rfl, rfl⟩ fun _ z => z.elim⟩
  · cases e

/-! ### built-ins of one argument -/
def Cl1 (r : List V → Hp → VK → Prop) (A : α → Ass) (C : γ → Ass) (f : α → Option γ) : Prop :=
  ∀ {x v H F z}, (A x).h v H F → f x = some z → ∀ Q : VK, (∀ w H' T, Same H H' → (C z).h w H' T → (∀ b, T b → H b = none) → Q w H') → r [v] H Q
def Cl2 (r : List V → Hp → VK → Prop) (A : α → Ass) (B : β → Ass) (C : γ → Ass) (f : α → β → Option γ) : Prop :=
  ∀ {x y v u H F G z}, (A x).h v H F → (B y).h u H G → f x y = some z → ∀ Q : VK, (∀ w H' T, Same H H' → (C z).h w H' T → (∀ b, T b → H b = none) → Q w H') → r [v, u] H Q
variable {X : Cx} {Γ : Cxt} {e e2 : Expr} {p : Option α} {q : Option β} {C : γ → Ass} {f : α → Option γ} {g : α → β → Option γ} {r : List V → Hp → VK → Prop} {x : Str} {pp pos : Pos} {id T : String}
theorem arg1 {σ : L2.St} {H : Hp} {Fs : Nat → Fp} (o : Cl1 r A C f) (ha : Al X Γ e p A) (s : Sat Γ σ H Fs) {z : γ} (ez : p.bind f = some z) {Q : VK} (k : ∀ v H' F, Same H H' → (C z).h v H' F → (∀ x, F x → H x = none) → Q v H') : tCB r (tCons (TEof X e) tNil) σ H Q := by
  obtain ⟨y, e1, e2⟩ := Option.bind_eq_some_iff.mp ez
  exact ha σ H Fs s y e1 _ fun v H1 F s1 h1 _ => o h1 e2 Q fun w H2 T s2 h2 fr => k w H2 T (s1.trans s2) h2 fun c t => s1.free (fr c t)
theorem arg2 {σ : L2.St} {H : Hp} {Fs : Nat → Fp} (o : Cl2 r A B C g) (ha : Al X Γ e p A) (hb : Al X Γ e2 q B) (s : Sat Γ σ H Fs) {z : γ} (ez : (p.bind fun x => q.bind fun y => g x y) = some z) {Q : VK} (k : ∀ v H' F, Same H H' → (C z).h v H' F → (∀ x, F x → H x = none) → Q v H') : tCB r (tCons (TEof X e) (tCons (TEof X e2) tNil)) σ H Q := by
  obtain ⟨y, e1, e0⟩ := Option.bind_eq_some_iff.mp ez
  obtain ⟨u, e2, e3⟩ := Option.bind_eq_some_iff.mp e0
  refine ha σ H Fs s y e1 _ fun v H1 F s1 h1 _ => ?_
  refine hb σ H1 Fs (s.same s1) u e2 _ fun w H2 G s2 h2 _ => ?_
  exact o (Ass.same h1 s2) h2 e3 Q fun w H3 T s3 h3 fr => k w H3 T ((s1.trans s2).trans s3) h3 fun c t => (s1.trans s2).free (fr c t)
theorem pu_b1 (hc : CallR X (.builtin id) r) (o : Cl1 r A C f) (ha : Al X Γ e p A) (hm : X.mg x = none) (hv : bootBuiltins x = some (.builtin id)) (hg : Gl X x := by rfl) (hn : x ≠ "__name__" := by decide) (hdb : (x == ("__debug__" : Str)) = false := by decide)
    (he : starEach [e] X.env = [(false, eval e X.env)] := by rfl) : Pu X Γ (.Call (.Name x pp) [e] [] pos) (p.bind f) C := .mk fun σ H Fs s z ez Q k =>
  TEof.of (pe_callB hc hg hm hv (pa_cons (pe_of X e) pa_nil he) hn hdb he rfl) (arg1 o ha s ez k)
theorem pu_t1 (hc : CallR X (.type T) r) (o : Cl1 r A C f) (ha : Al X Γ e p A) (hm : X.mg x = none) (hv : bootBuiltins x = some (.type T)) (hg : Gl X x := by rfl) (hn : x ≠ "__name__" := by decide) (hdb : (x == ("__debug__" : Str)) = false := by decide)
    (he : starEach [e] X.env = [(false, eval e X.env)] := by rfl) : Pu X Γ (.Call (.Name x pp) [e] [] pos) (p.bind f) C := .mk fun σ H Fs s z ez Q k =>
  TEof.of (pe_callTy hc hg hm hv (pa_cons (pe_of X e) pa_nil he) hn hdb he rfl) (arg1 o ha s ez k)
theorem pu_b2 (hc : CallR X (.builtin id) r) (o : Cl2 r A B C g) (ha : Al X Γ e p A) (hb : Al X Γ e2 q B) (hm : X.mg x = none) (hv : bootBuiltins x = some (.builtin id)) (hg : Gl X x := by rfl) (hn : x ≠ "__name__" := by decide) (hdb : (x == ("__debug__" : Str)) = false := by decide)
    (he : starEach [e, e2] X.env = (false, eval e X.env) :: starEach [e2] X.env := by rfl) (he2 : starEach [e2] X.env = [(false, eval e2 X.env)] := by rfl) : Pu X Γ (.Call (.Name x pp) [e, e2] [] pos) (p.bind fun x => q.bind fun y => g x y) C := .mk fun σ H Fs s z ez Q k =>
  TEof.of (pe_callB hc hg hm hv (pa_cons (pe_of X e) (pa_cons (pe_of X e2) pa_nil he2) he) hn hdb he (by rw [he2]; rfl)) (arg2 o ha hb s ez k)

theorem c_lenL {K : PySem.W.Frag} : Cl1 (fun xs H Q => ∃ x n, xs = [x] ∧ LenV K x H n ∧ Q (.int n) H) (isL A) isI (fun xs => some (xs.length : Int)) := by
  intro x v H F z ⟨a, vs, G0, ev, r, h, _, eF⟩ e Q k
  cases e
  subst ev
  exact ⟨_, vs.length, rfl, .inl ⟨vs, .inl (.inl r), rfl⟩, k _ H no (Same.refl H) ⟨by rw [h.length], rfl⟩ fun _ z => z.elim⟩
theorem c_lenT {K : PySem.W.Frag} : Cl1 (fun xs H Q => ∃ x n, xs = [x] ∧ LenV K x H n ∧ Q (.int n) H) (isT A) isI (fun xs => some (xs.length : Int)) := by
  intro x v H F z ⟨a, vs, ev, r, h⟩ e Q k
  cases e
  subst ev
  exact ⟨_, vs.length, rfl, .inr ⟨vs, .inl (.inl r), rfl⟩, k _ H no (Same.refl H) ⟨by rw [h.length], rfl⟩ fun _ z => z.elim⟩
def slen (x : Str) : Option Int := if x.length ≤ sizeLine then some (x.length : Int) else none
theorem c_lenS {K : PySem.W.Frag} : Cl1 (fun xs H Q => ∃ x n, xs = [x] ∧ LenV K x H n ∧ Q (.int n) H) isS isI slen := by
  intro x v H F z hx e Q k
  unfold slen at e
  split at e
  · rename_i c
    cases e
    rw [show v = .str x from hx.1]
    exact ⟨_, x.length, rfl, ⟨c, rfl⟩, k _ H no (Same.refl H) ⟨rfl, rfl⟩ fun _ z => z.elim⟩
  · cases e
theorem c_abs : Cl1 (fun xs H Q => ∃ i, xs = [.int i] ∧ Q (.int (if i < 0 then -i else i)) H) isI isI (fun i => some (if i < 0 then -i else i)) := by
  intro x v H F z hx e Q k
  cases e
  exact ⟨x, by rw [hx.1], k _ H no (Same.refl H) ⟨rfl, rfl⟩ fun _ z => z.elim⟩
theorem c_int : Cl1 (fun xs H Q => (∃ i, xs = [.int i] ∧ Q (.int i) H) ∨ ∃ k, xs = [.bl k] ∧ Q (.int (if k then 1 else 0)) H) isI isI (fun i => some i) := by
  intro x v H F z hx e Q k
  cases e
  exact .inl ⟨x, by rw [hx.1], k _ H no (Same.refl H) ⟨rfl, rfl⟩ fun _ z => z.elim⟩
theorem c_intB : Cl1 (fun xs H Q => (∃ i, xs = [.int i] ∧ Q (.int i) H) ∨ ∃ k, xs = [.bl k] ∧ Q (.int (if k then 1 else 0)) H) isB isI (fun b => some (if b then 1 else 0)) := by
  intro x v H F z hx e Q k
  cases e
  exact .inr ⟨x, by rw [hx.1], k _ H no (Same.refl H) ⟨rfl, rfl⟩ fun _ z => z.elim⟩
theorem c_min2 : Cl2 (fun xs H Q => ∃ i j, xs = [.int i, .int j] ∧ Q (.int (if j < i then j else i)) H) isI isI isI (fun i j => some (if j < i then j else i)) := by
  intro x y v u H F G z hx hy e Q k
  cases e
  exact ⟨x, y, by rw [hx.1, hy.1], k _ H no (Same.refl H) ⟨rfl, rfl⟩ fun _ z => z.elim⟩
theorem c_max2 : Cl2 (fun xs H Q => ∃ i j, xs = [.int i, .int j] ∧ Q (.int (if j > i then j else i)) H) isI isI isI (fun i j => some (if j > i then j else i)) := by
  intro x y v u H F G z hx hy e Q k
  cases e
  exact ⟨x, y, by rw [hx.1, hy.1], k _ H no (Same.refl H) ⟨rfl, rfl⟩ fun _ z => z.elim⟩
def pgcd (a b : Int) : Int := ((Nat.gcd a.natAbs b.natAbs : Nat) : Int)
theorem c_gcd : Cl2 rGcd isI isI isI (fun i j => some (pgcd i j)) := by
  intro x y v u H F G z hx hy e Q k
  cases e
  exact ⟨x, y, by rw [hx.1, hy.1], k _ H no (Same.refl H) ⟨rfl, rfl⟩ fun _ z => z.elim⟩
/-- f(a, b), f a built-in function that the module has imported -/
theorem pu_bf2 (hc : CallR X (.builtin id) r) (o : Cl2 r A B C g) (ha : Al X Γ e p A) (hb : Al X Γ e2 q B) (hm : X.mg x = some (.builtin id)) (hg : Gl X x := by rfl) (hdb : (x == ("__debug__" : Str)) = false := by decide)
    (he : starEach [e, e2] X.env = (false, eval e X.env) :: starEach [e2] X.env := by rfl) (he2 : starEach [e2] X.env = [(false, eval e2 X.env)] := by rfl) : Pu X Γ (.Call (.Name x pp) [e, e2] [] pos) (p.bind fun x => q.bind fun y => g x y) C := .mk fun σ H Fs s z ez Q k =>
  TEof.of (pe_callBfun hc hg hm (pa_cons (pe_of X e) (pa_cons (pe_of X e2) pa_nil he2) he) hdb he (by rw [he2]; rfl)) (arg2 o ha hb s ez k)
/-- ints in a list, as values -/
theorem ints_vals {H : Hp} : ∀ {xs : List Int} {vs : List V} {F : Fp}, AllF isI H xs vs F → vs = xs.map V.int
  | [], [], _, _ => rfl
  | x :: xs, v :: vs, _, ⟨_, _, h1, h2, _⟩ => by rw [ints_vals h2, show v = .int x from h1.1]; rfl
  | [], _ :: _, _, h => h.elim
  | _ :: _, [], _, h => h.elim
theorem vals_ints {H : Hp} : ∀ xs : List Int, AllF isI H xs (xs.map V.int) no
  | [] => rfl
  | x :: xs => ⟨no, no, ⟨rfl, rfl⟩, vals_ints xs, fun _ z => z.elim, (no_un no).symm⟩
theorem new_list {H : Hp} {a : Addr} {xs : List α} {vs : List V} (n : H a = none) (h : AllF A H xs vs no) : Same H (upd H a (.lst vs)) ∧ (isL A xs).h (.ref a) (upd H a (.lst vs)) (fun b => b = a ∨ no b) := by
  have sm : Same H (upd H a (.lst vs)) := fun b o e => by rw [upd_ne (ne_of_none e n)]; exact e
  exact ⟨sm, a, vs, no, rfl, upd_same, h.stb (Same.keep sm _), fun z => z, rfl⟩
theorem new_tup {H : Hp} {a : Addr} {xs : List α} {vs : List V} (n : H a = none) (h : AllF A H xs vs no) : Same H (upd H a (.tup vs)) ∧ (isT A xs).h (.ref a) (upd H a (.tup vs)) no := by
  have sm : Same H (upd H a (.tup vs)) := fun b o e => by rw [upd_ne (ne_of_none e n)]; exact e
  exact ⟨sm, a, vs, rfl, upd_same, h.stb (Same.keep sm _)⟩
def isort (xs : List Int) : List Int := xs.mergeSort (fun a b => decide (a ≤ b))
theorem isort_perm (xs : List Int) : (isort xs).Perm xs := List.mergeSort_perm _ _
theorem isort_sorted (xs : List Int) : (isort xs).Pairwise (· ≤ ·) := by
  have := List.pairwise_mergeSort (le := fun a b : Int => decide (a ≤ b)) (fun a b c h1 h2 => by simp at *; omega) (fun a b => by simp; omega) xs
  exact this.imp fun h => by simpa using h
theorem isort_unique {xs ys : List Int} (p : ys.Perm xs) (s : ys.Pairwise (· ≤ ·)) : ys = isort xs :=
  (p.trans (isort_perm xs).symm).eq_of_pairwise (le := (· ≤ ·)) (fun a b _ _ h1 h2 => by omega) s (isort_sorted xs)
theorem c_sortedI {K : PySem.W.Frag} : Cl1 (rSortedI K) (isL isI) (isL isI) (fun xs => some (isort xs)) := by
  intro x v H F z ⟨a, vs, G0, ev, r, h, _, eF⟩ e Q k
  cases e
  subst ev
  have := ints_vals h
  subst this
  refine ⟨a, x, rfl, .inl (.inl r), fun ns p pm st n => ?_⟩
  have := isort_unique pm st
  subst this
  obtain ⟨sm, hl⟩ := new_list n (vals_ints (H := H) (isort x))
  exact k _ _ _ sm hl fun b t => t.elim (fun t => t ▸ n) False.elim
theorem c_listL {K : PySem.W.Frag} [im : Imm A] : Cl1 (fun xs H Q => ∃ p ys, xs = [.ref p] ∧ (SqL K H p ys ∨ SqT K H p ys) ∧ ∀ l, H l = none → Q (.ref l) (upd H l (.lst ys))) (isL A) (isL A) (fun xs => some xs) := by
  intro x v H F z ⟨a, vs, G0, ev, r, h, _, eF⟩ e Q k
  cases e
  subst ev
  have e0 := h.nil
  subst e0
  refine ⟨a, vs, rfl, .inl (.inl (.inl r)), fun l n => ?_⟩
  obtain ⟨sm, hl⟩ := new_list n h
  exact k _ _ _ sm hl fun b t => t.elim (fun t => t ▸ n) False.elim
theorem c_listT {K : PySem.W.Frag} [im : Imm A] : Cl1 (fun xs H Q => ∃ p ys, xs = [.ref p] ∧ (SqL K H p ys ∨ SqT K H p ys) ∧ ∀ l, H l = none → Q (.ref l) (upd H l (.lst ys))) (isT A) (isL A) (fun xs => some xs) := by
  intro x v H F z ⟨a, vs, ev, r, h⟩ e Q k
  cases e
  subst ev
  have e0 := h.nil
  subst e0
  refine ⟨a, vs, rfl, .inr (.inl (.inl r)), fun l n => ?_⟩
  obtain ⟨sm, hl⟩ := new_list n h
  exact k _ _ _ sm hl fun b t => t.elim (fun t => t ▸ n) False.elim
theorem c_tupleL {K : PySem.W.Frag} [im : Imm A] : Cl1 (fun xs H Q => ∃ p ys, xs = [.ref p] ∧ ((SqL K H p ys ∧ ∀ l, H l = none → Q (.ref l) (upd H l (.tup ys))) ∨ (SqT K H p ys ∧ Q (.ref p) H))) (isL A) (isT A) (fun xs => some xs) := by
  intro x v H F z ⟨a, vs, G0, ev, r, h, _, eF⟩ e Q k
  cases e
  subst ev
  have e0 := h.nil
  subst e0
  refine ⟨a, vs, rfl, .inl ⟨.inl (.inl r), fun l n => ?_⟩⟩
  obtain ⟨sm, hl⟩ := new_tup n h
  exact k _ _ _ sm hl fun b t => t.elim
theorem c_tupleT {K : PySem.W.Frag} [im : Imm A] : Cl1 (fun xs H Q => ∃ p ys, xs = [.ref p] ∧ ((SqL K H p ys ∧ ∀ l, H l = none → Q (.ref l) (upd H l (.tup ys))) ∨ (SqT K H p ys ∧ Q (.ref p) H))) (isT A) (isT A) (fun xs => some xs) := by
  intro x v H F z ⟨a, vs, ev, r, h⟩ e Q k
  cases e
  subst ev
  have e0 := h.nil
  subst e0
  exact ⟨a, vs, rfl, .inr ⟨.inl (.inl r), k _ H no (Same.refl H) ⟨a, vs, rfl, r, h⟩ fun _ z => z.elim⟩⟩
theorem c_sumL {K : PySem.W.Frag} : Cl1 (rSum K) (isL isI) isI (fun xs => some xs.sum) := by
  intro x v H F z ⟨a, vs, G0, ev, r, h, _, eF⟩ e Q k
  cases e
  subst ev
  have := ints_vals h
  subst this
  exact ⟨a, x, rfl, .inl (.inl r), k _ H no (Same.refl H) ⟨rfl, rfl⟩ fun _ z => z.elim⟩
def lmin (xs : List Int) : Option Int := xs.min?
def lmax (xs : List Int) : Option Int := xs.max?
theorem c_minL {K : PySem.W.Frag} : Cl1 (rMin K) (isL isI) isI lmin := by
  intro x v H F z ⟨a, vs, G0, ev, r, h, _, eF⟩ e Q k
  subst ev
  have := ints_vals h
  subst this
  unfold lmin at e
  have hz := List.min?_eq_some_iff.mp e
  refine ⟨a, x, rfl, .inl (.inl r), List.length_pos_of_mem hz.1, fun m hm hl => ?_⟩
  have : m = z := Int.le_antisymm (hl z hz.1) (hz.2 m hm)
  subst this
  exact k _ H no (Same.refl H) ⟨rfl, rfl⟩ fun _ z => z.elim
theorem c_maxL {K : PySem.W.Frag} : Cl1 (rMax K) (isL isI) isI lmax := by
  intro x v H F z ⟨a, vs, G0, ev, r, h, _, eF⟩ e Q k
  subst ev
  have := ints_vals h
  subst this
  unfold lmax at e
  have hz := List.max?_eq_some_iff.mp e
  refine ⟨a, x, rfl, .inl (.inl r), List.length_pos_of_mem hz.1, fun m hm hl => ?_⟩
  have : m = z := Int.le_antisymm (hz.2 m hm) (hl z hz.1)
  subst this
  exact k _ H no (Same.refl H) ⟨rfl, rfl⟩ fun _ z => z.elim
/-! ### truth -/
theorem t_L : Tru (isL A) (fun xs => some (!xs.isEmpty)) := by
  intro K x v H F b ⟨a, vs, G0, ev, r, h, _, eF⟩ e
  cases e
  subst ev
  refine .inl ⟨vs, .inl (.inl r), ?_⟩
  have := h.length
  cases x <;> cases vs <;> simp_all
theorem t_T : Tru (isT A) (fun xs => some (!xs.isEmpty)) := by
  intro K x v H F b ⟨a, vs, ev, r, h⟩ e
  cases e
  subst ev
  refine .inr (.inl ⟨vs, .inl (.inl r), ?_⟩)
  have := h.length
  cases x <;> cases vs <;> simp_all
theorem t_I : Tru isI (fun i => some (i != 0)) := by
  intro K x v H F b hx e
  cases e
  rw [show v = .int x from hx.1]
  exact rfl
end
end Rf
/-! Rf8: displays, slices, concatenations, methods of lists and texts, dicts. Own work. -/
namespace Rf
open PySem PySem.Spec L2

section
variable {ι α β γ δ κ S : Type} {X : Cx} {Γ : Cxt} {e e2 e3 : Expr} {es : List Expr} {pos pp : Pos} {A : α → Ass} {B : β → Ass} {C : γ → Ass}
/-! ### displays -/
theorem upd_new {H : Hp} {a : Addr} {o : HO} (n : H a = none) : Same H (upd H a o) := fun b x e => by rw [upd_ne (ne_of_none e n)]; exact e
theorem pu_tu {p : Option α} {L : α → AssL} {k : Nat} (h : Ah X Γ es p L) (n : Nat) (hn : n ≤ 1000) (hl : ∀ x vs H F, (L x).h vs H F → vs.length = n) : Pu X Γ (.Tuple es k pos) p (fun x => isTu (L x)) := .mk fun σ H Fs s z ez Q q =>
  TEof.of (pe_tup (pa_of X es)) (h σ H Fs s z ez _ fun vs H1 F s1 h1 fr => ⟨by rw [hl _ _ _ _ h1]; exact Nat.le_of_lt (small1000 hn), fun a na =>
    q (.ref a) _ F (s1.trans (upd_new na)) ⟨a, vs, rfl, upd_same, AssL.same h1 (upd_new na)⟩ fr⟩)
theorem cons_len {A : Ass} {L : AssL} {n : Nat} (h : ∀ vs H F, L.h vs H F → vs.length = n) : ∀ vs H F, (consL A L).h vs H F → vs.length = n + 1 := fun vs H F ⟨v, r, _, _, e, _, b, _⟩ => by rw [e, List.length_cons, h _ _ _ b]
theorem nil_len : ∀ vs H F, nilL.h vs H F → vs.length = 0 := fun vs H F h => by rw [show vs = [] from h.1]; rfl
theorem pu_pair {p : Option α} {q : Option β} {k : Nat} (h1 : Pu X Γ e p A) (h2 : Pu X Γ e2 q B) (hs : starEach [e, e2] X.env = (false, eval e X.env) :: starEach [e2] X.env := by rfl) (hs2 : starEach [e2] X.env = (false, eval e2 X.env) :: starEach [] X.env := by rfl) :
    Pu X Γ (.Tuple [e, e2] k pos) (p.bind fun x => q.bind fun y => some (x, y)) (isP A B) := by
  have h := pu_tu (pos := pos) (k := k) (ah_cons h1 (ah_cons h2 ah_nil hs2) hs) 2 (by decide) fun x => cons_len (cons_len nil_len)
  have g := h.as (B := isP A B) (fun x => (x.1, x.2.1)) fun x v H F z => z
  refine .mk ?_
  intro σ H Fs s z ez Q q'
  refine g σ H Fs s z ?_ Q q'
  rw [← ez]
  cases p <;> cases q <;> rfl
theorem pu_pair3 {p : Option α} {q : Option β} {r : Option γ} {k : Nat} (h1 : Pu X Γ e p A) (h2 : Pu X Γ e2 q B) (h3 : Pu X Γ e3 r C) (hs : starEach [e, e2, e3] X.env = (false, eval e X.env) :: starEach [e2, e3] X.env := by rfl) (hs2 : starEach [e2, e3] X.env = (false, eval e2 X.env) :: starEach [e3] X.env := by rfl) (hs3 : starEach [e3] X.env = (false, eval e3 X.env) :: starEach [] X.env := by rfl) :
    Pu X Γ (.Tuple [e, e2, e3] k pos) (p.bind fun x => q.bind fun y => r.bind fun z => some (x, y, z)) (isP3 A B C) := by
  have h := pu_tu (pos := pos) (k := k) (ah_cons h1 (ah_cons h2 (ah_cons h3 ah_nil hs3) hs2) hs) 3 (by decide) fun x => cons_len (cons_len (cons_len nil_len))
  have g := h.as (B := isP3 A B C) (fun x => (x.1, x.2.1, x.2.2.1)) fun x v H F z => z
  refine .mk ?_
  intro σ H Fs s z ez Q q'
  refine g σ H Fs s z ?_ Q q'
  rw [← ez]
  cases p <;> cases q <;> cases r <;> rfl
/-- arguments of one kind -/
abbrev Al' (X : Cx) (Γ : Cxt) (es : List Expr) (p : Option (List α)) (A : α → Ass) : Prop := Hold (
  ∀ σ H Fs, Sat Γ σ H Fs → ∀ xs, p = some xs → ∀ Q : List V → Hp → Prop, (∀ vs H' F, Same H H' → AllF A H' xs vs F → (∀ x, F x → H x = none) → Q vs H') → TAof X es σ H Q)
theorem ak_nil : Al' X Γ [] (some []) A := .mk fun σ H Fs s xs ex Q q => by
  cases ex
  exact TAof.of pa_nil (q [] H no (Same.refl H) rfl fun _ z => z.elim)
theorem ak_cons {p : Option α} {q : Option (List α)} (h : Pu X Γ e p A) (g : Al' X Γ es q A) (hs : starEach (e :: es) X.env = (false, eval e X.env) :: starEach es X.env := by rfl) : Al' X Γ (e :: es) (p.bind fun x => q.bind fun xs => some (x :: xs)) A := .mk fun σ H Fs s z ez Q k => by
  obtain ⟨x, e1, e0⟩ := Option.bind_eq_some_iff.mp ez
  obtain ⟨xs, e2, e3⟩ := Option.bind_eq_some_iff.mp e0
  cases e3
  refine TAof.of (pa_cons (pe_of X e) (pa_of X es) hs) ?_
  refine h σ H Fs s x e1 _ fun v H1 F s1 h1 c1 => ?_
  refine g σ H1 Fs (s.same s1) xs e2 _ fun vs H2 G s2 h2 c2 => k (v :: vs) H2 (un F G) (s1.trans s2) ⟨F, G, Ass.same h1 s2, h2, fun z f g => (Ass.out h1 (c2 z g)) f, rfl⟩ fun z f => ?_
  rcases f with f | f
  · exact c1 z f
  · exact s1.free (c2 z f)
theorem pu_lst {p : Option (List α)} (h : Al' X Γ es p A) (hn : es.length ≤ 1000) (hl : ∀ xs, p = some xs → xs.length = es.length) : Pu X Γ (.List es pos) p (isL A) := .mk fun σ H Fs s z ez Q q =>
  TEof.of (pe_lst (pa_of X es)) (h σ H Fs s z ez _ fun vs H1 F s1 h1 fr => ⟨by rw [← h1.length, hl z ez]; exact Nat.le_of_lt (small1000 hn), fun a na => by
    have nF : ¬ F a := fun f => by
      have := h1.trk f
      rw [na] at this; exact this
    exact q (.ref a) _ _ (s1.trans (upd_new na)) ⟨a, vs, F, rfl, upd_same, h1.stb (Same.keep (upd_new na) _), nF, rfl⟩ fun x f => f.elim (fun f => by subst f; exact s1.free na) (fr x)⟩)
theorem pu_tup {p : Option (List α)} {k : Nat} (h : Al' X Γ es p A) (hn : es.length ≤ 1000) (hl : ∀ xs, p = some xs → xs.length = es.length) : Pu X Γ (.Tuple es k pos) p (isT A) := .mk fun σ H Fs s z ez Q q =>
  TEof.of (pe_tup (pa_of X es)) (h σ H Fs s z ez _ fun vs H1 F s1 h1 fr => ⟨by rw [← h1.length, hl z ez]; exact Nat.le_of_lt (small1000 hn), fun a na =>
    q (.ref a) _ F (s1.trans (upd_new na)) ⟨a, vs, rfl, upd_same, h1.stb (Same.keep (upd_new na) _)⟩ fr⟩)
theorem akl_nil : ∀ xs : List α, some ([] : List α) = some xs → xs.length = ([] : List Expr).length := fun xs e => by cases e; rfl
theorem akl_cons {p : Option α} {q : Option (List α)} (h : ∀ xs, q = some xs → xs.length = es.length) : ∀ xs, (p.bind fun x => q.bind fun xs => some (x :: xs)) = some xs → xs.length = (e :: es).length := fun xs ez => by
  obtain ⟨x, e1, e0⟩ := Option.bind_eq_some_iff.mp ez
  obtain ⟨xs', e2, e3⟩ := Option.bind_eq_some_iff.mp e0
  cases e3
  simp [h _ e2]

/-! ### slices -/
def cutL (xs : List α) (lo hi : Option Int) : List α := (xs.drop (HT.sIx xs.length 0 lo)).take (HT.sIx xs.length xs.length hi - HT.sIx xs.length 0 lo)
theorem AllF.drop [im : Imm A] {H : Hp} : ∀ {xs : List α} {vs : List V} (n : Nat), AllF A H xs vs no → AllF A H (xs.drop n) (vs.drop n) no := fun {xs vs} n h =>
  AllF.mk (fun j x e => by
    rw [List.getElem?_drop] at e
    obtain ⟨v, a, b⟩ := h.all e
    exact ⟨v, by rw [List.getElem?_drop]; exact a, b⟩) (by simp [h.length])
theorem AllF.take [im : Imm A] {H : Hp} : ∀ {xs : List α} {vs : List V} (n : Nat), AllF A H xs vs no → AllF A H (xs.take n) (vs.take n) no := fun {xs vs} n h =>
  AllF.mk (fun j x e => by
    rw [List.getElem?_take] at e
    split at e
    · rename_i c
      obtain ⟨v, a, b⟩ := h.all e
      exact ⟨v, by rw [List.getElem?_take, if_pos c]; exact a, b⟩
    · cases e) (by simp [h.length])
theorem AllF.reverse [im : Imm A] {H : Hp} {xs : List α} {vs : List V} (h : AllF A H xs vs no) : AllF A H xs.reverse vs.reverse no := by
  have l := h.length
  refine AllF.mk (fun j x e => ?_) (by simp [l])
  have hj : j < xs.length := by
    have := (List.getElem?_eq_some_iff.mp e).1
    simpa using this
  rw [List.getElem?_reverse hj] at e
  obtain ⟨v, a, b⟩ := h.all e
  exact ⟨v, by rw [List.getElem?_reverse (by omega), ← l]; exact a, b⟩
theorem cutL_vals [im : Imm A] {H : Hp} {xs : List α} {vs : List V} (h : AllF A H xs vs no) (lo hi : Option Int) : AllF A H (cutL xs lo hi) (cutV vs lo hi) no := by
  unfold cutL cutV
  rw [h.length]
  exact (h.drop _).take _
/-- a part of a slice -/
abbrev So (X : Cx) (Γ : Cxt) (e : Option Expr) (p : Option (Option Int)) : Prop := Hold (
  ∀ σ H Fs, Sat Γ σ H Fs → ∀ o, p = some o → ∀ Q : Option Int → Hp → Prop, (∀ H', Same H H' → Q o H') → ∃ t : TO, PO X e t ∧ t σ H Q)
theorem so_none : So X Γ none (some none) := .mk fun σ H Fs s o eo Q q => by
  cases eo
  exact ⟨_, po_none, q H (Same.refl H)⟩
theorem so_some {p : Option Int} (h : Al X Γ e p isI) : So X Γ (some e) (p.map some) := .mk fun σ H Fs s o eo Q q => by
  obtain ⟨i, ei, rfl⟩ := Option.map_eq_some_iff.mp eo
  exact ⟨_, po_some (pe_of X e), h σ H Fs s i ei _ fun v H1 F sm hv _ => ⟨i, hv.1, q H1 sm⟩⟩
def TOof (X : Cx) (e : Option Expr) : TO := fun σ H Q => ∃ t : TO, PO X e t ∧ t σ H Q
theorem po_of (X : Cx) (e : Option Expr) : PO X e (TOof X e) := ⟨fun pins s σ H Q I ⟨t, h, q⟩ => h.run pins s σ H Q I q⟩
def Sl1 (r : V → Option Int → Option Int → Hp → VK → Prop) (A : α → Ass) (C : γ → Ass) (f : α → Option Int → Option Int → Option γ) : Prop :=
  ∀ {x v H F lo hi z}, (A x).h v H F → f x lo hi = some z → ∀ Q : VK, (∀ w H' T, Same H H' → (C z).h w H' T → (∀ b, T b → H b = none) → Q w H') → r v lo hi H Q
theorem pu_sl {r : V → Option Int → Option Int → Hp → VK → Prop} {f : α → Option Int → Option Int → Option γ} {p : Option α} {pl ph : Option (Option Int)} {lo hi : Option Expr} {p2 : Pos} (hr : SlR X r) (o : Sl1 r A C f) (ha : Al X Γ e p A) (hl : So X Γ lo pl) (hh : So X Γ hi ph) :
    Pu X Γ (.Subscript e (.Slice lo hi none p2) pos) (p.bind fun x => pl.bind fun a => ph.bind fun b => f x a b) C := .mk fun σ H Fs s z ez Q q => by
  obtain ⟨x, e1, e0⟩ := Option.bind_eq_some_iff.mp ez
  obtain ⟨a, e2, e4⟩ := Option.bind_eq_some_iff.mp e0
  obtain ⟨b, e3, e5⟩ := Option.bind_eq_some_iff.mp e4
  refine TEof.of (pe_slice hr (pe_of X e) (po_of X lo) (po_of X hi)) ?_
  refine ha σ H Fs s x e1 _ fun v H1 F s1 h1 _ => ?_
  refine hl σ H1 Fs (s.same s1) a e2 _ fun H2 s2 => ?_
  refine hh σ H2 Fs ((s.same s1).same s2) b e3 _ fun H3 s3 => ?_
  exact o (Ass.same (Ass.same h1 s2) s3) e5 Q fun w H4 T s4 h4 fr => q w H4 T (((s1.trans s2).trans s3).trans s4) h4 fun c t => ((s1.trans s2).trans s3).free (fr c t)
theorem s_list {K : PySem.W.Frag} [im : Imm A] : Sl1 (rSlL K) (isL A) (isL A) (fun xs lo hi => some (cutL xs lo hi)) := by
  intro x v H F lo hi z ⟨a, vs, G0, ev, r, h, _, eF⟩ e Q k
  cases e
  subst ev
  have e0 := h.nil
  subst e0
  refine ⟨a, vs, rfl, .inl (.inl r), fun p n => ?_⟩
  obtain ⟨sm, hl⟩ := new_list n (cutL_vals h lo hi)
  exact k _ _ _ sm hl fun b t => t.elim (fun t => t ▸ n) False.elim
def scut (x : Str) (lo hi : Option Int) : Option Str := if x.length ≤ sizeLine then some (cutS x lo hi) else none
theorem s_str : Sl1 rSlS isS isS scut := by
  intro x v H F lo hi z hx e Q k
  unfold scut at e
  split at e
  · rename_i c
    cases e
    exact ⟨x, hx.1, c, k _ H no (Same.refl H) ⟨rfl, rfl⟩ fun _ z => z.elim⟩
  · cases e
/-- xs[::-1] -/
theorem pu_rev [im : Imm A] {p : Option (List α)} {k : Nat} {p1 p2 p3 : Pos} (h : Al X Γ e p (isL A)) : Pu X Γ (.Subscript e (.Slice none none (some (.UnaryOp .USub (.Constant (.int 1) k p1) p2)) p3) pos) (p.map List.reverse) (isL A) := .mk fun σ H Fs s z ez Q q => by
  obtain ⟨xs, e1, rfl⟩ := Option.map_eq_some_iff.mp ez
  refine TEof.of (pe_revL (pe_of X e)) ?_
  refine h σ H Fs s xs e1 _ fun v H1 F s1 ⟨a, vs, G0, ev, r, h1, _, eF⟩ _ => ?_
  have e0 := h1.nil
  subst e0
  refine ⟨a, vs, ev, .inl (.inl r), fun p n => ?_⟩
  obtain ⟨sm, hl⟩ := new_list n h1.reverse
  exact q _ _ _ (s1.trans sm) hl fun b t => t.elim (fun t => t ▸ s1.free n) False.elim

/-! ### concatenations -/
def lcat (xs ys : List α) : Option (List α) := if xs.length + ys.length ≤ sizeLine then some (xs ++ ys) else none
theorem AllF.app [im : Imm A] {H : Hp} {xs ys : List α} {vs ws : List V} (h : AllF A H xs vs no) (g : AllF A H ys ws no) : AllF A H (xs ++ ys) (vs ++ ws) no := by
  have := h.append g fun _ z => z.elim
  rwa [un_no] at this
theorem o_catL [im : Imm A] : Op2 rCat (isL A) (isL A) (isL A) lcat := by
  intro x y v u H F G z ⟨a, vs, G0, ev, r, h, _, eF⟩ ⟨b, ws, G1, eu, r', h', _, eG⟩ e Q k
  have e0 := h.nil
  subst e0
  have e0 := h'.nil
  subst e0
  unfold lcat at e
  split at e
  · rename_i c
    cases e
    refine ⟨a, b, vs, ws, ev, eu, r, r', by rw [← h.length, ← h'.length]; exact c, fun p n => ?_⟩
    obtain ⟨sm, hl⟩ := new_list n (h.app h')
    exact k _ _ _ sm hl fun b t => t.elim (fun t => t ▸ n) False.elim
  · cases e
/-- .. of tuples, the left one not empty -/
def tcat (xs ys : List α) : Option (List α) := if xs ≠ [] ∧ xs.length + ys.length ≤ sizeLine then some (xs ++ ys) else none
instance {xs : List α} {n : Nat} : Decidable (xs ≠ [] ∧ n ≤ sizeLine) := by
  cases xs with
  | nil => exact isFalse fun h => h.1 rfl
  | cons x r => exact decidable_of_iff (n ≤ sizeLine) ⟨fun h => ⟨by simp, h⟩, fun h => h.2⟩

/-! ### methods of a list in a slot -/
theorem ty_L : TyOk "list" (isL A) := fun {K c v H F} ⟨a, vs, G0, ev, r, h, _, _⟩ => by
  subst ev
  exact .inl ⟨rfl, vs, .inl (.inl r)⟩
def lapp (xs : List α) (z : α × Unit) : Option (Unit × List α) := if xs.length < sizeLine then some ((), xs ++ [z.1]) else none
theorem Step.upd {H : Hp} {a : Addr} {o : HO} {O O' : Fp} (hO : O a) (h : ∀ x, O' x → O x ∨ H x = none) : Step O H O' (upd H a o) := ⟨fun b x e n => by
  rw [upd_ne (fun z => by subst z; exact n hO)]; exact e, h⟩
theorem mo_append : MOp rAppend (isL A) (fun z => consL (A z.1) (nilLu z.2)) isN lapp := by
  intro c a v vs H F G z c' ⟨l, ws, G0, ev, r, h, n, eF⟩ ⟨w, r1, F1, F2, e1, h1, ⟨e2, e3⟩, _, eG⟩ dj e Q k
  subst e2 e3
  unfold lapp at e
  split at e
  · rename_i hc
    cases e
    subst e1
    rw [un_no] at eG
    subst eG eF
    have nl : ¬ G l := fun g => dj l (.inl rfl) g
    have kp : ∀ U : Fp, ¬ U l → Keep U H (upd H l (.lst (ws ++ [w]))) := fun U nU => upd_keep r trivial nU
    refine ⟨l, ws, w, ev, rfl, r, by rw [← h.length]; exact hc, ?_⟩
    refine k .non (upd H l (.lst (ws ++ [w]))) (fun b => b = l ∨ un G0 G b) no ⟨l, ws ++ [w], un G0 G, ev, upd_same, (h.stb (kp G0 n)).append (AllF.one ((A a.1).stb h1 (kp G nl))) fun x f g => dj x (.inr f) g, fun f => f.elim n nl, rfl⟩ ⟨rfl, rfl⟩ (fun _ z => z.elim) ?_
    refine Step.upd (.inl (.inl rfl)) fun x f => .inl ?_
    rcases f with f | f | f | f
    · exact f.elim
    · exact .inl (.inl f)
    · exact .inl (.inr f)
    · exact .inr f
  · cases e
theorem erase_last {α : Type} : ∀ (xs : List α), xs.length - 1 < xs.length → xs.eraseIdx (xs.length - 1) = xs.dropLast
  | [], h => by simp at h
  | [_], _ => rfl
  | x :: y :: r, _ => by
    have := erase_last (y :: r) (by simp)
    simp only [List.length_cons, Nat.add_sub_cancel] at this ⊢
    rw [List.dropLast_cons₂, ← this]
    rfl
theorem AllF.last {H : Hp} {xs : List α} {vs : List V} {F : Fp} {x : α} (h : AllF A H xs vs F) (e : xs.getLast? = some x) : ∃ v F1 F2, vs[vs.length - 1]? = some v ∧ (A x).h v H F1 ∧ AllF A H xs.dropLast vs.dropLast F2 ∧ (∀ a, F1 a → ¬ F2 a) ∧ ∀ a, (F1 a ∨ F2 a) ↔ F a := by
  have l := h.length
  rw [List.getLast?_eq_getElem?] at e
  obtain ⟨v, F1, F2, a, b, c, d, s⟩ := h.split (i := xs.length - 1) (x := x) e
  refine ⟨v, F1, F2, by rw [← l]; exact a, b, ?_, d, s⟩
  have lx := (List.getElem?_eq_some_iff.mp e).1
  have e1 : xs.eraseIdx (xs.length - 1) = xs.dropLast := erase_last xs lx
  have e2 : vs.eraseIdx (xs.length - 1) = vs.dropLast := by rw [l]; exact erase_last vs (by omega)
  rw [← e1, ← e2]
  exact c
def lpop (xs : List α) (_ : Unit) : Option (α × List α) := xs.getLast?.map fun x => (x, xs.dropLast)
theorem mo_pop : MOp rPop (isL A) nilLu A lpop := by
  intro c a v vs H F G z c' ⟨l, ws, G0, ev, r, h, n, eF⟩ ⟨e1, e2⟩ dj e Q k
  unfold lpop at e
  obtain ⟨x, ex, e3⟩ := Option.map_eq_some_iff.mp e
  cases e3
  subst e1 e2 eF
  obtain ⟨w, F1, F2, a1, a2, a3, a4, a5⟩ := h.last ex
  have kp : ∀ U : Fp, ¬ U l → Keep U H (upd H l (.lst ws.dropLast)) := fun U nU => upd_keep r trivial nU
  have n1 : ¬ F1 l := fun f => n ((a5 l).mp (.inl f))
  have n2 : ¬ F2 l := fun f => n ((a5 l).mp (.inr f))
  refine ⟨l, ws, w, ev, rfl, r, a1, ?_⟩
  refine k w (upd H l (.lst ws.dropLast)) (fun b => b = l ∨ F2 b) F1 ⟨l, ws.dropLast, F2, ev, upd_same, a3.stb (kp F2 n2), n2, rfl⟩ ((A _).stb a2 (kp F1 n1)) (fun y f g => g.elim (fun g => n1 (g ▸ f)) (a4 y f)) ?_
  refine Step.upd (.inl (.inl rfl)) fun y f => .inl (.inl ?_)
  rcases f with f | f | f
  · exact .inr ((a5 y).mp (.inl f))
  · exact .inl f
  · exact .inr ((a5 y).mp (.inr f))
def lpopAt (xs : List α) (z : Int × Unit) : Option (α × List α) := if smR z.1 = true then (ixN xs.length z.1).bind fun j => xs[j]?.map fun x => (x, xs.eraseIdx j) else none
theorem mo_popAt : MOp rPopAt (isL A) (fun z => consL (isI z.1) (nilLu z.2)) A lpopAt := by
  intro c a v vs H F G z c' ⟨l, ws, G0, ev, r, h, n, eF⟩ ⟨w, r1, F1', F2', e1, h1, ⟨e2, e3⟩, _, eG⟩ dj e Q k
  unfold lpopAt at e
  split at e
  · rename_i hc
    simp only [smR, Bool.and_eq_true, decide_eq_true_eq] at hc
    obtain ⟨j, ej, e4⟩ := Option.bind_eq_some_iff.mp e
    obtain ⟨y0, ex, e5⟩ := Option.map_eq_some_iff.mp e4
    cases e5
    subst e2 e3
    subst e1 eF
    have := h1.1
    subst this
    obtain ⟨w, F1, F2, a1, a2, a3, a4, a5⟩ := h.split ex
    have kp : ∀ U : Fp, ¬ U l → Keep U H (upd H l (.lst (ws.eraseIdx j))) := fun U nU => upd_keep r trivial nU
    have n1 : ¬ F1 l := fun f => n ((a5 l).mp (.inl f))
    have n2 : ¬ F2 l := fun f => n ((a5 l).mp (.inr f))
    refine ⟨l, ws, a.1, j, w, ev, rfl, r, by omega, by omega, by rw [← h.length]; exact (ixN_seq ej).1, a1, ?_⟩
    refine k w (upd H l (.lst (ws.eraseIdx j))) (fun b => b = l ∨ F2 b) F1 ⟨l, ws.eraseIdx j, F2, ev, upd_same, a3.stb (kp F2 n2), n2, rfl⟩ ((A _).stb a2 (kp F1 n1)) (fun y f g => g.elim (fun g => n1 (g ▸ f)) (a4 y f)) ?_
    refine Step.upd (.inl (.inl rfl)) fun y f => .inl (.inl ?_)
    rcases f with f | f | f
    · exact .inr ((a5 y).mp (.inl f))
    · exact .inl f
    · exact .inr ((a5 y).mp (.inr f))
  · cases e
/-- the slot that a statement changes, alone -/
theorem lens1 {Γ : Cxt} (i : Nat) {C : κ → Ass} {c0 : κ} {p : Option V} (e : Γ[i]? = some (.own p (C c0))) : Lens (fun c => Γ.set i (.own p (C c))) i C id (fun _ c => c) :=
  ⟨fun s => ⟨p, List.getElem?_set_self (List.getElem?_eq_some_iff.mp e).1, fun c => by simp⟩⟩
theorem set_back {Γ : Cxt} {i : Nat} {sl : Sl} (e : Γ[i]? = some sl) : Γ.set i sl = Γ := by
  apply List.ext_getElem?
  intro j
  by_cases h : j = i
  · subst h
    rw [List.getElem?_set_self (List.getElem?_eq_some_iff.mp e).1, e]
  · rw [List.getElem?_set_ne (Ne.symm h)]
end
end Rf
/-! Rf9: dicts. Own work. -/
namespace Rf
open PySem PySem.Spec L2

section
variable {κ α : Type} [DecidableEq κ]
def dget (d : List (κ × α)) (k : κ) : Option α := (d.find? fun p => decide (p.1 = k)).map (·.2)
def dhas (d : List (κ × α)) (k : κ) : Bool := (dget d k).isSome
def dput (d : List (κ × α)) (k : κ) (x : α) : List (κ × α) := if (d.any fun p => decide (p.1 = k)) = true then d.map (fun p => if p.1 = k then (p.1, x) else p) else d ++ [(k, x)]
def dputL (d : List (κ × α)) (k : κ) (x : α) : Option (List (κ × α)) := if d.length < sizeLine then some (dput d k x) else none
def dmerge (d e : List (κ × α)) : List (κ × α) := e.foldl (fun acc p => dput acc p.1 p.2) d
end
/-- a kind of keys: by what they are described, as what they stand in the dict -/
structure KK (κ : Type) [DecidableEq κ] where
  K' : Type
  dec : DecidableEq K'
  A : κ → Ass
  kf : κ → K'
  ho : List (K' × V) → HO
  inj : ∀ a b, kf a = kf b → a = b
  mu : ∀ l, Mut (some (ho l))
  get : ∀ {H : Hp} {a : Addr} {kvs : List (K' × V)} {k : κ} {y : V} {F : Fp}, H a = some (ho kvs) → (A k).h y H F → DGet H a y (valV kvs (kf k))
  put : ∀ {H : Hp} {a : Addr} {kvs : List (K' × V)} {k : κ} {y v : V} {F : Fp}, H a = some (ho kvs) → (A k).h y H F → kvs.length < sizeLine → DPut H a y v (upd H a (ho (putK kvs (kf k) v)))
  new : ∀ {X : Cx} {pos : Pos}, PE X (.Dict [] [] pos) (fun _ H Q => ∀ p, H p = none → Q (.ref p) (upd H p (ho [])))
instance {κ : Type} [DecidableEq κ] (k : KK κ) : DecidableEq k.K' := k.dec
/-- keys that are ints or texts -/
@[reducible] def kkey {κ : Type} [DecidableEq κ] (A : κ → Ass) (kf : κ → Key) (inj : ∀ a b, kf a = kf b → a = b) (hA : ∀ k v H F, (A k).h v H F → v = kV (kf k)) : KK κ := ⟨Key, inferInstance, A, kf, .dK, inj, fun _ => trivial, fun e h => by
  rw [hA _ _ _ _ h]
  exact DGet.k e, fun e h l => by
  rw [hA _ _ _ _ h]
  exact DPut.k e l, pe_dnewK⟩
@[reducible] def kI : KK Int := kkey isI Sum.inl (fun _ _ e => Sum.inl.inj e) fun _ _ _ _ h => h.1
@[reducible] def kS : KK Str := kkey isS Sum.inr (fun _ _ e => Sum.inr.inj e) fun _ _ _ _ h => h.1
theorem pairI {x y : Int} {v : V} {H : Hp} {F : Fp} (h : (isP isI isI (x, y)).h v H F) : ∃ b, v = .ref b ∧ H b = some (.tup (([.inl x, .inl y] : List Key).map kV)) := by
  obtain ⟨a, vs, rfl, r, v1, r1, F1, F2, rfl, ha, ⟨v2, r2, F3, F4, rfl, hb, ⟨rfl, rfl⟩, _, rfl⟩, _, rfl⟩ := h
  rw [show v1 = V.int _ from ha.1, show v2 = V.int _ from hb.1] at r
  exact ⟨a, rfl, r⟩
/-- pairs of ints -/
def kP : KK (Int × Int) := ⟨List Key, inferInstance, isP isI isI, fun p => [.inl p.1, .inl p.2], .dT, fun a b e => by
  obtain ⟨a1, a2⟩ := a
  obtain ⟨b1, b2⟩ := b
  simp only [List.cons.injEq, Sum.inl.injEq, and_true] at e
  rw [e.1, e.2], fun _ => trivial, fun e h => by
  obtain ⟨b, rfl, eb⟩ := pairI h
  exact DGet.t e eb, fun e h l => by
  obtain ⟨b, rfl, eb⟩ := pairI h
  exact DPut.t e eb l, pe_dnewT⟩

section
variable {κ α β γ S : Type} [DecidableEq κ] {K : KK κ} {A : α → Ass} {H H' : Hp}
/-- what stands in a dict, one by one -/
def AllD (K : KK κ) (A : α → Ass) (H : Hp) : List (κ × α) → List (K.K' × V) → Fp → Prop
  | [], [], F => F = no
  | p :: d, q :: kvs, F => q.1 = K.kf p.1 ∧ ∃ F1 F2, (A p.2).h q.2 H F1 ∧ AllD K A H d kvs F2 ∧ (∀ a, F1 a → ¬ F2 a) ∧ F = un F1 F2
  | [], _ :: _, _ => False
  | _ :: _, [], _ => False
theorem AllD.length : ∀ {d : List (κ × α)} {kvs : List (K.K' × V)} {F : Fp}, AllD K A H d kvs F → d.length = kvs.length
  | [], [], _, _ => rfl
  | _ :: _, _ :: _, _, ⟨_, _, _, _, h, _⟩ => by simp [AllD.length h]
  | [], _ :: _, _, h => h.elim
  | _ :: _, [], _, h => h.elim
theorem AllD.trk : ∀ {d : List (κ × α)} {kvs : List (K.K' × V)} {F : Fp} {a : Addr}, AllD K A H d kvs F → F a → Mut (H a)
  | [], [], _, _, h, q => by rw [show _ = no from h] at q; exact q.elim
  | p :: _, _ :: _, _, _, ⟨_, _, _, h1, h2, _, e⟩, q => by subst e; exact q.elim ((A p.2).trk h1) (AllD.trk h2)
  | [], _ :: _, _, _, h, _ => h.elim
  | _ :: _, [], _, _, h, _ => h.elim
theorem AllD.stb : ∀ {d : List (κ × α)} {kvs : List (K.K' × V)} {F : Fp}, AllD K A H d kvs F → Keep F H H' → AllD K A H' d kvs F
  | [], [], _, h, _ => h
  | p :: _, _ :: _, _, ⟨e0, F1, F2, h1, h2, d, e⟩, k => by subst e; exact ⟨e0, F1, F2, (A p.2).stb h1 (k.sub fun _ => .inl), AllD.stb h2 (k.sub fun _ => .inr), d, rfl⟩
  | [], _ :: _, _, h, _ => h.elim
  | _ :: _, [], _, h, _ => h.elim
theorem AllD.nil [i : Imm A] : ∀ {d : List (κ × α)} {kvs : List (K.K' × V)} {F : Fp}, AllD K A H d kvs F → F = no
  | [], [], _, h => h
  | _ :: _, _ :: _, _, ⟨_, _, _, h1, h2, _, e⟩ => by rw [e, i.nil h1, AllD.nil h2, no_un]
  | [], _ :: _, _, h => h.elim
  | _ :: _, [], _, h => h.elim
theorem dget_cons {p : κ × α} {d : List (κ × α)} {k : κ} : dget (p :: d) k = if p.1 = k then some p.2 else dget d k := by
  unfold dget
  rw [List.find?_cons]
  by_cases h : p.1 = k <;> simp [h]
theorem AllD.get : ∀ {d : List (κ × α)} {kvs : List (K.K' × V)} {F : Fp} {k : κ} {x : α}, AllD K A H d kvs F → dget d k = some x → ∃ v G, valV kvs (K.kf k) = some v ∧ (A x).h v H G ∧ ∀ a, G a → F a
  | [], [], _, _, _, _, e => by simp [dget] at e
  | p :: d, q :: kvs, _, k, x, ⟨e0, F1, F2, h1, h2, _, e⟩, g => by
    subst e
    rw [dget_cons] at g
    by_cases c : p.1 = k
    · rw [if_pos c] at g
      cases g
      exact ⟨q.2, F1, valV_pos (by rw [e0, c]), h1, fun _ => .inl⟩
    · rw [if_neg c] at g
      obtain ⟨v, G, a, b, s⟩ := AllD.get h2 g
      exact ⟨v, G, by rw [valV_neg (by rw [e0]; exact fun z => c (K.inj _ _ z))]; exact a, b, fun y f => .inr (s y f)⟩
  | [], _ :: _, _, _, _, h, _ => h.elim
  | _ :: _, [], _, _, _, h, _ => h.elim
theorem AllD.isSome : ∀ {d : List (κ × α)} {kvs : List (K.K' × V)} {F : Fp} {k : κ}, AllD K A H d kvs F → (valV kvs (K.kf k)).isSome = (dget d k).isSome
  | [], [], _, _, _ => rfl
  | p :: d, q :: kvs, _, k, ⟨e0, F1, F2, h1, h2, _, e⟩ => by
    rw [dget_cons]
    by_cases c : p.1 = k
    · rw [if_pos c, valV_pos (by rw [e0, c])]; rfl
    · rw [if_neg c, valV_neg (by rw [e0]; exact fun z => c (K.inj _ _ z))]
      exact AllD.isSome h2
  | [], _ :: _, _, _, h => h.elim
  | _ :: _, [], _, _, h => h.elim
theorem AllD.any : ∀ {d : List (κ × α)} {kvs : List (K.K' × V)} {F : Fp} {k : κ}, AllD K A H d kvs F → (kvs.any fun kv => decide (kv.1 = K.kf k)) = d.any fun p => decide (p.1 = k)
  | [], [], _, _, _ => rfl
  | p :: d, q :: kvs, _, k, ⟨e0, F1, F2, h1, h2, _, e⟩ => by
    rw [List.any_cons, List.any_cons, AllD.any h2, e0]
    congr 1
    by_cases c : p.1 = k
    · simp [c]
    · have : ¬ K.kf p.1 = K.kf k := fun z => c (K.inj _ _ z)
      simp [c, this]
  | [], _ :: _, _, _, h => h.elim
  | _ :: _, [], _, _, h => h.elim
theorem AllD.repl [i : Imm A] {k : κ} {x : α} {v : V} (hx : (A x).h v H no) : ∀ {d : List (κ × α)} {kvs : List (K.K' × V)}, AllD K A H d kvs no → AllD K A H (d.map fun p => if p.1 = k then (p.1, x) else p) (kvs.map fun kv => if kv.1 = K.kf k then (kv.1, v) else kv) no
  | [], [], _ => rfl
  | p :: d, q :: kvs, ⟨e0, F1, F2, h1, h2, dd, e⟩ => by
    have z1 := i.nil h1
    have z2 := h2.nil
    subst z1 z2
    have ih := AllD.repl (k := k) hx h2
    simp only [List.map_cons]
    by_cases c : p.1 = k
    · rw [if_pos c, if_pos (by rw [e0, c])]
      exact ⟨e0, no, no, hx, ih, fun _ z => z.elim, (no_un no).symm⟩
    · rw [if_neg c, if_neg (by rw [e0]; exact fun z => c (K.inj _ _ z))]
      exact ⟨e0, no, no, h1, ih, fun _ z => z.elim, (no_un no).symm⟩
  | [], _ :: _, h => h.elim
  | _ :: _, [], h => h.elim
theorem AllD.snoc [i : Imm A] {k : κ} {x : α} {v : V} (hx : (A x).h v H no) : ∀ {d : List (κ × α)} {kvs : List (K.K' × V)}, AllD K A H d kvs no → AllD K A H (d ++ [(k, x)]) (kvs ++ [(K.kf k, v)]) no
  | [], [], _ => ⟨rfl, no, no, hx, rfl, fun _ z => z.elim, (no_un no).symm⟩
  | p :: d, q :: kvs, ⟨e0, F1, F2, h1, h2, dd, e⟩ => by
    have z1 := i.nil h1
    have z2 := h2.nil
    subst z1 z2
    exact ⟨e0, no, no, h1, AllD.snoc hx h2, fun _ z => z.elim, (no_un no).symm⟩
  | [], _ :: _, h => h.elim
  | _ :: _, [], h => h.elim
theorem AllD.put [i : Imm A] {k : κ} {x : α} {v : V} (hx : (A x).h v H no) {d : List (κ × α)} {kvs : List (K.K' × V)} (h : AllD K A H d kvs no) : AllD K A H (dput d k x) (putK kvs (K.kf k) v) no := by
  unfold dput putK
  rw [h.any]
  split
  · exact AllD.repl hx h
  · exact AllD.snoc hx h
theorem AllD.merge [i : Imm A] : ∀ {e : List (κ × α)} {ms : List (K.K' × V)} {d : List (κ × α)} {kvs : List (K.K' × V)}, AllD K A H e ms no → AllD K A H d kvs no → AllD K A H (dmerge d e) (ms.foldl (fun acc kv => putK acc kv.1 kv.2) kvs) no
  | [], [], _, _, _, h => h
  | p :: e, q :: ms, d, kvs, ⟨e0, F1, F2, h1, h2, dd, ef⟩, h => by
    have z1 := i.nil h1
    have z2 := h2.nil
    subst z1 z2
    have ih := AllD.merge (d := dput d p.1 p.2) (kvs := putK kvs q.1 q.2) h2 (by rw [e0]; exact AllD.put h1 h)
    exact ih
  | [], _ :: _, _, _, h, _ => h.elim
  | _ :: _, [], _, _, h, _ => h.elim

/-- a dict -/
def isD (K : KK κ) (A : α → Ass) (d : List (κ × α)) : Ass := ⟨fun v H F => ∃ a kvs G, v = .ref a ∧ H a = some (K.ho kvs) ∧ AllD K A H d kvs G ∧ ¬ G a ∧ F = fun b => b = a ∨ G b,
  fun {v H F b} ⟨a, kvs, G, _, r, h, _, e⟩ q => by
    subst e
    rcases q with q | q
    · rw [q, r]; exact K.mu kvs
    · exact h.trk q,
  fun ⟨a, kvs, G, e, r, h, n, ef⟩ k => by
    subst ef
    exact ⟨a, kvs, G, e, k a _ r (.inl (.inl rfl)), h.stb (k.sub fun _ => .inr), n, rfl⟩⟩

variable {X : Cx} {Γ : Cxt} {e i : Expr} {p : Option (List (κ × α))} {q : Option κ} {pos pp : Pos}
theorem al_dget (hu : X.A.units + 1 < cLine) (h : Al X Γ e p (isD K A)) (g : Al X Γ i q K.A) (hs : NoSl i := by intro _ _; rfl) : Al X Γ (.Subscript e i pos) (p.bind fun d => q.bind fun k => dget d k) A := .mk fun σ H Fs s z ez Q k => by
  obtain ⟨d, e1, e0⟩ := Option.bind_eq_some_iff.mp ez
  obtain ⟨y, e2, e3⟩ := Option.bind_eq_some_iff.mp e0
  refine TEof.of (pe_dget hu (pe_of X e) (pe_of X i) hs) ?_
  refine h σ H Fs s d e1 _ fun v H1 F s1 h1 c1 => ?_
  refine g σ H1 Fs (s.same s1) y e2 _ fun u H2 F2 s2 h2 c2 => ?_
  obtain ⟨a, kvs, G, ev, r, hd, _, eF⟩ := Ass.same h1 s2
  obtain ⟨w, G', a1, a2, a3⟩ := hd.get e3
  refine ⟨a, w, ev, by rw [← a1]; exact K.get r h2, k w H2 G' (s1.trans s2) a2 fun x f => ?_⟩
  exact c1 x (by rw [eF]; exact .inr (a3 x f))
theorem te_din (hu : X.A.units + 1 < cLine) (g : Al X Γ i q K.A) (h : Al X Γ e p (isD K A)) (hm : behindInMarks .In e = false := by rfl) : Te X Γ (.Compare i [.In] [e] pos) (q.bind fun k => p.bind fun d => some (dhas d k)) := .mk fun σ H Fs s z ez Q k => by
  obtain ⟨y, e1, e0⟩ := Option.bind_eq_some_iff.mp ez
  obtain ⟨d, e2, e3⟩ := Option.bind_eq_some_iff.mp e0
  cases e3
  refine TTof.of (pt_cmp (pc_din hu (pe_of X i) (pe_of X e)) hm) ?_
  refine g σ H Fs s y e1 _ fun u H1 F1 s1 h1 _ => ?_
  refine h σ H1 Fs (s.same s1) d e2 _ fun v H2 F2 s2 ⟨a, kvs, G, ev, r, hd, _, eF⟩ _ => ?_
  exact ⟨a, _, ev, K.get r (Ass.same h1 s2), _, rfl, by rw [hd.isSome]; exact k H2 (s1.trans s2)⟩
theorem te_dnotin (hu : X.A.units + 1 < cLine) (g : Al X Γ i q K.A) (h : Al X Γ e p (isD K A)) (hm : behindInMarks .NotIn e = false := by rfl) : Te X Γ (.Compare i [.NotIn] [e] pos) (q.bind fun k => p.bind fun d => some (!dhas d k)) := .mk fun σ H Fs s z ez Q k => by
  obtain ⟨y, e1, e0⟩ := Option.bind_eq_some_iff.mp ez
  obtain ⟨d, e2, e3⟩ := Option.bind_eq_some_iff.mp e0
  cases e3
  refine TTof.of (pt_cmp (pc_dnotin hu (pe_of X i) (pe_of X e)) hm) ?_
  refine g σ H Fs s y e1 _ fun u H1 F1 s1 h1 _ => ?_
  refine h σ H1 Fs (s.same s1) d e2 _ fun v H2 F2 s2 ⟨a, kvs, G, ev, r, hd, _, eF⟩ _ => ?_
  exact ⟨a, _, ev, K.get r (Ass.same h1 s2), _, rfl, by rw [hd.isSome]; exact k H2 (s1.trans s2)⟩
theorem pu_dnew (K : KK κ) (A : α → Ass) : Pu X Γ (.Dict [] [] pos) (some []) (isD K A) := .mk fun σ H Fs s z ez Q k => by
  cases ez
  exact TEof.of K.new fun p n => k (.ref p) _ (fun b => b = p ∨ no b) (upd_new n) ⟨p, [], no, rfl, upd_same, rfl, fun z => z, rfl⟩ fun x f => f.elim (fun f => f ▸ n) False.elim
/-- d[k] = x, d in slot j -/
theorem sn_dput [im : Imm A] (j : Nat) {d : List (κ × α)} {pv : Option V} {n : Str} {value : Expr} {r : Option α} {pos' p0 : Pos} (ej : Γ[j]? = some (.own pv (isD K A d))) (hu : X.A.units + 1 < cLine) (hv : Al X Γ value r A) (g : Al X Γ i q K.A)
    (hN : X.N[j]? = some n := by rfl) (hvs : Vis X.env.scope n := by exact visOf rfl) (hd : (n == ("__debug__" : Str)) = false := by decide) (hcd : (n == ("__classdict__" : Str)) = false := by decide)
    (hs : swapsWith value (some (.Subscript (.Name n p0) i pos')) pos.line X.env = pure false := by rfl) : Sn X Γ (.Assign [.Subscript (.Name n p0) i pos'] value pos) (r.bind fun x => q.bind fun k => dputL d k x) (fun d' => Γ.set j (.own pv (isD K A d'))) := .mk fun σ H Fs s z ez D k => by
  obtain ⟨x, e1, e0⟩ := Option.bind_eq_some_iff.mp ez
  obtain ⟨y, e2, e3⟩ := Option.bind_eq_some_iff.mp e0
  unfold dputL at e3
  split at e3
  · rename_i hz
    cases e3
    refine TSof.of (ps_dput hu (pe_var hN hvs hd hcd) (pe_of X i) (pe_of X value) hs) ?_
    obtain ⟨v0, ev0, h0, hp⟩ := s.own j pv _ ej
    refine hv σ H Fs s x e1 _ fun w H1 F1 s1 h1 _ => ⟨v0, ev0, ?_⟩
    refine g σ H1 Fs (s.same s1) y e2 _ fun u H2 F2 s2 h2 _ => ?_
    have s12 := s1.trans s2
    obtain ⟨a, kvs, G, ev, r, hd, nG, eF⟩ := Ass.same h0 s12
    have z := hd.nil
    subst z
    have hw := Ass.same h1 s2
    have z := im.nil hw
    subst z
    refine ⟨a, _, ev, K.put (v := w) r h2 (by rw [← hd.length]; exact hz), ?_⟩
    have kp : Keep no H2 (upd H2 a (K.ho (putK kvs (K.kf y) w))) := upd_keep r (K.mu kvs) fun z => z
    have t : Step (Fs j) H2 (fun b => b = a ∨ no b) (upd H2 a (K.ho (putK kvs (K.kf y) w))) := Step.upd (by rw [eF]; exact .inl rfl) fun b f => .inl (by rw [eF]; exact f)
    obtain ⟨a1, a2⟩ := (s.same s12).chg ej ev0 (B := isD K A (dput d y x)) ⟨a, _, no, ev, upd_same, (AllD.put hw hd).stb kp, fun z => z, rfl⟩ t
    refine k σ _ _ a1 ⟨(Step.same (O' := Own Γ Fs) s12 fun _ => .inl).trans a2, fun l B el => ?_⟩
    have hl : l ≠ j := fun z => by
      subst z
      rw [List.getElem?_set_self (List.getElem?_eq_some_iff.mp ej).1] at el
      cases el
    rw [List.getElem?_set_ne (Ne.symm hl)] at el
    exact ⟨⟨B, el⟩, setF_ne hl, rfl⟩
  · cases e3
/-! ### d.update(e) -/
def rUpdate : V → List V → Hp → VK → Prop := fun x vs H Q => ∃ a b kvs ms, x = .ref a ∧ vs = [.ref b] ∧ a ≠ b ∧ H a = some (.dK kvs) ∧ H b = some (.dK ms) ∧ kvs.length + ms.length ≤ sizeLine ∧ Q .non (upd H a (.dK (mergeK kvs ms)))
theorem mt_update : MtR X "dict.update" rUpdate := by
  intro pins s σ H x xs v us Q I r rs ⟨a, b, kvs, ms, e1, e2, ne, ha, hb, hz, q⟩
  subst e1 e2
  cases r
  obtain ⟨u, rfl, ru⟩ := vals1 rs
  cases ru
  obtain ⟨z1, l1, vs, rel, dd⟩ := dk_of I.hok ha
  obtain ⟨z2, l2, ws, rel2, dd2⟩ := dk_of I.hok hb
  refine call_meetsIn PySem.F.slot_dict_update dd.typeIs PySem.F.entry_dict_update (PySem.F.args_dict_update_2 _ _) (meets_dict_update (mixKind X.prog X.w) a b ne l2) ⟨vs, ws, dd, dd2, by rw [← rel.length, ← rel2.length]; exact hz, fun h' d1 d2 sb => ?_⟩
  have he : ∃ q, h'.get? a = some q := let ⟨q, _, _, hq, _⟩ := d1; ⟨q, hq⟩
  have hm := KV.merge (more := ms) rel2 rel
  exact ⟨.non, _, d_write (t' := s.toks) I (by rw [ha]; exact True.intro) sb he (dk_new (Nat.le_trans (length_mergeK ms kvs) hz) l1 hm d1), rfl, q⟩
def dupd (d e : List (κ × α)) : Option (List (κ × α)) := if d.length + e.length ≤ sizeLine then some (dmerge d e) else none
/-! ### sorted(d), the keys ints -/
theorem keys_ints {H : Hp} {α : Type} {A : α → Ass} : ∀ {d : List (Int × α)} {kvs : List (Key × V)} {F : Fp}, AllD kI A H d kvs F → kvs.map (·.1) = (d.map (·.1)).map Sum.inl
  | [], [], _, _ => rfl
  | p :: d, q :: kvs, _, ⟨e0, _, _, _, h, _⟩ => by
    have ih := keys_ints h
    simp only [List.map_cons, ih]
    exact congrArg (· :: _) e0
  | [], _ :: _, _, h => h.elim
  | _ :: _, [], _, h => h.elim
def rSortedDI : List V → Hp → VK → Prop := fun xs H Q => ∃ (a : Addr) (kvs : List (Key × V)) (ks : List Int), xs = [.ref a] ∧ H a = some (.dK kvs) ∧ kvs.map (·.1) = ks.map Sum.inl ∧
  ∀ (ys : List Int) (p : Addr), ys.Perm ks → ys.Pairwise (· ≤ ·) → H p = none → Q (.ref p) (upd H p (.lst (ys.map V.int)))
theorem call_sortedDI (hc : X.calm = true) : CallR X (.builtin "sorted") rSortedDI := by
  intro pins s σ H xs us Q I r ⟨a, kvs, ks, ex, hd, hks, q⟩
  subst ex
  obtain ⟨u, rfl, rx⟩ := vals1 r
  cases rx
  obtain ⟨z, lo, vs, rel, dd⟩ := dk_of I.hok hd
  obtain ⟨ep, hat⟩ := dd.dictAt
  have hkeys : vs.map (·.1) = ks.map Sum.inl := rel.keys.symm.trans hks
  have hl : vs.length = ks.length := by
    have e := congrArg List.length hkeys
    rwa [List.length_map, List.length_map] at e
  have h16 : vs.length ≤ sizeLine := by rw [← rel.length]; exact z
  refine Calls.call_function_entry PyProof.Rows.kind_sorted PyProof.Rows.plain_sorted PyProof.Rows.entry_sorted (PyProof.Rows.args_sorted1 _) ?_
  unfold Builtin.«sorted»
  refine wpAny_bind (m := checkCount "sorted" 1 1 _) (wpAny_pure (wpAny_bind ?_))
  refine PySem.W.kdu_collect (A := X.A.in1) (PySem.W.kdl_dict (knd := mixKind X.prog X.w) (kvs := vs) (ep := ep) lo) (I.ok.hd hc) hat h16 fun h' tk acc hk hacc => ?_
  have hal : acc.toList.length = ks.length := by rw [Array.length_toList, hacc.1, hl]
  have hS : PyProof.Rows.IntsAre acc.toList ks := L2.ints_each hal fun j v e => by
    rw [Array.getElem?_toList] at e
    obtain ⟨k, x, e1, e2⟩ := hacc.2 j v e
    have e3 : (vs.map (·.1))[j]? = some k := by rw [List.getElem?_map, e1]; rfl
    rw [hkeys, List.getElem?_map] at e3
    obtain ⟨y, e4, rfl⟩ := Option.map_eq_some_iff.mp e3
    rcases keyIs_shape (show keyIs (Sum.inl y) v = true from e2) with ⟨i, t, ek, ev⟩ | ⟨z, t, ek, ev⟩
    · cases ek
      exact ⟨y, t, e4, ev⟩
    · cases ek
  have I1 : Inv X pins σ H { s with heap := h', toks := tk } := I.kept hk
  have hz : acc.toList.length ≤ sizeLine := by rw [hal, ← hl]; exact h16
  refine wpAny_bind (wpAny_newList ?_ hz)
  have hoL : (h'.push (PyProof.Rows.seqObj "list" acc.toList.toArray 0)).get? h'.objs.size = some (PyProof.Rows.seqObj "list" acc.toList.toArray 0) := Heap.get?_push_size _ rfl
  show wpAny _ _ _ _ _ { s with heap := h'.push (PyProof.Rows.seqObj "list" acc.toList.toArray 0), toks := tk }
  refine wpAny_bind (wpAny_holding (wpAny_call_entry PyProof.Rows.slot_list_sort ⟨_, hoL, rfl⟩ PyProof.Rows.entry_list_sort
    (SrtO.list_sort_ord SrtO.swo_int hoL hz (fun h2 => SrtO.ints_sortable hS h2) fun out g1 g2 => ⟨_, rfl, ?_⟩) (PyProof.Rows.args_list_sort _)))
  obtain ⟨k1, k2, k3⟩ := SrtO.ints_out hS g1 g2
  obtain ⟨e', he'⟩ := PyProof.Rows.sortedHeap_at (vs := acc.toList) (out := out.toArray) hoL
  have hlen : ((out.map SrtO.iv).map V.int).length ≤ sizeLine := by
    rw [List.length_map, k2.length_eq, ← hal]
    exact hz
  refine wpAny_pure ⟨_, rfl, .ref h'.objs.size, upd H h'.objs.size (.lst ((out.map SrtO.iv).map V.int)), I1.laid (t' := tk) (fun b u e => ?_) (Nat.le_refl _)
    (show ObjOk X.prog X.w _ _ _ (.lst ((out.map SrtO.iv).map V.int)) from ⟨hlen, out, e', vals_of_ints k1, he'⟩), rfl, q _ _ k2 k3 (I1.hok.fresh (Nat.le_refl _))⟩
  have hb : b < h'.objs.size := Heap.lt_size e
  rw [PyProof.Rows.sortedHeap_old (Nat.ne_of_lt hb) (by rw [PyProof.Rows.size_push']; exact Nat.lt_succ_of_lt hb)]
  exact Heap.get?_push_of_some _ e
theorem c_sortedDI : Cl1 rSortedDI (isD kI A) (isL isI) (fun d => some (isort (d.map (·.1)))) := by
  intro x v H F z ⟨a, kvs, G, ev, r, hd, _, eF⟩ e Q k
  cases e
  subst ev
  refine ⟨a, kvs, x.map (·.1), rfl, r, keys_ints hd, fun ns p pm st n => ?_⟩
  have := isort_unique pm st
  subst this
  obtain ⟨sm, hl⟩ := new_list n (vals_ints (H := H) (isort (x.map (·.1))))
  exact k _ _ _ sm hl fun b t => t.elim (fun t => t ▸ n) False.elim
theorem ty_Dk {A0 : κ → Ass} {kf : κ → Key} {inj : ∀ a b, kf a = kf b → a = b} {hA : ∀ k v H F, (A0 k).h v H F → v = kV (kf k)} : TyOk "dict" (isD (kkey A0 kf inj hA) A) := fun {K c v H F} ⟨a, kvs, G, ev, r, _⟩ => by
  subst ev
  exact .inr (.inr (.inl ⟨rfl, .inl ⟨kvs, r⟩⟩))
/-- d.update(e), d in slot j, e another dict of the same kind, read only -/
theorem sn_update {A0 : κ → Ass} {kf : κ → Key} {inj : ∀ a b, kf a = kf b → a = b} {hA : ∀ k v H F, (A0 k).h v H F → v = kV (kf k)} [im : Imm A] (j : Nat) {d : List (κ × α)} {pv : Option V} {n : Str} {p0 apos cpos : Pos} {r : Option (List (κ × α))} (ej : Γ[j]? = some (.own pv (isD (kkey A0 kf inj hA) A d))) (hv : Al X (Γ.set j .dead) e r (isD (kkey A0 kf inj hA) A))
    (hN : X.N[j]? = some n := by rfl) (hvs : Vis X.env.scope n := by exact visOf rfl) (hd : (n == ("__debug__" : Str)) = false := by decide) (hcd : (n == ("__classdict__" : Str)) = false := by decide)
    (hb : attributeBase (.Name n p0) "update" X.env (eval (.Name n p0) X.env) = eval (.Name n p0) X.env := by rfl) (hline : (apos.endLine == cpos.line) = true := by rfl) (he : starEach [e] X.env = [(false, eval e X.env)] := by rfl)
    (hfew : ((backTo cpos (starEach [e] X.env)).all (fun x => !x.1) && (backToKw cpos (keywordEach [] X.env)).all (fun x => x.1.isSome) && decide (([e] : List Expr).length + ([] : List Keyword).length + (if ([] : List Keyword).isEmpty then 0 else 1) < 30)) = true := by rfl)
    (hs : swapsWith (.Call (.Attribute (.Name n p0) "update" apos) [e] [] cpos) none pos.line X.env = pure false := by rfl) :
    Sn X Γ (.Expr (.Call (.Attribute (.Name n p0) "update" apos) [e] [] cpos) pos) (r.bind fun m => dupd d m) (fun d' => Γ.set j (.own pv (isD (kkey A0 kf inj hA) A d'))) := .mk fun σ H Fs s z ez D k => by
  obtain ⟨m, e1, e2⟩ := Option.bind_eq_some_iff.mp ez
  unfold dupd at e2
  split at e2
  · rename_i hz
    cases e2
    obtain ⟨v0, ev0, h0, hp⟩ := s.own j pv _ ej
    refine TSof.of (ps_expr (pe_bm PySem.F.plainAttrs_dict PySem.F.slot_dict_update PySem.F.type_dict_update mt_update (pe_var hN hvs hd hcd) (pa_cons (pe_of X e) pa_nil he) hb hfew hline he rfl) hs) ⟨v0, ev0, ?_⟩
    refine ⟨ty_Dk h0, ?_⟩
    refine hv σ H Fs (s.ent (ent_dead Γ j)) m e1 _ fun u H1 F s1 h1 c1 => ?_
    obtain ⟨a, kvs, G, ev, r0, hd0, nG, eF⟩ := Ass.same h0 s1
    obtain ⟨b, ms, G2, eu, r2, hd2, nG2, eF2⟩ := h1
    have z := hd0.nil
    subst z
    have z := hd2.nil
    subst z
    have hab : a ≠ b := fun z => by
      subst z
      have fa : Fs j a := by rw [eF]; exact .inl rfl
      rcases c1 a (by rw [eF2]; exact .inl rfl) with ⟨i, ei, gi⟩ | nn
      · have hj : i ≠ j := fun z => by
          subst z
          rw [List.getElem?_set_self (List.getElem?_eq_some_iff.mp ej).1] at ei
          rcases ei with ⟨_, _, ei⟩ | ⟨_, ei⟩ <;> cases ei
        rw [List.getElem?_set_ne (Ne.symm hj)] at ei
        exact s.dj j i pv _ (Ne.symm hj) ej ei a fa gi
      · have := s.trk (a := a) ⟨j, _, _, ej, fa⟩
        rw [nn] at this
        exact this
    refine ⟨a, b, kvs, ms, ev, by rw [eu], hab, r0, r2, by rw [← hd0.length, ← hd2.length]; exact hz, ?_⟩
    have kp : Keep no H1 (upd H1 a (.dK (mergeK kvs ms))) := upd_keep r0 trivial fun z => z
    have t : Step (Fs j) H1 (fun b => b = a ∨ no b) (upd H1 a (.dK (mergeK kvs ms))) := Step.upd (by rw [eF]; exact .inl rfl) fun b f => .inl (by rw [eF]; exact f)
    obtain ⟨a1, a2⟩ := (s.same s1).chg ej ev0 (B := isD (kkey A0 kf inj hA) A (dmerge d m)) ⟨a, _, no, ev, upd_same, (AllD.merge hd2 hd0).stb kp, fun z => z, rfl⟩ t
    refine k σ _ _ a1 ⟨(Step.same (O' := Own Γ Fs) s1 fun _ => .inl).trans a2, fun l B el => ?_⟩
    have hl : l ≠ j := fun z => by
      subst z
      rw [List.getElem?_set_self (List.getElem?_eq_some_iff.mp ej).1] at el
      cases el
    rw [List.getElem?_set_ne (Ne.symm hl)] at el
    exact ⟨⟨B, el⟩, setF_ne hl, rfl⟩
  · cases e2
end
end Rf
/-! Rf10: the rules as the printed derivations use them. Own work. -/
namespace Rf
open PySem PySem.Spec L2
theorem room1 {k : Nat} {A : Around} (r : Room k A) : A.units + 1 < cLine := Nat.lt_of_le_of_lt (Nat.add_le_add_left (by decide) _) r.units
section
variable {ι α β γ ρ δ S : Type} {X : Cx} {Γ : Cxt} {pos : Pos} {st : Stmt} {rest : List Stmt} {A : α → Ass} {e : Expr} {p : Option α}
theorem isSome_lt {Γ : Cxt} {i : Nat} (h : (Γ[i]?).isSome = true) : i < Γ.length := by
  cases e : Γ[i]? with
  | none => rw [e] at h; cases h
  | some x => exact (List.getElem?_eq_some_iff.mp e).1
theorem sn_st (i : Nat) {x : Str} {pos' : Pos} (nd : X.N.Nodup) (he : Pu X Γ e p A) (hi : (Γ[i]?).isSome = true := by rfl) (hx : X.N[i]? = some x := by rfl) (hl : Loc X.env.scope x := by exact locOf rfl) (hf : X.fn x = true ∨ X.env.scope.names.lookup x = some .local := by exact fnOf rfl)
    (hs : swapsWith e (some (.Name x pos')) pos.line X.env = pure false := by rfl) : Sn X Γ (.Assign [.Name x pos'] e pos) p (fun a => Γ.set i (.own none (A a))) := sn_set i he (isSome_lt hi) nd hx hl hf hs
theorem sn_stE (i : Nat) {Γ : S → Cxt} {s0 : S} {m : Option (α × S)} {x : Str} {pos' : Pos} (nd : X.N.Nodup) (he : Ef X Γ s0 e m A) (hi : ∀ s, ((Γ s)[i]?).isSome = true := by intro _; rfl) (hx : X.N[i]? = some x := by rfl) (hl : Loc X.env.scope x := by exact locOf rfl) (hf : X.fn x = true ∨ X.env.scope.names.lookup x = some .local := by exact fnOf rfl)
    (hs : swapsWith e (some (.Name x pos')) pos.line X.env = pure false := by rfl) : Sn X (Γ s0) (.Assign [.Name x pos'] e pos) m (fun a => (Γ a.2).set i (.own none (A a.1))) := sn_setE i he (fun s => isSome_lt (hi s)) nd hx hl hf hs
theorem tn (i : Nat) {x : Str} {B : ι → Ass} (nd : X.N.Nodup) (hi : X.N[i]? = some x := by rfl) (hx : Loc X.env.scope x := by exact locOf rfl) (hf : X.fn x = true ∨ X.env.scope.names.lookup x = some .local := by exact fnOf rfl) : Tg X (.Name x pos) B [i] (fun Γ x => Γ.set i (.lnt (B x))) := tg_name i nd hi hx hf
/-- all of the slots are dead -/
def deadAt (Γ : Cxt) (is : List Nat) : Bool := is.all fun i => match Γ[i]? with
  | some .dead => true
  | _ => false
theorem deadAt_of {Γ : Cxt} {is : List Nat} (h : deadAt Γ is = true) {i : Nat} (m : i ∈ is) : Γ[i]? = some .dead := by
  have := List.all_eq_true.mp h i m
  split at this
  · assumption
  · cases this
theorem sn_fr {G : Type} (Γ : G → Cxt) (g0 : G) {tg iter : Expr} {p : Option (List ι)} {B : ι → Ass} {is : List Nat} {N : Cxt → ι → Cxt} {f : ι → G → Option G} {body : List Stmt} (hw : Wa X (Γ g0) tg iter p B) (ht : Tg X tg B is N) (hb : ∀ x g, Bn X (N (Γ g) x) body (f x g) Γ)
    (hd : ∀ g, deadAt (Γ g) is = true := by intro _; rfl) (hp : PassesOwn (model X.prog X.w) X.A X.env X.xe := by exact PassesOwn.never) (hc : X.calm = true := by rfl) (hs : ∀ x, foldedSetIterable iter X.env x = pure x := by intro _; rfl) :
    Sn X (Γ g0) (.For tg iter body [] pos) (p.bind fun xs => foldO f xs g0) Γ := sn_for hw ht hb (fun g i m => deadAt_of (hd g) m) hp hc hs
theorem sx_fr {G : Type} (Γ : G → Cxt) (g0 : G) {tg iter : Expr} {p : Option (List ι)} {B : ι → Ass} {is : List Nat} {N : Cxt → ι → Cxt} {L0 : γ → Cxt} {R0 : Rt ρ} {f : ι → G → Option (Fl G G ρ)} {body : List Stmt} (hw : Wa X (Γ g0) tg iter p B) (ht : Tg X tg B is N) (hb : ∀ x g, Bx X (N (Γ g) x) body (f x g) Γ Γ R0)
    (hd : ∀ g, deadAt (Γ g) is = true := by intro _; rfl) (hp : PassesOwn (model X.prog X.w) X.A X.env X.xe := by exact PassesOwn.never) (hc : X.calm = true := by rfl) (hs : ∀ x, foldedSetIterable iter X.env x = pure x := by intro _; rfl) :
    Sx X (Γ g0) (.For tg iter body [] pos) (p.bind fun xs => foldX f xs g0) Γ L0 R0 := sx_for hw ht hb (fun g i m => deadAt_of (hd g) m) hp hc hs
theorem bn_end {b : β} {N : β → Cxt} (h : Ent Γ (N b)) : Bn X Γ [] (some b) N := bn_nil h
/-- a context as a list, kill the slots that are dead -/
theorem Sn.to {st : Stmt} {m : Option β} {N : β → Cxt} {M : δ → Cxt} (h : Sn X Γ st m N) (g : β → δ) (en : ∀ b, Ent (N b) (M (g b))) : Sn X Γ st (m.map g) M := .mk fun σ H Fs s d e D q => by
  obtain ⟨b, e1, rfl⟩ := Option.map_eq_some_iff.mp e
  exact h σ H Fs s b e1 D fun σ' H' F' t u => q σ' H' F' (t.ent (en b)) (u.trans (Mv.ent (en b)))
end
end Rf
/-! Rf11: more rules: built-ins by name, immediate values own or lent, moves, effects in operators. Own work. -/
namespace Rf
open PySem PySem.Spec L2
theorem bt_len : bootBuiltins "len" = some (.builtin "len") := by decide +kernel
theorem bt_abs : bootBuiltins "abs" = some (.builtin "abs") := by decide +kernel
theorem bt_sum : bootBuiltins "sum" = some (.builtin "sum") := by decide +kernel
theorem bt_min : bootBuiltins "min" = some (.builtin "min") := by decide +kernel
theorem bt_max : bootBuiltins "max" = some (.builtin "max") := by decide +kernel
theorem bt_sorted : bootBuiltins "sorted" = some (.builtin "sorted") := by decide +kernel
theorem bt_isinstance : bootBuiltins "isinstance" = some (.builtin "isinstance") := by decide +kernel
theorem bt_int : bootBuiltins "int" = some (.type "int") := by decide +kernel
theorem bt_bool : bootBuiltins "bool" = some (.type "bool") := by decide +kernel
theorem bt_str : bootBuiltins "str" = some (.type "str") := by decide +kernel
theorem bt_list : bootBuiltins "list" = some (.type "list") := by decide +kernel
theorem bt_tuple : bootBuiltins "tuple" = some (.type "tuple") := by decide +kernel
theorem bt_dict : bootBuiltins "dict" = some (.type "dict") := by decide +kernel
theorem bt_set : bootBuiltins "set" = some (.type "set") := by decide +kernel
section
variable {ι α β γ ρ δ S : Type} {X : Cx} {Γ Δ : Cxt} {pos : Pos} {st : Stmt} {sts rest : List Stmt} {A : α → Ass} {B : β → Ass} {e e2 : Expr} {p : Option α}
theorem Sn.ent {m : Option β} {N : β → Cxt} (en : Ent Γ Δ) (h : Sn X Δ st m N) : Sn X Γ st m N := .mk fun σ H Fs s d e D q =>
  h σ H Fs (s.ent en) d e D fun σ' H' F' t u => q σ' H' F' t ((Mv.ent en).trans u)
theorem Sx.ent {m : Option (Fl β γ ρ)} {N : β → Cxt} {L : γ → Cxt} {R : Rt ρ} (en : Ent Γ Δ) (h : Sx X Δ st m N L R) : Sx X Γ st m N L R := .mk fun σ H Fs s d e D q =>
  h σ H Fs (s.ent en) d e D (q.step (Mv.ent en))
/-- a value that owns nothing: own is as good as lent -/
theorem Sat.imm [i : Imm A] {σ : L2.St} {H : Hp} {Fs : Nat → Fp} {j : Nat} {a : α} (s : Sat Γ σ H Fs) (e : Γ[j]? = some (.lnt (A a))) : Sat (Γ.set j (.own none (A a))) σ H Fs := by
  have hi := (List.getElem?_eq_some_iff.mp e).1
  obtain ⟨v, ev, h⟩ := s.lnt j _ e
  have hn := i.nil h
  refine ⟨by simp [s.len], fun k p B ek => ?_, fun k B ek => ?_, fun k l p B n ek c => ?_⟩
  · by_cases hk : k = j
    · subst hk
      rw [List.getElem?_set_self hi] at ek
      cases ek
      exact ⟨v, ev, h, fun u z => by cases z⟩
    · rw [List.getElem?_set_ne (Ne.symm hk)] at ek
      exact s.own k p B ek
  · by_cases hk : k = j
    · subst hk
      rw [List.getElem?_set_self hi] at ek
      cases ek
    · rw [List.getElem?_set_ne (Ne.symm hk)] at ek
      exact s.lnt k B ek
  · by_cases hk : k = j
    · subst hk
      intro a f
      rw [hn] at f
      exact f.elim
    · rw [List.getElem?_set_ne (Ne.symm hk)] at ek
      by_cases hl : l = j
      · subst hl
        intro a f g
        rw [hn] at g
        exact g.elim
      · rw [List.getElem?_set_ne (Ne.symm hl)] at c
        exact s.dj k l p B n ek c
theorem Mv.imm [i : Imm A] {σ : L2.St} {H : Hp} {Fs : Nat → Fp} {j : Nat} {a : α} (s : Sat Γ σ H Fs) (e : Γ[j]? = some (.lnt (A a))) : Mv Γ Fs σ H (Γ.set j (.own none (A a))) Fs σ H := by
  have hi := (List.getElem?_eq_some_iff.mp e).1
  obtain ⟨v, ev, h⟩ := s.lnt j _ e
  have hn := i.nil h
  refine ⟨Step.same (Same.refl H) fun x ⟨k, p, B, ek, f⟩ => .inl ?_, fun k B ek => ?_⟩
  · by_cases hk : k = j
    · subst hk
      rw [hn] at f
      exact f.elim
    · rw [List.getElem?_set_ne (Ne.symm hk)] at ek
      exact ⟨k, p, B, ek, f⟩
  · by_cases hk : k = j
    · subst hk
      rw [List.getElem?_set_self hi] at ek
      cases ek
    · rw [List.getElem?_set_ne (Ne.symm hk)] at ek
      exact ⟨⟨B, ek⟩, rfl, rfl⟩
theorem Bx.imm [Imm A] (j : Nat) {a : α} {m : Option (Fl β γ ρ)} {N : β → Cxt} {L : γ → Cxt} {R : Rt ρ} (e : Γ[j]? = some (.lnt (A a))) (h : Bx X (Γ.set j (.own none (A a))) sts m N L R) : Bx X Γ sts m N L R := .mk fun σ H Fs s f ef D q =>
  h σ H Fs (s.imm e) f ef D (q.step (Mv.imm s e))
theorem Bn.imm [Imm A] (j : Nat) {a : α} {m : Option β} {N : β → Cxt} (e : Γ[j]? = some (.lnt (A a))) (h : Bn X (Γ.set j (.own none (A a))) sts m N) : Bn X Γ sts m N := .mk fun σ H Fs s f ef D q =>
  h σ H Fs (s.imm e) f ef D fun σ' H' F' t u => q σ' H' F' t ((Mv.imm s e).trans u)
/-- a new list is walked -/
theorem wa_new {tg : Expr} {p : Option (List α)} (h : Pu X Γ e p (isL A)) : Wa X Γ tg e p A := .mk fun σ H Fs s xs ex R q => by
  refine TIof.of (pi_list (pe_of X e)) ?_
  refine h σ H Fs s xs ex _ fun v H1 F sm hF fr => ?_
  obtain ⟨a, vs, G, ev, r, hv, na, eF⟩ := id hF
  refine ⟨a, ev, ⟨vs, .inl (.inl r)⟩, ?_⟩
  have hl := hv.length
  refine q _ H1 F sm ⟨fun H => H a = some (.lst vs) ∧ AllF A H xs vs G, YAt vs, ?_, ⟨r, hv⟩, fun H1 H2 g k => ⟨k a _ g.1 (.inl (by rw [eF]; exact .inl rfl)), g.2.stb (k.sub fun b f => by rw [eF]; exact .inr f)⟩, fun b f => (isL A xs).trk hF f, fun i x v H1 H2 e g y => ?_⟩ fun b f o => s.out (fr b f) o
  · rw [hl]
    exact (walk_list (K := X.K) (a := a) (xs := vs)).mono (fun H g => .inl (.inl g.1)) fun _ _ _ _ _ _ y => y
  · obtain ⟨rfl, ey⟩ := y
    obtain ⟨w, G', ew, hw, sub⟩ := g.2.get e
    rw [ew] at ey
    cases ey
    exact ⟨Same.refl H2, G', hw, fun y f => by rw [eF]; exact .inr (sub y f)⟩
/-- break, continue -/
theorem sx_break {g : γ} {N : β → Cxt} {L : γ → Cxt} {R : Rt ρ} (h : Ent Γ (L g)) : Sx X Γ (.Break pos) (some (.bk g)) N L R := .mk fun σ H Fs s f ef D q => by
  cases ef
  exact TSof.of ps_break (q σ H Fs (s.ent h) (Mv.ent h))
theorem sx_cont {g : γ} {N : β → Cxt} {L : γ → Cxt} {R : Rt ρ} (h : Ent Γ (L g)) : Sx X Γ (.Continue pos) (some (.ct g)) N L R := .mk fun σ H Fs s f ef D q => by
  cases ef
  exact TSof.of ps_continue (q σ H Fs (s.ent h) (Mv.ent h))
theorem sn_pass : Sn X Γ (.Pass pos) (some ()) (fun _ => Γ) := .mk fun σ H Fs s f ef D q => TSof.of ps_pass (q σ H Fs s (Mv.same (Same.refl H)))
/-- x += e, x an int in slot i -/
theorem sn_aug (i : Nat) {x : Str} {pos' : Pos} {n : Int} {pv : Option V} {r : Option Int} {op : Operator} {f : Int → Int → Int} (nd : X.N.Nodup) (ei : Γ[i]? = some (.own pv (isI n))) (ho : PIp X op (ipI f)) (he : Al X Γ e r isI) (hx : X.N[i]? = some x := by rfl) (hl : Loc X.env.scope x := by exact locOf rfl) (hf : X.fn x = true ∨ X.env.scope.names.lookup x = some .local := by exact fnOf rfl) :
    Sn X Γ (.AugAssign (.Name x pos') op e pos) (r.map fun k => f n k) (fun z => Γ.set i (.own none (isI z))) := .mk fun σ H Fs s z ez D q => by
  obtain ⟨k, ek, rfl⟩ := Option.map_eq_some_iff.mp ez
  obtain ⟨v, ev, h0, _⟩ := s.own i pv _ ei
  have hi := (List.getElem?_eq_some_iff.mp ei).1
  refine TSof.of (ps_aug nd hx hl (pe_of X e) ho hf) ⟨v, ev, ?_⟩
  refine he σ H Fs s k ek _ fun w H1 F s1 h1 _ => ⟨n, k, h0.1, h1.1, ?_⟩
  have st := (s.same s1).set (A := isI (f n k)) (v := .int (f n k)) (F := no) hi ⟨rfl, rfl⟩ (fun _ z => z.elim) fun _ _ _ _ z => z.elim
  refine q _ H1 (setF Fs i no) st ⟨Step.same s1 fun b o => ?_, fun j B ej => ?_⟩
  · rcases Own.set hi o with f | o
    · exact f.elim
    · exact .inl o
  · have hj : j ≠ i := fun z => by
      subst z
      rw [List.getElem?_set_self hi] at ej
      cases ej
    rw [List.getElem?_set_ne (Ne.symm hj)] at ej
    exact ⟨⟨B, ej⟩, setF_ne hj, List.getElem?_set_ne (Ne.symm hj)⟩
/-! ### texts -/
theorem pe_revS {k : Nat} {p1 p2 p3 pos : Pos} {te : TE} (he : PE X e te) : PE X (.Subscript e (.Slice none none (some (.UnaryOp .USub (.Constant (.int 1) k p1) p2)) p3) pos) (fun σ H Q => te σ H fun x H1 => ∃ z, x = .str z ∧ z.length ≤ sizeLine ∧ Q (.str ⟨z.cps.toList.reverse.toArray⟩) H1) := by
  refine ⟨fun pins s σ H Q I h => ?_⟩
  refine PyProof.Rows.Subscript_ (thn (he.run pins s σ H _ I h) fun v s1 ⟨x, H1, I1, r1, q1⟩ => ?_)
  obtain ⟨z, ex, hz, q⟩ := q1
  subst ex
  obtain ⟨t, rfl⟩ := r1
  have hst : PO X (some (.UnaryOp .USub (.Constant (.int 1) k p1) p2)) (tPart (tUn (rU fun i => .int (-i)) (tC (.int 1)))) := po_some (pe_un un_neg pe_int)
  refine wpAny_Slice (thn (po_none.run pins s1 σ H1 (fun o H2 => o = none ∧ H2 = H1) I1 ⟨rfl, rfl⟩) fun vl s2 ⟨l, H2, I2, pl, el, e2⟩ => ?_)
  subst el e2
  refine thn (po_none.run pins s2 σ H2 (fun o H3 => o = none ∧ H3 = H2) I2 ⟨rfl, rfl⟩) fun vu s3 ⟨u, H3, I3, pu, eu, e3⟩ => ?_
  subst eu e3
  refine thn (hst.run pins s3 σ H3 (fun o H4 => o = some (-1) ∧ H4 = H3) I3 ⟨1, rfl, -1, rfl, rfl, rfl⟩) fun vs s4 ⟨o, H4, I4, ps, eo, e4⟩ => ?_
  subst eo e4
  have I5 : Inv X pins σ H4 { s4 with heap := s4.heap.push { cls := .type "slice", data := .fields #[vl, vu, vs] } } := I4.kept (t' := s4.toks) fun b ob q => Heap.get?_push_of_some _ q
  show wpAny (model X.prog X.w) X.A (PyProof.Rows.subscriptTail e (.Slice none none (some (.UnaryOp .USub (.Constant (.int 1) k p1) p2)) p3) (.str z t) (.ref s4.heap.objs.size)) (EP X pins σ Q) X.xe { s4 with heap := s4.heap.push { cls := .type "slice", data := .fields #[vl, vu, vs] } }
  obtain ⟨l, rfl, el⟩ := IsPart.raw pl
  obtain ⟨u, rfl, eu⟩ := IsPart.raw pu
  obtain ⟨w, rfl, ew⟩ := IsPart.raw ps
  cases l with
  | some l => cases el
  | none =>
  cases u with
  | some u => cases eu
  | none =>
  cases w with
  | none => cases ew
  | some w =>
  obtain ⟨w1, w2⟩ := w
  have hw : w1 = -1 := Option.some.inj ew
  subst hw
  refine PyProof.Rows.tail_any (ops := [.str z t, .ref s4.heap.objs.size]) (typeIs_str _ _ _) PySem.F.slot_str_getitem.lookup ?_ (by with_unfolding_all rfl)
  refine wpAny_getItem_str_slice (l := none) (u := none) (st := some (-1, w2)) ?_ rfl ?_
  · exact ⟨_, Heap.get?_push_size _ rfl, rfl, rfl⟩
  have e1 := PyProof.Rows.step_rev_list z w2
  have hl : z.cps.toList.reverse = (List.range z.length).map fun k => z.cps.getD (z.length - 1 - k) 0 := by
    apply List.ext_getElem?
    intro i
    by_cases hi : i < z.length
    · have hz' : i < z.cps.toList.length := by rw [Array.length_toList]; exact hi
      rw [List.getElem?_reverse hz', Array.length_toList, List.getElem?_map, List.getElem?_range hi, Array.getElem?_toList]
      have hk : z.cps.size - 1 - i < z.cps.size := by
        have : i < z.cps.size := hi
        omega
      rw [Array.getElem?_eq_getElem hk]
      show some _ = some (z.cps.getD (z.cps.size - 1 - i) 0)
      rw [Array.getD_eq_getD_getElem?, Array.getElem?_eq_getElem hk]
      rfl
    · rw [List.getElem?_eq_none (by rw [List.length_reverse, Array.length_toList]; exact Nat.le_of_not_lt hi), List.getElem?_eq_none (by simp; omega)]
  rw [← hl] at e1
  have e2 : (⟨((slicePicked z none none (some (-1, w2))).filterMap (z.cps[·]?)).toArray⟩ : Str) = ⟨z.cps.toList.reverse.toArray⟩ := by
    have e3 : (⟨((slicePicked z none none (some (-1, w2))).filterMap (z.cps[·]?)).toArray⟩ : Str) = Txt.sliceBy z none none (-1, w2) := rfl
    rw [e3, ← e1, Array.toArray_toList]
  show Made.post (Made.str ⟨((slicePicked z none none (some (-1, w2))).filterMap (z.cps[·]?)).toArray⟩) _ _
  rw [e2]
  exact ⟨by simpa [Str.length] using hz, .str _, H4, I5.tok _, ⟨_, rfl⟩, q⟩
def srev (z : Str) : Option Str := if z.length ≤ sizeLine then some ⟨z.cps.toList.reverse.toArray⟩ else none
theorem pu_revS {p : Option Str} {k : Nat} {p1 p2 p3 : Pos} (h : Al X Γ e p isS) : Pu X Γ (.Subscript e (.Slice none none (some (.UnaryOp .USub (.Constant (.int 1) k p1) p2)) p3) pos) (p.bind srev) isS := .mk fun σ H Fs s z ez Q q => by
  obtain ⟨x, e1, e2⟩ := Option.bind_eq_some_iff.mp ez
  unfold srev at e2
  split at e2
  · rename_i c
    cases e2
    refine TEof.of (pe_revS (pe_of X e)) ?_
    refine h σ H Fs s x e1 _ fun v H1 F s1 h1 _ => ⟨x, h1.1, c, ?_⟩
    exact q _ H1 no s1 ⟨rfl, rfl⟩ fun _ z => z.elim
  · cases e2
end
end Rf
/-! Rf12: texts times a number, joined texts, equality of data. Own work. -/
namespace Rf
open PySem PySem.Spec L2
def sreps (z : Str) (n : Int) : Str := ⟨(List.replicate n.toNat z.cps.toList).flatten.toArray⟩
theorem foldl_app (c : Array Nat) : ∀ (n : Nat) (a : Array Nat), (List.replicate n c).foldl (· ++ ·) a = (a.toList ++ (List.replicate n c.toList).flatten).toArray
  | 0, a => by simp
  | n + 1, a => by
    rw [List.replicate_succ, List.foldl_cons, foldl_app c n]
    simp [List.replicate_succ]
theorem sreps_len (z : Str) (n : Int) : (sreps z n).length = z.length * n.toNat := by
  unfold sreps Str.length
  simp [Nat.mul_comm]
theorem op_mulS {X : Cx} : OpR X (binaryOp .Mult) (fun x y H Q => ∃ z n, x = .str z ∧ y = .int n ∧ smR n = true ∧ z.length * n.toNat ≤ sizeLine ∧ Q (.str (sreps z n)) H) := by
  intro pins s σ H x y v u Q I r1 r2 ⟨z, n, e1, e2, hn, hz, q⟩
  subst e1 e2
  obtain ⟨t, rfl⟩ := r1
  obtain ⟨t2, rfl⟩ := r2
  simp only [smR, Bool.and_eq_true, decide_eq_true_eq] at hn
  have hs : sizeLine = 16777216 := by decide
  have hb0 : ¬ n < 1 → (z.length : Int) * n ≤ 16777216 := fun h => by
    have e : n = (n.toNat : Int) := by omega
    have : ((z.length * n.toNat : Nat) : Int) ≤ 16777216 := by omega
    rw [e]
    simpa using this
  refine PySem.P.mul_str (by
    have h1 : ¬ n < -(2 ^ 63 : Int) := by omega
    have h2 : ¬ n ≥ 2 ^ 63 := by omega
    rw [decide_eq_false h1, decide_eq_false h2]; rfl) (fun h _ => ?_) (fun h _ => ?_) ?_
  · have := hb0 h
    have hp : 0 < n := by omega
    intro hc
    have h3 : (z.length : Int) ≤ (2 ^ 63 - 1) / n := Int.le_ediv_of_mul_le hp (by omega)
    omega
  · unfold Builtin.Str.tooLong
    simp
    omega
  · by_cases h1 : n < 1
    · rw [if_pos h1]
      have e : sreps z n = Str.empty := by
        unfold sreps
        rw [show n.toNat = 0 by omega]
        rfl
      rw [e] at q
      exact ⟨by decide, .str _, H, I.tok _, ⟨_, rfl⟩, q⟩
    · rw [if_neg h1]
      by_cases h2 : (n == 1 || z.length == 0) = true
      · rw [if_pos h2]
        have e : sreps z n = z := by
          simp only [Bool.or_eq_true, beq_iff_eq] at h2
          rcases h2 with h2 | h2
          · subst h2
            unfold sreps
            simp
          · have hc : z.cps = #[] := Array.eq_empty_of_size_eq_zero h2
            unfold sreps
            cases z with
            | mk c =>
              simp only at hc
              subst hc
              simp
        rw [e] at q
        exact ⟨.str z, H, I, ⟨t, rfl⟩, q⟩
      · rw [if_neg h2]
        have e : (⟨(List.replicate n.toNat z.cps).foldl (· ++ ·) #[]⟩ : Str) = sreps z n := by
          rw [foldl_app]
          unfold sreps
          simp
        rw [e]
        exact ⟨by rw [sreps_len]; exact hz, .str _, H, I.tok _, ⟨_, rfl⟩, q⟩
def smul (z : Str) (n : Int) : Option Str := if smR n = true ∧ z.length * n.toNat ≤ sizeLine then some (sreps z n) else none
theorem o_mulS : Op2 (fun x y H Q => ∃ z n, x = .str z ∧ y = .int n ∧ smR n = true ∧ z.length * n.toNat ≤ sizeLine ∧ Q (.str (sreps z n)) H) isS isI isS smul := by
  intro x y v u H F G z hx hy e Q k
  unfold smul at e
  split at e
  · rename_i c
    cases e
    exact ⟨x, y, hx.1, hy.1, c.1, c.2, k _ H no (Same.refl H) ⟨rfl, rfl⟩ fun _ z => z.elim⟩
  · cases e
section
variable {ι α β γ ρ δ S : Type} {X : Cx} {Γ Δ : Cxt} {pos : Pos} {A : α → Ass} {B : β → Ass} {e e2 : Expr} {p : Option α}
/-! ### "x".join(xs) -/
theorem strs_vals {H : Hp} : ∀ {xs : List Str} {vs : List V} {F : Fp}, AllF isS H xs vs F → vs = xs.map V.str
  | [], [], _, _ => rfl
  | x :: xs, v :: vs, _, ⟨_, _, h1, h2, _⟩ => by rw [strs_vals h2, show v = .str x from h1.1]; rfl
  | [], _ :: _, _, h => h.elim
  | _ :: _, [], _, h => h.elim
def sjoin (a : Str) (ys : List Str) : Option Str := if (ys.map (·.length)).sum + ys.length * a.length ≤ 16777216 then some (Txt.join a ys) else none
theorem join_at {a : Str} {ys : List Str} {v : V} {H : Hp} {F : Fp} (h : (isL isS ys).h v H F) {z : Str} (ez : sjoin a ys = some z) {Q : VK} {K : PySem.W.Frag} (q : Q (.str z) H) : ∃ a' p, ∃ ys' : List Str, V.str a = .str a' ∧ [v] = [.ref p] ∧ (SqL K H p (ys'.map V.str) ∨ SqT K H p (ys'.map V.str)) ∧
    (ys'.map (·.length)).sum + ys'.length * a'.length ≤ 16777216 ∧ Q (.str (Txt.join a' ys')) H := by
  obtain ⟨l, vs, G, ev, r, hv, _⟩ := h
  have := strs_vals hv
  subst this ev
  unfold sjoin at ez
  split at ez
  · cases ez
    exact ⟨a, l, ys, rfl, rfl, .inl (.inl (.inl r)), by assumption, q⟩
  · cases ez
theorem tyS {K : PySem.W.Frag} {x : Str} {H : Hp} : tyV K "str" (.str x) H := rfl
theorem pu_join {a : Str} {j : Nat} {p0 apos : Pos} {r : Option (List Str)} (ha : Al X Γ e r (isL isS))
    (hb : attributeBase (.Constant (.str a) j p0) "join" X.env (eval (.Constant (.str a) j p0) X.env) = eval (.Constant (.str a) j p0) X.env := by rfl) (hline : (apos.endLine == pos.line) = true := by rfl) (he : starEach [e] X.env = [(false, eval e X.env)] := by rfl)
    (hfew : ((backTo pos (starEach [e] X.env)).all (fun x => !x.1) && (backToKw pos (keywordEach [] X.env)).all (fun x => x.1.isSome) && decide (([e] : List Expr).length + ([] : List Keyword).length + (if ([] : List Keyword).isEmpty then 0 else 1) < 30)) = true := by rfl) :
    Pu X Γ (.Call (.Attribute (.Constant (.str a) j p0) "join" apos) [e] [] pos) (r.bind fun ys => sjoin a ys) isS := .mk fun σ H Fs s z ez Q q => by
  obtain ⟨ys, e1, e2⟩ := Option.bind_eq_some_iff.mp ez
  refine TEof.of (pe_bm PySem.F.plainAttrs_str PySem.F.slot_str_join PySem.F.type_str_join mt_join pe_str (pa_cons (pe_of X e) pa_nil he) hb hfew hline he rfl) ⟨tyS, ?_⟩
  refine ha σ H Fs s ys e1 _ fun v H1 F s1 h1 _ => join_at h1 e2 ?_
  exact q _ H1 no s1 ⟨rfl, rfl⟩ fun _ z => z.elim
/-! ### equality of data -/
class Enc (A : α → Ass) where
  enc : α → PyData
  dp : ∀ {K x v H F}, (A x).h v H F → Dp K H v (enc x)
  lay : ∀ x, (enc x).canLay0 = true
  eq : ∀ x y, PyData.eqv (enc x) (enc y) = true ↔ x = y
  d : Nat
  dep : ∀ x, (enc x).depth ≤ d
instance : Enc isI := ⟨.int, fun h => by rw [show _ = V.int _ from h.1]; exact .int _, fun _ => rfl, fun x y => by simp [PyData.eqv], 0, fun _ => Nat.le_refl _⟩
instance : Enc isB := ⟨.bool, fun h => by rw [show _ = V.bl _ from h.1]; exact .bl _, fun _ => rfl, fun x y => by simp [PyData.eqv], 0, fun _ => Nat.le_refl _⟩
theorem dps {K : PySem.W.Frag} {H : Hp} [E : Enc A] : ∀ {xs : List α} {vs : List V} {F : Fp}, AllF A H xs vs F → DpAll K H vs (xs.map E.enc)
  | [], [], _, _ => .nil
  | x :: xs, v :: vs, _, ⟨_, _, h1, h2, _⟩ => .cons (E.dp h1) (dps h2)
  | [], _ :: _, _, h => h.elim
  | _ :: _, [], _, h => h.elim
theorem lays [E : Enc A] : ∀ xs : List α, PyData.canLayAll0 (xs.map E.enc) = true
  | [] => rfl
  | x :: xs => by
    show (PyData.canLay0 (E.enc x) && PyData.canLayAll0 (xs.map E.enc)) = true
    rw [E.lay, lays xs]; rfl
theorem deps [E : Enc A] : ∀ xs : List α, PyData.depthAll (xs.map E.enc) ≤ E.d
  | [] => Nat.zero_le _
  | x :: xs => Nat.max_le.mpr ⟨E.dep x, deps xs⟩
theorem eqs [E : Enc A] : ∀ xs ys : List α, PyData.eqvAll (xs.map E.enc) (ys.map E.enc) = true ↔ xs = ys
  | [], [] => by simp [PyData.eqvAll]
  | x :: xs, y :: ys => by simp [PyData.eqvAll, E.eq, eqs xs ys]
  | [], _ :: _ => by simp [PyData.eqvAll]
  | _ :: _, [] => by simp [PyData.eqvAll]
instance [E : Enc A] : Enc (isT A) := ⟨fun xs => .tuple (xs.map E.enc), fun {K x v H F} ⟨a, vs, ev, r, h⟩ => by subst ev; exact .tup (.inl (.inl r)) (dps h), fun xs => lays xs, fun xs ys => by rw [PyData.eqv]; exact eqs xs ys, E.d + 1, fun xs => Nat.succ_le_succ (deps xs)⟩
instance [E : Enc A] : Enc (isL A) := ⟨fun xs => .list (xs.map E.enc), fun {K x v H F} ⟨a, vs, G, ev, r, h, _⟩ => by subst ev; exact .lst (.inl (.inl r)) (dps h), fun xs => lays xs, fun xs ys => by rw [PyData.eqv]; exact eqs xs ys, E.d + 1, fun xs => Nat.succ_le_succ (deps xs)⟩
instance [E : Enc A] [E2 : Enc B] : Enc (isP A B) := ⟨fun x => .tuple [E.enc x.1, E2.enc x.2], fun {K x v H F} ⟨a, vs, ev, r, v1, r1, F1, F2, e1, h1, ⟨v2, r2, F3, F4, e2, h2, ⟨e3, _⟩, _⟩, _⟩ => by subst ev e1 e2 e3; exact .tup (.inl (.inl r)) (.cons (E.dp h1) (.cons (E2.dp h2) .nil)), fun x => by
  show (PyData.canLay0 (E.enc x.1) && (PyData.canLay0 (E2.enc x.2) && true)) = true
  rw [E.lay, E2.lay]; rfl, fun x y => by simp [PyData.eqv, PyData.eqvAll, E.eq, E2.eq, Prod.ext_iff], max E.d E2.d + 1, fun x => by
  show max (E.enc x.1).depth (max (E2.enc x.2).depth 0) + 1 ≤ _
  have h1 := E.dep x.1
  have h2 := E2.dep x.2
  omega⟩
theorem o_eqD [DecidableEq α] {K : PySem.W.Frag} [E : Enc A] (hd : decide (E.d ≤ 64) = true) : Op2 (rEqD K) A A isB (fun x y => some (decide (x = y))) := by
  intro x y v u H F G z hx hy e Q k
  cases e
  refine ⟨E.enc x, E.enc y, E.dp hx, E.dp hy, ?_, ?_, k _ H no (Same.refl H) ⟨?_, rfl⟩ fun _ z => z.elim⟩
  · unfold SeqAt.shaped
    rw [E.lay, decide_eq_true (Nat.le_trans (E.dep x) (of_decide_eq_true hd))]; rfl
  · unfold SeqAt.shaped
    rw [E.lay, decide_eq_true (Nat.le_trans (E.dep y) (of_decide_eq_true hd))]; rfl
  · congr 1
    rw [Bool.eq_iff_iff, E.eq, decide_eq_true_iff]
end
end Rf
/-! Rf13: displays of dicts, calls by keyword, tests of identity. Own work. -/
namespace Rf
open PySem PySem.Spec L2
section
variable {ι α β γ κ ρ δ S : Type} [DecidableEq κ] {X : Cx} {Γ Δ : Cxt} {pos : Pos} {A : α → Ass} {B : β → Ass} {e e2 : Expr} {p : Option α}
theorem pu_disp1 {A0 : κ → Ass} {kf : κ → Key} {inj : ∀ a b, kf a = kf b → a = b} {hA : ∀ k v H F, (A0 k).h v H F → v = kV (kf k)} [im : Imm A] {q : Option κ} (hk : Al X Γ e q A0) (hv : Pu X Γ e2 p A) :
    Pu X Γ (.Dict [some e] [e2] pos) (q.bind fun k => p.bind fun x => some [(k, x)]) (isD (kkey A0 kf inj hA) A) := .mk fun σ H Fs s z ez Q q' => by
  obtain ⟨k, e1, e0⟩ := Option.bind_eq_some_iff.mp ez
  obtain ⟨x, e2', e3⟩ := Option.bind_eq_some_iff.mp e0
  cases e3
  refine TEof.of (pe_disp (pps_cons (pe_of X e) (pe_of X e2) pps_nil) rfl rfl (by simp) (by simp)) ?_
  intro a na
  have s0 : Same H (upd H a (.dK [])) := upd_new na
  refine hk σ _ Fs (s.same s0) k e1 _ fun u H1 F1 s1 h1 _ => ?_
  refine hv σ H1 Fs ((s.same s0).same s1) x e2' _ fun v H2 F2 s2 h2 _ => ?_
  have ea : H2 a = some (.dK []) := s2 _ _ (s1 _ _ upd_same)
  have eu := hA _ _ _ _ h1
  subst eu
  have z2 := im.nil h2
  subst z2
  refine ⟨ea, [(kf k, v)], rfl, by simp, ?_⟩
  have em : mergeK [] [(kf k, v)] = [(kf k, v)] := rfl
  rw [em]
  have kp : ∀ b o, H b = some o → (upd H2 a (.dK [(kf k, v)])) b = some o := fun b o eb => by
    have nb : b ≠ a := fun z => by subst z; rw [na] at eb; cases eb
    rw [upd_ne nb]
    exact s2 _ _ (s1 _ _ (s0 _ _ eb))
  refine q' (.ref a) _ (fun b => b = a ∨ no b) kp ⟨a, _, no, rfl, upd_same, ⟨rfl, no, no, A x |>.stb h2 (upd_keep ea trivial fun z => z), rfl, fun _ z => z.elim, (no_un no).symm⟩, fun z => z, rfl⟩ fun b f => f.elim (fun f => f ▸ na) False.elim
theorem pu_disp1I [im : Imm A] {q : Option Int} (hk : Al X Γ e q isI) (hv : Pu X Γ e2 p A) : Pu X Γ (.Dict [some e] [e2] pos) (q.bind fun k => p.bind fun x => some [(k, x)]) (isD kI A) := pu_disp1 hk hv
theorem pu_disp1S [im : Imm A] {q : Option Str} (hk : Al X Γ e q isS) (hv : Pu X Γ e2 p A) : Pu X Γ (.Dict [some e] [e2] pos) (q.bind fun k => p.bind fun x => some [(k, x)]) (isD kS A) := pu_disp1 hk hv
/-- x, y = a pair -/
theorem tg2 (i j : Nat) {x y : Str} {p1 p2 : Pos} {k : Nat} (nd : X.N.Nodup) (hi : X.N[i]? = some x := by rfl) (hj : X.N[j]? = some y := by rfl) (hx : Loc X.env.scope x := by exact locOf rfl) (hy : Loc X.env.scope y := by exact locOf rfl)
    (hfx : X.fn x = true ∨ X.env.scope.names.lookup x = some .local := by exact fnOf rfl) (hfy : X.fn y = true ∨ X.env.scope.names.lookup y = some .local := by exact fnOf rfl) (hc : X.calm = true := by rfl)
    (h1 : (assignEach [.Name x p1, .Name y p2] X.env).map (·.2) = assign (.Name x p1) X.env :: (assignEach [.Name y p2] X.env).map (·.2) := by rfl) (h2 : (assignEach [.Name y p2] X.env).map (·.2) = assign (.Name y p2) X.env :: (assignEach [] X.env).map (·.2) := by rfl)
    (hn : (assignEach [.Name x p1, .Name y p2] X.env).length = 2 := by rfl) (hst : (assignEach [.Name x p1, .Name y p2] X.env).findIdx? (·.1) = none := by rfl) :
    Tg X (.Tuple [.Name x p1, .Name y p2] k pos) (isP A B) [i, j] (fun Γ z => (Γ.set i (.lnt (A z.1))).set j (.lnt (B z.2))) := ⟨_, pg_pair i j nd hi hj hx hy hfx hfy hc h1 h2 hn hst, tgs_pair i j⟩
/-- targets of comprehensions -/
theorem lcg1 (i : Nat) {x : Str} (nd : X.N.Nodup) (hi : X.N[i]? = some x := by rfl) (hx : Loc X.env.scope x := by exact locOf rfl) (hf : X.fn x = true ∨ X.env.scope.names.lookup x = some .local := by exact fnOf rfl) : PG X (.Name x pos) (gName i) := pg_name nd hi hx hf
def blkB (N : List Str) (sc scope : Scope) (own : List (Str × Nat)) : Bool :=
  decide (scope.kind = .function) && (scope.names.all fun y => decide (scope.names.lookup y.1 = some y.2)) && (own.all fun p => decide (N[p.2]? = some p.1))
    && (scope.names.all fun y => !decide (y.2 = .free) || decide (sc.names.lookup y.1 = some .cell) || decide (sc.names.lookup y.1 = some .free))
    && (scope.names.all fun y => !(decide (y.2 = .local) || decide (y.2 = .cell)) || (own.map (·.1)).contains y.1 || !N.contains y.1)
theorem blkOk {N : List Str} {sc scope : Scope} {own : List (Str × Nat)} (h : blkB N sc scope own = true) : BlkOk N sc scope own := by
  simp only [blkB, Bool.and_eq_true, decide_eq_true_eq, List.all_eq_true, Bool.or_eq_true, Bool.not_eq_true', decide_eq_false_iff_not] at h
  obtain ⟨⟨⟨⟨h1, h2⟩, h3⟩, h4⟩, h5⟩ := h
  refine ⟨h1, h2, h3, fun y m e => ?_, fun y m e => ?_⟩
  · rcases h4 y m with (q | q) | q
    · exact absurd e q
    · exact .inl q
    · exact .inr q
  · rcases h5 y m with (q | q) | q
    · simp only [Bool.or_eq_false_iff, decide_eq_false_iff_not] at q
      rcases e with e | e
      · exact absurd e q.1
      · exact absurd e q.2
    · exact .inl (by simpa using q)
    · exact .inr (by simpa using q)
def subB (is : List Nat) (own : List (Str × Nat)) : Bool := is.all fun i => (own.map (·.2)).contains i
theorem subB_of {is : List Nat} {own : List (Str × Nat)} (h : subB is own = true) : ∀ i ∈ is, i ∈ own.map (·.2) := fun i m => by
  have := List.all_eq_true.mp h i m
  simpa using this
def insB (Γ : Cxt) (own : List (Str × Nat)) : Bool := own.all fun p => (Γ[p.2]?).isSome
theorem insB_of {Γ : Cxt} {own : List (Str × Nat)} (h : insB Γ own = true) : ∀ i ∈ own.map (·.2), i < Γ.length := fun i m => by
  obtain ⟨p, hp, rfl⟩ := List.mem_map.mp m
  exact isSome_lt (List.all_eq_true.mp h p hp)
theorem lc {tg iter elt : Expr} {g : TG} {A : α → Ass} {B : ι → Ass} {is : List Nat} {N : Cxt → ι → Cxt} {p : Option (List ι)} {t : ι → Option Bool} {f : ι → Option α} {ifs : List Expr} {scope : Scope} (own : List (Str × Nat))
    (hN : X.N.Nodup) (hw : Wa X Γ tg iter p B) (hg : Blk X scope fun X' => PG X' tg g) (ht : TgS g B is N)
    (htt : ∀ x, Blk X scope fun X' => Tc X' (N (wipeC Γ (own.map (·.2))) x) ifs (t x)) (he : ∀ x, Blk X scope fun X' => Pu X' (N (wipeC Γ (own.map (·.2))) x) elt (f x) A)
    (ok : blkB X.N X.env.scope scope own = true := by rfl) (hi : subB is own = true := by rfl) (hv : insB Γ own = true := by rfl) (hc : X.calm = true := by rfl) (hs : ∀ x, foldedSetIterable iter X.env x = pure x := by intro _; rfl) :
    Pu X Γ (.ListComp elt [⟨tg, iter, ifs, 0⟩] scope pos) (p.bind fun xs => (compO t f xs).bind fits) (isL A) := pu_lc hc hN hw (blkOk ok) hg ht (subB_of hi) (insB_of hv) htt he hs
theorem sn_stLc (j : Nat) {tg iter elt : Expr} {g : TG} {A : α → Ass} {B : ι → Ass} {is : List Nat} {N : Cxt → ι → Cxt} {p : Option (List ι)} {t : ι → Option Bool} {f : ι → Option α} {ifs : List Expr} {scope : Scope} (own : List (Str × Nat)) {y : Str} {py spos : Pos}
    (hN : X.N.Nodup) (hw : Wa X Γ tg iter p B) (hg : Blk X scope fun X' => PG X' tg g) (ht : TgS g B is N)
    (htt : ∀ x, Blk X scope fun X' => Tc X' (N (wipeC Γ (own.map (·.2))) x) ifs (t x)) (he : ∀ x, Blk X scope fun X' => Pu X' (N (wipeC Γ (own.map (·.2))) x) elt (f x) A)
    (ok : blkB X.N X.env.scope scope own = true := by rfl) (hi : subB is own = true := by rfl) (hv : insB Γ own = true := by rfl) (hc : X.calm = true := by rfl)
    (hiy : (Γ[j]?).isSome = true := by rfl) (hy : X.N[j]? = some y := by rfl) (hyl : X.env.scope.names.lookup y = some .local := by rfl) (hsw : swapsWith (.ListComp elt [⟨tg, iter, ifs, 0⟩] scope pos) (some (.Name y py)) spos.line X.env = pure true := by rfl) (hs : ∀ x, foldedSetIterable iter X.env x = pure x := by intro _; rfl) :
    Sn X Γ (.Assign [.Name y py] (.ListComp elt [⟨tg, iter, ifs, 0⟩] scope pos) spos) (p.bind fun xs => (compO t f xs).bind fits) (fun zs => Γ.set j (.own none (isL A zs))) := sn_setLc j hc hN hw (blkOk ok) hg ht (subB_of hi) (insB_of hv) htt he (isSome_lt hiy) hy hyl hsw hs
theorem c_lenD {A0 : κ → Ass} {kf : κ → Key} {inj : ∀ a b, kf a = kf b → a = b} {hA : ∀ k v H F, (A0 k).h v H F → v = kV (kf k)} : Cl1 (fun xs H Q => ∃ a kvs, xs = [V.ref a] ∧ H a = some (.dK kvs) ∧ Q (.int kvs.length) H) (isD (kkey A0 kf inj hA) A) isI (fun xs => some (xs.length : Int)) := by
  intro x v H F z ⟨a, kvs, G, ev, r, h, _⟩ e Q k
  cases e
  subst ev
  exact ⟨a, kvs, rfl, r, k _ H no (Same.refl H) ⟨by rw [h.length], rfl⟩ fun _ z => z.elim⟩
end
end Rf
/-! Rf14: the law's cup: a list of a list of ints and an int. Own work. -/
namespace Rf
open PySem PySem.Spec L2
abbrev Cup := List Int × Int
def isCup (c : Cup) : Ass := ⟨fun v H F => ∃ a b, v = .ref a ∧ H a = some (.lst [.ref b, .int c.2]) ∧ H b = some (.lst (c.1.map V.int)) ∧ a ≠ b ∧ F = fun x => x = a ∨ x = b,
  fun {v H F x} ⟨a, b, _, h1, h2, _, e⟩ q => by
    subst e
    rcases q with rfl | rfl
    · rw [h1]; trivial
    · rw [h2]; trivial,
  fun ⟨a, b, e, h1, h2, n, ef⟩ k => by
    subst ef
    exact ⟨a, b, e, k a _ h1 (.inl (.inl rfl)), k b _ h2 (.inl (.inr rfl)), n, rfl⟩⟩
theorem o_cup0 {K : PySem.W.Frag} : Op2A (rIxL K) isCup isI (isL isI) (fun c i => if i = 0 then some c.1 else none) := by
  intro c i v u H F G z ⟨a, b, ev, h1, h2, n, eF⟩ hi e Q k
  dsimp only at e
  split at e
  · rename_i hz
    cases e
    subst hz ev eF
    refine ⟨a, _, 0, .ref b, rfl, hi.1, .inl (.inl h1), rfl, ?_⟩
    exact k (.ref b) H (fun x => x = b ∨ no x) (Same.refl H) ⟨b, _, no, rfl, h2, vals_ints c.1, fun z => z, rfl⟩ fun x f => .inl (.inr (f.resolve_right fun z => z))
  · cases e
theorem o_cup1 {K : PySem.W.Frag} : Op2A (rIxL K) isCup isI isI (fun c i => if i = 1 then some c.2 else none) := by
  intro c i v u H F G z ⟨a, b, ev, h1, h2, n, eF⟩ hi e Q k
  dsimp only at e
  split at e
  · rename_i hz
    cases e
    subst hz ev eF
    refine ⟨a, _, 1, .int c.2, rfl, hi.1, .inl (.inl h1), rfl, ?_⟩
    exact k _ H no (Same.refl H) ⟨rfl, rfl⟩ fun x f => f.elim
  · cases e
def cpop (c : Cup) : Option Cup := match c.1 with
  | [] => none
  | _ :: r => some (r, c.2)
def cset (c : Cup) (z : Int) : Option Cup := match c.1 with
  | [] => none
  | _ :: r => some (z :: r, c.2)
theorem ix0 (n : Nat) : ixN (n + 1) 0 = some 0 := by
  unfold ixN
  simp
section
variable {α β : Type} {X : Cx} {Γ : Cxt} {pos : Pos} {A : α → Ass} {e : Expr} {p : Option α}
theorem chg_mv {σ : L2.St} {H H1 H' : Hp} {Fs : Nat → Fp} {i : Nat} {pv : Option V} {B C : Ass} {F' : Fp} (s : Sat Γ σ H Fs) (s1 : Same H H1) (ei : Γ[i]? = some (.own pv B)) {v : V} (ev : σ[i]? = some (some v)) (h : C.h v H' F') (t : Step (Fs i) H1 F' H') :
    Sat (Γ.set i (.own pv C)) σ H' (setF Fs i F') ∧ Mv Γ Fs σ H (Γ.set i (.own pv C)) (setF Fs i F') σ H' := by
  obtain ⟨a1, a2⟩ := (s.same s1).chg ei ev h t
  refine ⟨a1, ⟨(Step.same (O' := Own Γ Fs) s1 fun _ => .inl).trans a2, fun l B el => ?_⟩⟩
  have hl : l ≠ i := fun z => by
    subst z
    rw [List.getElem?_set_self (List.getElem?_eq_some_iff.mp ei).1] at el
    cases el
  rw [List.getElem?_set_ne (Ne.symm hl)] at el
  exact ⟨⟨B, el⟩, setF_ne hl, rfl⟩
/-- cup[0].pop(0) -/
theorem sn_cpop (i : Nat) {c : Cup} {pv : Option V} {x : Str} {k0 k1 : Nat} {p0 p1 p2 p3 apos cpos : Pos} (ei : Γ[i]? = some (.own pv (isCup c)))
    (hN : X.N[i]? = some x := by rfl) (hv : Vis X.env.scope x := by exact visOf rfl) (hd : (x == ("__debug__" : Str)) = false := by decide) (hcd : (x == ("__classdict__" : Str)) = false := by decide)
    (hix : PlainIx (.Constant (.int 0) k0 p1) := by intro _ _; rfl)
    (hb : attributeBase (.Subscript (.Name x p0) (.Constant (.int 0) k0 p1) p2) "pop" X.env (eval (.Subscript (.Name x p0) (.Constant (.int 0) k0 p1) p2) X.env) = eval (.Subscript (.Name x p0) (.Constant (.int 0) k0 p1) p2) X.env := by rfl)
    (hline : (apos.endLine == cpos.line) = true := by rfl) (he : starEach [.Constant (.int 0) k1 p3] X.env = [(false, eval (.Constant (.int 0) k1 p3) X.env)] := by rfl)
    (hfew : ((backTo cpos (starEach [.Constant (.int 0) k1 p3] X.env)).all (fun x => !x.1) && (backToKw cpos (keywordEach [] X.env)).all (fun x => x.1.isSome) && decide (([.Constant (.int 0) k1 p3] : List Expr).length + ([] : List Keyword).length + (if ([] : List Keyword).isEmpty then 0 else 1) < 30)) = true := by rfl)
    (hs : swapsWith (.Call (.Attribute (.Subscript (.Name x p0) (.Constant (.int 0) k0 p1) p2) "pop" apos) [.Constant (.int 0) k1 p3] [] cpos) none pos.line X.env = pure false := by rfl) :
    Sn X Γ (.Expr (.Call (.Attribute (.Subscript (.Name x p0) (.Constant (.int 0) k0 p1) p2) "pop" apos) [.Constant (.int 0) k1 p3] [] cpos) pos) (cpop c) (fun c' => Γ.set i (.own pv (isCup c'))) := .mk fun σ H Fs s z ez D q => by
  obtain ⟨v, ev, h0, _⟩ := s.own i pv _ ei
  obtain ⟨a, b, rfl, h1, h2, n, eF⟩ := h0
  obtain ⟨xs, m⟩ := c
  cases xs with
  | nil => cases ez
  | cons y r =>
    cases ez
    refine TSof.of (ps_expr (pe_bm PySem.F.plainAttrs_list PySem.F.slot_list_pop PySem.F.type_list_pop mt_popAt (pe_ix ix_list (pe_var hN hv hd hcd) pe_int hix) (pa_cons pe_int pa_nil he) hb hfew hline he rfl) hs) ?_
    refine ⟨.ref a, ev, a, _, 0, .ref b, rfl, rfl, .inl (.inl h1), rfl, ?_⟩
    refine ⟨.inl ⟨rfl, _, .inl (.inl h2)⟩, ?_⟩
    refine ⟨b, _, 0, 0, .int y, rfl, rfl, h2, by decide, by decide, (ixN_seq (ix0 _)).1, rfl, ?_⟩
    have t : Step (Fs i) H (fun x => x = a ∨ x = b) (upd H b (.lst (r.map V.int))) := Step.upd (by rw [eF]; exact .inr rfl) fun x f => .inl (by rw [eF]; exact f)
    obtain ⟨a1, a2⟩ := chg_mv s (Same.refl H) ei ev (C := isCup (r, m)) ⟨a, b, rfl, by rw [upd_ne n]; exact h1, upd_same, n, rfl⟩ t
    exact q _ _ _ a1 a2
/-- cup[0][0] = e -/
theorem sn_cset (i : Nat) {c : Cup} {pv : Option V} {x : Str} {k0 k1 : Nat} {p0 p1 p2 p3 p4 : Pos} {r : Option Int} (ei : Γ[i]? = some (.own pv (isCup c))) (he : Al X Γ e r isI)
    (hN : X.N[i]? = some x := by rfl) (hv : Vis X.env.scope x := by exact visOf rfl) (hd : (x == ("__debug__" : Str)) = false := by decide) (hcd : (x == ("__classdict__" : Str)) = false := by decide)
    (hix : PlainIx (.Constant (.int 0) k0 p1) := by intro _ _; rfl)
    (hs : swapsWithSole [.Subscript (.Subscript (.Name x p0) (.Constant (.int 0) k0 p1) p2) (.Constant (.int 0) k1 p3) p4] e pos.line X.env = pure false := by rfl) (hw : swappedStores [.Subscript (.Subscript (.Name x p0) (.Constant (.int 0) k0 p1) p2) (.Constant (.int 0) k1 p3) p4] e X.env = pure none := by rfl)
    (h1 : (assignEach [.Subscript (.Subscript (.Name x p0) (.Constant (.int 0) k0 p1) p2) (.Constant (.int 0) k1 p3) p4] X.env).map (·.2) = [assign (.Subscript (.Subscript (.Name x p0) (.Constant (.int 0) k0 p1) p2) (.Constant (.int 0) k1 p3) p4) X.env] := by rfl)
    (ha : ∀ v, assign (.Subscript (.Subscript (.Name x p0) (.Constant (.int 0) k0 p1) p2) (.Constant (.int 0) k1 p3) p4) X.env v = (do
      let ov ← holding [v] (eval (.Subscript (.Name x p0) (.Constant (.int 0) k0 p1) p2) X.env)
      let iv ← holding [v, ov] (eval (.Constant (.int 0) k1 p3) X.env)
      standAt p4
      holding [v, ov, iv] (setItem ov iv v)
      release [v, ov, iv] []) := by intro _; rfl) :
    Sn X Γ (.Assign [.Subscript (.Subscript (.Name x p0) (.Constant (.int 0) k0 p1) p2) (.Constant (.int 0) k1 p3) p4] e pos) (r.bind fun z => cset c z) (fun c' => Γ.set i (.own pv (isCup c'))) := .mk fun σ H Fs s z ez D q => by
  obtain ⟨w, e1, e2⟩ := Option.bind_eq_some_iff.mp ez
  obtain ⟨xs, m⟩ := c
  cases xs with
  | nil => cases e2
  | cons y r =>
    cases e2
    refine TSof.of (ps_asg (pe_of X e) (pg_sub (pe_ix ix_list (pe_var hN hv hd hcd) pe_int hix) pe_int set_list ha) hs hw h1) ?_
    refine he σ H Fs s w e1 _ fun u H1 F s1 hu _ => ?_
    obtain ⟨v, ev, h0, _⟩ := (s.same s1).own i pv _ ei
    obtain ⟨a, b, rfl, h1, h2, n, eF⟩ := h0
    have := hu.1
    subst this
    refine ⟨.ref a, ev, a, _, 0, .ref b, rfl, rfl, .inl (.inl h1), rfl, ?_⟩
    refine ⟨b, _, 0, 0, rfl, rfl, h2, ix0 _, ?_⟩
    have t : Step (Fs i) H1 (fun x => x = a ∨ x = b) (upd H1 b (.lst ((w :: r).map V.int))) := Step.upd (by rw [eF]; exact .inr rfl) fun x f => .inl (by rw [eF]; exact f)
    obtain ⟨a1, a2⟩ := chg_mv s s1 ei ev (C := isCup (w :: r, m)) ⟨a, b, rfl, by rw [upd_ne n]; exact h1, upd_same, n, rfl⟩ t
    exact q _ _ _ a1 a2
/-- cup[1] = e -/
theorem sn_cset1 (i : Nat) {c : Cup} {pv : Option V} {x : Str} {k0 : Nat} {p0 p1 p2 : Pos} {r : Option Int} (ei : Γ[i]? = some (.own pv (isCup c))) (he : Al X Γ e r isI)
    (hN : X.N[i]? = some x := by rfl) (hv : Vis X.env.scope x := by exact visOf rfl) (hd : (x == ("__debug__" : Str)) = false := by decide) (hcd : (x == ("__classdict__" : Str)) = false := by decide)
    (hs : swapsWithSole [.Subscript (.Name x p0) (.Constant (.int 1) k0 p1) p2] e pos.line X.env = pure false := by rfl) (hw : swappedStores [.Subscript (.Name x p0) (.Constant (.int 1) k0 p1) p2] e X.env = pure none := by rfl)
    (h1 : (assignEach [.Subscript (.Name x p0) (.Constant (.int 1) k0 p1) p2] X.env).map (·.2) = [assign (.Subscript (.Name x p0) (.Constant (.int 1) k0 p1) p2) X.env] := by rfl)
    (ha : ∀ v, assign (.Subscript (.Name x p0) (.Constant (.int 1) k0 p1) p2) X.env v = (do
      let ov ← holding [v] (eval (.Name x p0) X.env)
      let iv ← holding [v, ov] (eval (.Constant (.int 1) k0 p1) X.env)
      standAt p2
      holding [v, ov, iv] (setItem ov iv v)
      release [v, ov, iv] []) := by intro _; rfl) :
    Sn X Γ (.Assign [.Subscript (.Name x p0) (.Constant (.int 1) k0 p1) p2] e pos) (r.bind fun z => some (c.1, z)) (fun c' => Γ.set i (.own pv (isCup c'))) := .mk fun σ H Fs s z ez D q => by
  obtain ⟨w, e1, e2⟩ := Option.bind_eq_some_iff.mp ez
  cases e2
  refine TSof.of (ps_asg (pe_of X e) (pg_sub (pe_var hN hv hd hcd) pe_int set_list ha) hs hw h1) ?_
  refine he σ H Fs s w e1 _ fun u H1 F s1 hu _ => ?_
  obtain ⟨v, ev, h0, _⟩ := (s.same s1).own i pv _ ei
  obtain ⟨a, b, rfl, h1, h2, n, eF⟩ := h0
  have := hu.1
  subst this
  refine ⟨.ref a, ev, a, _, 1, 1, rfl, rfl, h1, rfl, ?_⟩
  have t : Step (Fs i) H1 (fun x => x = a ∨ x = b) (upd H1 a (.lst [.ref b, .int w])) := Step.upd (by rw [eF]; exact .inl rfl) fun x f => .inl (by rw [eF]; exact f)
  obtain ⟨a1, a2⟩ := chg_mv s s1 ei ev (C := isCup (c.1, w)) ⟨a, b, rfl, upd_same, by rw [upd_ne n.symm]; exact h2, n, rfl⟩ t
  exact q _ _ _ a1 a2
/-- return [xs, e]: xs a slot's list, moved -/
theorem sx_retCup {γ β ρ : Type} (i : Nat) {xs : List Int} {pv : Option V} {x : Str} {r : Option Int} {p0 p1 : Pos} {N : β → Cxt} {L : γ → Cxt} {R : Rt ρ} (f : Cup → ρ) (ei : Γ[i]? = some (.own pv (isL isI xs))) (he : Al X Γ e r isI) (hA : ∀ c, R.A (f c) = isCup c := by intro _; rfl) (hG : ∀ c, Ent (Γ.set i .dead) (R.G (f c)))
    (hN : X.N[i]? = some x := by rfl) (hv : Vis X.env.scope x := by exact visOf rfl) (hd : (x == ("__debug__" : Str)) = false := by decide) (hcd : (x == ("__classdict__" : Str)) = false := by decide)
    (hs : starEach [.Name x p0, e] X.env = (false, eval (.Name x p0) X.env) :: starEach [e] X.env := by rfl) (hs2 : starEach [e] X.env = (false, eval e X.env) :: starEach [] X.env := by rfl) :
    Sx X Γ (.Return (some (.List [.Name x p0, e] p1)) pos) (r.bind fun z => some (Fl.rt (f (xs, z)))) N L R := .mk fun σ H Fs s z ez D q => by
  obtain ⟨w, e1, e2⟩ := Option.bind_eq_some_iff.mp ez
  cases e2
  obtain ⟨v, ev, h0, _⟩ := s.own i pv _ ei
  refine TSof.of (ps_ret (pe_lst (pa_cons (pe_var hN hv hd hcd) (pa_cons (pe_of X e) pa_nil hs2) hs))) ⟨v, ev, ?_⟩
  refine he σ H Fs s w e1 _ fun u H1 F s1 hu _ => ?_
  refine ⟨Nat.le_of_lt (small1000 (by simp)), fun a na => ?_⟩
  obtain ⟨b, vs, G, rfl, r, hvs, nG, eF⟩ := Ass.same h0 s1
  have z0 := hvs.nil
  subst z0
  have e3 := ints_vals hvs
  subst e3
  have := hu.1
  subst this
  have nab : a ≠ b := fun z => by subst z; rw [na] at r; cases r
  have sn : Same H1 (upd H1 a (.lst [.ref b, .int w])) := upd_new na
  have s2 := ((s.same s1).same sn).ent (ent_dead Γ i)
  refine q (.ref a) σ _ Fs (fun x => x = a ∨ x = b) (s2.ent (hG _)) (by rw [hA]; exact ⟨a, b, rfl, upd_same, sn _ _ r, nab, rfl⟩) (fun y f o => ?_) (Step.same (s1.trans sn) fun y f => ?_)
  · have o2 := o.ent (hG _)
    rcases f with rfl | rfl
    · exact (s.same s1).out na (o2.ent (ent_dead Γ i))
    · obtain ⟨j, q', B, ej, g⟩ := o2
      have hj : j ≠ i := fun z => by
        subst z
        rw [List.getElem?_set_self (List.getElem?_eq_some_iff.mp ei).1] at ej
        cases ej
      rw [List.getElem?_set_ne (Ne.symm hj)] at ej
      exact s.dj i j pv _ (Ne.symm hj) ei (.inl ⟨q', B, ej⟩) y (by rw [eF]; exact .inl rfl) g
  · rcases f with f | o
    · rcases f with rfl | rfl
      · exact .inr (s1.free na)
      · exact .inl ⟨i, pv, _, ei, by rw [eF]; exact .inl rfl⟩
    · exact .inl ((o.ent (hG _)).ent (ent_dead Γ i))
/-! ### the script, read only -/
def isScr (K : PySem.W.Frag) (ns : List Int) : Ass := ⟨fun v H F => ∃ a, v = .ref a ∧ ((H a = some (.lst (ns.map V.int)) ∧ F = fun x => x = a) ∨ ((∃ o, H a = some (.frz o (.lst (ns.map V.int)))) ∧ F = no) ∨
    ((∃ (o : Obj) (its : Array Value) (n : Nat), K.lookup a = some o ∧ o.cls = .type "list" ∧ o.dict = none ∧ o.data = .seq its n ∧ its.size ≤ sizeLine ∧ Vals (ns.map V.int) its.toList) ∧ F = no)),
  fun {v H F x} ⟨a, _, h⟩ q => by
    rcases h with ⟨h1, e⟩ | ⟨h1, e⟩ | ⟨h1, e⟩
    · subst e
      rw [show x = a from q, h1]; trivial
    · subst e; exact q.elim
    · subst e; exact q.elim,
  fun ⟨a, e, h⟩ k => by
    refine ⟨a, e, ?_⟩
    rcases h with ⟨h1, e⟩ | ⟨⟨o, h1⟩, e⟩ | ⟨h1, e⟩
    · subst e
      exact .inl ⟨k a _ h1 (.inl rfl), rfl⟩
    · exact .inr (.inl ⟨⟨o, k a _ h1 (.inr fun z => z)⟩, e⟩)
    · exact .inr (.inr ⟨h1, e⟩)⟩
theorem isScr_sq {K : PySem.W.Frag} {ns : List Int} {v : V} {H : Hp} {F : Fp} (h : (isScr K ns).h v H F) : ∃ a, v = .ref a ∧ SqL K H a (ns.map V.int) := by
  obtain ⟨a, e, h⟩ := h
  refine ⟨a, e, ?_⟩
  rcases h with ⟨h1, _⟩ | ⟨⟨o, h1⟩, _⟩ | ⟨h1, _⟩
  · exact .inl (.inl h1)
  · exact .inl (.inr ⟨o, h1⟩)
  · exact .inr h1
theorem isScr_of {K : PySem.W.Frag} {ns : List Int} {a : Addr} {H : Hp} (h : SqL K H a (ns.map V.int)) : ∃ F, (isScr K ns).h (.ref a) H F := by
  rcases h with (h | ⟨o, h⟩) | h
  · exact ⟨_, a, rfl, .inl ⟨h, rfl⟩⟩
  · exact ⟨_, a, rfl, .inr (.inl ⟨⟨o, h⟩, rfl⟩)⟩
  · exact ⟨_, a, rfl, .inr (.inr ⟨h, rfl⟩)⟩
theorem o_ixScr {K : PySem.W.Frag} : Op2A (rIxL K) (isScr K) isI isI (fun xs i => atI xs i) := by
  intro x y v u H F G z hs hy e Q k
  obtain ⟨a, ev, h⟩ := isScr_sq hs
  exact ⟨a, _, y, .int z, ev, hy.1, h, by rw [atI_map, show atI x y = some z from e]; rfl, k _ H no (Same.refl H) ⟨rfl, rfl⟩ fun b t => t.elim⟩
theorem c_lenScr {K : PySem.W.Frag} : Cl1 (fun xs H Q => ∃ x n, xs = [x] ∧ LenV K x H n ∧ Q (.int n) H) (isScr K) isI (fun xs => some (xs.length : Int)) := by
  intro x v H F z hs e Q k
  cases e
  obtain ⟨a, ev, h⟩ := isScr_sq hs
  subst ev
  exact ⟨_, (x.map V.int).length, rfl, .inl ⟨_, h, rfl⟩, k _ H no (Same.refl H) ⟨by rw [List.length_map], rfl⟩ fun _ z => z.elim⟩
end
end Rf
/-! Rf15: effects within expressions. Own work. -/
namespace Rf
open PySem PySem.Spec L2
theorem Step.new {O O' T : Fp} {H H' H'' : Hp} (a : Step O H O' H') (sm : Same H' H'') (fr : ∀ x, T x → H' x = none) : Step O H (un T O') H'' := by
  refine ⟨fun x o e n => sm x o (a.1 x o e n), fun x f => ?_⟩
  rcases f with f | f
  · by_cases w : O x
    · exact .inl w
    · cases e : H x with
      | none => exact .inr rfl
      | some o =>
        have := a.1 x o e w
        rw [fr x f] at this; cases this
  · exact a.2 x f
section
variable {ι α β γ ρ κ S : Type} {X : Cx} {Γ : S → Cxt} {s0 : S} {a b c e : Expr} {es : List Expr} {pos pp : Pos} {A : α → Ass} {B : β → Ass} {C : γ → Ass} {f : α → β → Option γ} {m : Option (α × S)} {k : α → S → Option (β × S)}
/-! what cannot be met -/
theorem pu_fail {Γ : Cxt} : Pu X Γ e (none : Option α) A := .mk fun σ H Fs s z ez => by cases ez
theorem sn_fail {Γ : Cxt} {st : Stmt} {N : β → Cxt} : Sn X Γ st none N := .mk fun σ H Fs s z ez => by cases ez
theorem bn_fail {Γ : Cxt} {sts : List Stmt} {N : β → Cxt} : Bn X Γ sts none N := .mk fun σ H Fs s z ez => by cases ez
/-! operators -/
theorem two_ef {r : R2} (o : Op2 r A B C f) (ha : Ef X Γ s0 a m A) (hb : ∀ x s, Ef X Γ s b (k x s) B) {σ : L2.St} {H : Hp} {Fs : Nat → Fp} (s : Sat (Γ s0) σ H Fs) {z : γ} {s' : S} (ez : (m.bind fun x => (k x.1 x.2).bind fun y => (f x.1 y.1).bind fun z => some (z, y.2)) = some (z, s')) {Q : VK}
    (q : ∀ v H' Fs' T, Sat (Γ s') σ H' Fs' → (C z).h v H' T → Apart T (Γ s') Fs' → Step (Own (Γ s0) Fs) H (un T (Own (Γ s') Fs')) H' → LS (Γ s0) Fs (Γ s') Fs' → Q v H') : tOp r (TEof X a) (TEof X b) σ H Q := by
  obtain ⟨⟨x, s1⟩, e1, e0⟩ := Option.bind_eq_some_iff.mp ez
  obtain ⟨⟨y, s2⟩, e2, e0⟩ := Option.bind_eq_some_iff.mp e0
  obtain ⟨z', e3, e4⟩ := Option.bind_eq_some_iff.mp e0
  cases e4
  refine ha σ H Fs s x s1 e1 _ fun v H1 F1 T1 t1 h1 ap1 st1 l1 => ?_
  refine hb x s1 σ H1 F1 t1 y s2 e2 _ fun u H2 F2 T2 t2 h2 ap2 st2 l2 => ?_
  refine o (Ass.step h1 st2 (fun _ => t1.trk) ap1.1) h2 e3 Q fun w H3 T3 sm h3 fr => ?_
  exact q w H3 F2 T3 (t2.same sm) h3 (t2.apart fr) (((st1.sub fun _ => .inr).trans (st2.sub fun _ => .inr)).new sm fr) (l1.trans l2)
theorem ef_bin {op : Operator} {r : R2} (ho : OpR X (binaryOp op) r) (o : Op2 r A B C f) (ha : Ef X Γ s0 a m A) (hb : ∀ x s, Ef X Γ s b (k x s) B) : Ef X Γ s0 (.BinOp a op b pos) (m.bind fun x => (k x.1 x.2).bind fun y => (f x.1 y.1).bind fun z => some (z, y.2)) C :=
  .mk fun σ H Fs s z s' e Q q => TEof.of (pe_op ho (pe_of X a) (pe_of X b)) (two_ef o ha hb s e q)
theorem ef_cmp {op : CmpOp} {r : R2} {f : α → β → Option Bool} (ho : OpR X (compareOp op) r) (o : Op2 r A B isB f) (ha : Ef X Γ s0 a m A) (hb : ∀ x s, Ef X Γ s b (k x s) B) (hm : behindInMarks op b = false := by first | exact nomark _ | rfl) : Ef X Γ s0 (.Compare a [op] [b] pos) (m.bind fun x => (k x.1 x.2).bind fun y => (f x.1 y.1).bind fun z => some (z, y.2)) isB :=
  .mk fun σ H Fs s z s' e Q q => TEof.of (pe_cmpR ho (pe_of X a) (pe_of X b) hm) (two_ef o ha hb s e q)
theorem tf_cmp {op : CmpOp} {r : R2} {f : α → β → Option Bool} (ho : OpR X (compareOp op) r) (o : Op2 r A B isB f) (ha : Ef X Γ s0 a m A) (hb : ∀ x s, Ef X Γ s b (k x s) B) (hm : behindInMarks op b = false := by first | exact nomark _ | rfl) : Tf X Γ s0 (.Compare a [op] [b] pos) (m.bind fun x => (k x.1 x.2).bind fun y => (f x.1 y.1).bind fun z => some (z, y.2)) :=
  .mk fun σ H Fs s z s' e Q q => TTof.of (pt_cmpR ho (pe_of X a) (pe_of X b) hm) (show tTest _ σ H Q from two_ef o ha hb s e fun v H' Fs' T t h ap st l => ⟨z, h.1, q H' Fs' t (st.sub fun _ => .inr) l⟩)
theorem ef_ix {r : R2} [im : Imm C] (hr : IxR X r) (o : Op2A r A B C f) (ha : Ef X Γ s0 a m A) (hb : ∀ x s, Ef X Γ s b (k x s) B) (hs : PlainIx b := by intro _ _; rfl) : Ef X Γ s0 (.Subscript a b pos) (m.bind fun x => (k x.1 x.2).bind fun y => (f x.1 y.1).bind fun z => some (z, y.2)) C := .mk fun σ H Fs s z s' ez Q q => by
  obtain ⟨⟨x, s1⟩, e1, e0⟩ := Option.bind_eq_some_iff.mp ez
  obtain ⟨⟨y, s2⟩, e2, e0⟩ := Option.bind_eq_some_iff.mp e0
  obtain ⟨z', e3, e4⟩ := Option.bind_eq_some_iff.mp e0
  cases e4
  refine TEof.of (pe_ix hr (pe_of X a) (pe_of X b) hs) ?_
  refine ha σ H Fs s x s1 e1 _ fun v H1 F1 T1 t1 h1 ap1 st1 l1 => ?_
  refine hb x s1 σ H1 F1 t1 y s2 e2 _ fun u H2 F2 T2 t2 h2 ap2 st2 l2 => ?_
  refine o (Ass.step h1 st2 (fun _ => t1.trk) ap1.1) h2 e3 Q fun w H3 T3 sm h3 _ => ?_
  have z3 := im.nil h3
  subst z3
  exact q w H3 F2 no (t2.same sm) h3 Apart.no (((st1.sub fun _ => .inr).trans (st2.sub fun _ => .inr)).new sm fun _ z => z.elim) (l1.trans l2)
theorem ef_un1 {r : V → Hp → VK → Prop} {g : α → Option γ} {op : UnaryOp} (ho : UnR X (unaryOp op) r) (o : Op1 r A C g) (ha : Ef X Γ s0 a m A) : Ef X Γ s0 (.UnaryOp op a pos) (m.bind fun x => (g x.1).bind fun z => some (z, x.2)) C := .mk fun σ H Fs s z s' ez Q q => by
  obtain ⟨⟨x, s1⟩, e1, e0⟩ := Option.bind_eq_some_iff.mp ez
  obtain ⟨z', e3, e4⟩ := Option.bind_eq_some_iff.mp e0
  cases e4
  refine TEof.of (pe_un ho (pe_of X a)) ?_
  refine ha σ H Fs s x s1 e1 _ fun v H1 F1 T1 t1 h1 ap1 st1 l1 => ?_
  exact o h1 e3 Q fun w H3 T3 sm h3 fr => q w H3 F1 T3 (t1.same sm) h3 (t1.apart fr) ((st1.sub fun _ => .inr).new sm fr) l1
/-! tests -/
theorem tf_val {m : Option (Bool × S)} (h : Ef X Γ s0 e m isB) (he : ∀ whole, isTrue e X.env whole = (do let v ← whole; standAt e.pos; holding [v] (truthy v)) := by intro _; rfl) : Tf X Γ s0 e m := .mk fun σ H Fs s z s' ez Q q =>
  TTof.of (pt_val (pe_of X e) he) (h σ H Fs s z s' ez _ fun v H' Fs' T t hh ap st l => ⟨z, hh.1, q H' Fs' t (st.sub fun _ => .inr) l⟩)
theorem tf_not {m : Option (Bool × S)} (h : Tf X Γ s0 a m) : Tf X Γ s0 (.UnaryOp .Not a pos) (m.map fun x => (!x.1, x.2)) := .mk fun σ H Fs s z s' ez Q q => by
  obtain ⟨⟨d, s1⟩, e1, e2⟩ := Option.map_eq_some_iff.mp ez
  cases e2
  exact TTof.of (pt_not (pt_of X a)) (h σ H Fs s d s1 e1 _ fun H' Fs' t st l => q H' Fs' t st l)
theorem ef_if {t : Option Bool} {m1 m2 : Option (α × S)} (hc : Te X (Γ s0) c t) (ha : Ef X Γ s0 a m1 A) (hb : Ef X Γ s0 b m2 A) : Ef X Γ s0 (.IfExp c a b pos) (t.bind fun d => if d = true then m1 else m2) A := .mk fun σ H Fs s z s' ez Q q => by
  obtain ⟨d, e1, e2⟩ := Option.bind_eq_some_iff.mp ez
  refine TEof.of (pe_ifExp (pt_of X c) (pe_of X a) (pe_of X b)) ?_
  refine hc σ H Fs s d e1 _ fun H1 sm => ?_
  have key : ∀ v H' Fs' T, Sat (Γ s') σ H' Fs' → (A z).h v H' T → Apart T (Γ s') Fs' → Step (Own (Γ s0) Fs) H1 (un T (Own (Γ s') Fs')) H' → LS (Γ s0) Fs (Γ s') Fs' → Q v H' := fun v H' Fs' T t h ap st l => q v H' Fs' T t h ap (st.pre sm) l
  cases d with
  | true => exact ha σ H1 Fs (s.same sm) z s' (by simpa using e2) Q key
  | false => exact hb σ H1 Fs (s.same sm) z s' (by simpa using e2) Q key
/-! displays -/
theorem ef_pair {k2 : Nat} (ha : Ef X Γ s0 a m A) (hb : ∀ x s, Ef X Γ s b (k x s) B) (hs : starEach [a, b] X.env = (false, eval a X.env) :: starEach [b] X.env := by rfl) (hs2 : starEach [b] X.env = (false, eval b X.env) :: starEach [] X.env := by rfl) :
    Ef X Γ s0 (.Tuple [a, b] k2 pos) (m.bind fun x => (k x.1 x.2).bind fun y => some ((x.1, y.1), y.2)) (isP A B) := .mk fun σ H Fs s z s' ez Q q => by
  obtain ⟨⟨x, s1⟩, e1, e0⟩ := Option.bind_eq_some_iff.mp ez
  obtain ⟨⟨y, s2⟩, e2, e3⟩ := Option.bind_eq_some_iff.mp e0
  cases e3
  refine TEof.of (pe_tup (pa_of X [a, b])) ?_
  have hae := ae_cons (X := X) (Γ := Γ) (s0 := s0) (es := [b]) ha (fun x s => ae_cons (hb x s) (fun _ _ => ae_nil) hs2) hs
  refine hae σ H Fs s ((x, (y, ()))) s2 (by rw [e1]; simp [e2]) _ fun vs H1 F1 T1 t1 h1 ap1 st1 l1 => ⟨?_, fun p np => ?_⟩
  · rw [cons_len (cons_len nil_len) _ _ _ h1]
    exact Nat.le_of_lt (small1000 (by decide))
  · have sm := upd_new (o := .tup vs) np
    exact q (.ref p) _ F1 T1 (t1.same sm) ⟨p, vs, rfl, upd_same, AssL.same h1 sm⟩ ap1 ⟨fun x o e n => sm x o (st1.1 x o e n), st1.2⟩ l1
/-- items of one kind that own nothing -/
abbrev Ak (X : Cx) (Γ : S → Cxt) (s : S) (es : List Expr) (m : Option (List α × S)) (A : α → Ass) : Prop := Hold (
  ∀ σ H Fs, Sat (Γ s) σ H Fs → ∀ xs s', m = some (xs, s') → ∀ Q : List V → Hp → Prop, (∀ vs H' Fs', Sat (Γ s') σ H' Fs' → AllF A H' xs vs no → Step (Own (Γ s) Fs) H (Own (Γ s') Fs') H' → LS (Γ s) Fs (Γ s') Fs' → Q vs H') → TAof X es σ H Q)
theorem ake_nil : Ak X Γ s0 [] (some ([], s0)) A := .mk fun σ H Fs s xs s' ez Q q => by
  cases ez
  exact TAof.of pa_nil (q [] H Fs s rfl (Step.refl _ _) (LS.refl _ _))
theorem ake_cons [im : Imm A] {k : α → S → Option (List α × S)} (ha : Ef X Γ s0 e m A) (hb : ∀ x s, Ak X Γ s es (k x s) A) (hs : starEach (e :: es) X.env = (false, eval e X.env) :: starEach es X.env := by rfl) : Ak X Γ s0 (e :: es) (m.bind fun x => (k x.1 x.2).bind fun y => some (x.1 :: y.1, y.2)) A := .mk fun σ H Fs s z s' ez Q q => by
  obtain ⟨⟨x, s1⟩, e1, e0⟩ := Option.bind_eq_some_iff.mp ez
  obtain ⟨⟨y, s2⟩, e2, e3⟩ := Option.bind_eq_some_iff.mp e0
  cases e3
  refine TAof.of (pa_cons (pe_of X e) (pa_of X es) hs) ?_
  refine ha σ H Fs s x s1 e1 _ fun v H1 F1 T1 t1 h1 ap1 st1 l1 => ?_
  refine hb x s1 σ H1 F1 t1 y s2 e2 _ fun vs H2 F2 t2 h2 st2 l2 => ?_
  have z1 := im.nil h1
  subst z1
  exact q (v :: vs) H2 F2 t2 ⟨no, no, Ass.step h1 st2 (fun _ => t1.trk) ap1.1, h2, fun _ z => z.elim, (no_un no).symm⟩ ((st1.sub fun _ => .inr).trans st2) (l1.trans l2)
theorem ef_lst {m : Option (List α × S)} (h : Ak X Γ s0 es m A) (hn : es.length ≤ 1000) (hl : ∀ xs s, m = some (xs, s) → xs.length = es.length) : Ef X Γ s0 (.List es pos) m (isL A) := .mk fun σ H Fs s z s' ez Q q =>
  TEof.of (pe_lst (pa_of X es)) (h σ H Fs s z s' ez _ fun vs H1 F1 t1 h1 st1 l1 => ⟨by rw [← h1.length, hl z s' ez]; exact Nat.le_of_lt (small1000 hn), fun p np => by
    have sm := upd_new (o := .lst vs) np
    have fr : ∀ x, (fun b => b = p ∨ no b) x → H1 x = none := fun x f => f.elim (fun f => f ▸ np) False.elim
    exact q (.ref p) _ F1 _ (t1.same sm) ⟨p, vs, no, rfl, upd_same, h1.stb (Same.keep sm _), fun z => z, rfl⟩ (t1.apart fr) (st1.new sm fr) l1⟩)
theorem akel_nil : ∀ (xs : List α) (s : S), some (([] : List α), s0) = some (xs, s) → xs.length = ([] : List Expr).length := fun xs s e => by cases e; rfl
theorem akel_cons {k : α → S → Option (List α × S)} (h : ∀ x s xs s', k x s = some (xs, s') → xs.length = es.length) : ∀ xs s, (m.bind fun x => (k x.1 x.2).bind fun y => some (x.1 :: y.1, y.2)) = some (xs, s) → xs.length = (e :: es).length := fun xs s ez => by
  obtain ⟨⟨x, s1⟩, e1, e0⟩ := Option.bind_eq_some_iff.mp ez
  obtain ⟨⟨y, s2⟩, e2, e3⟩ := Option.bind_eq_some_iff.mp e0
  cases e3
  simp [h _ _ _ _ e2]
/-! texts -/
theorem ef_join {z : Str} {j : Nat} {p0 apos : Pos} {m : Option (List Str × S)} (ha : Ef X Γ s0 e m (isL isS))
    (hb : attributeBase (.Constant (.str z) j p0) "join" X.env (eval (.Constant (.str z) j p0) X.env) = eval (.Constant (.str z) j p0) X.env := by rfl) (hline : (apos.endLine == pos.line) = true := by rfl) (he : starEach [e] X.env = [(false, eval e X.env)] := by rfl)
    (hfew : ((backTo pos (starEach [e] X.env)).all (fun x => !x.1) && (backToKw pos (keywordEach [] X.env)).all (fun x => x.1.isSome) && decide (([e] : List Expr).length + ([] : List Keyword).length + (if ([] : List Keyword).isEmpty then 0 else 1) < 30)) = true := by rfl) :
    Ef X Γ s0 (.Call (.Attribute (.Constant (.str z) j p0) "join" apos) [e] [] pos) (m.bind fun x => (sjoin z x.1).bind fun w => some (w, x.2)) isS := .mk fun σ H Fs s w s' ez Q q => by
  obtain ⟨⟨ys, s1⟩, e1, e0⟩ := Option.bind_eq_some_iff.mp ez
  obtain ⟨w', e2, e3⟩ := Option.bind_eq_some_iff.mp e0
  cases e3
  refine TEof.of (pe_bm PySem.F.plainAttrs_str PySem.F.slot_str_join PySem.F.type_str_join mt_join pe_str (pa_cons (pe_of X e) pa_nil he) hb hfew hline he rfl) ⟨tyS, ?_⟩
  refine ha σ H Fs s ys s1 e1 _ fun v H1 F1 T1 t1 h1 ap1 st1 l1 => join_at h1 e2 ?_
  exact q _ H1 F1 no t1 ⟨rfl, rfl⟩ Apart.no ((st1.sub fun _ => .inr).new (Same.refl H1) fun _ z => z.elim) l1
/-- x[a:b], the bounds ints -/
theorem ef_sl {r : V → Option Int → Option Int → Hp → VK → Prop} {g : α → Option Int → Option Int → Option γ} {pl ph : S → Option (Option Int)} {lo hi : Option Expr} {p2 : Pos} (hr : SlR X r) (o : Sl1 r A C g) (ha : Ef X Γ s0 e m A) (hl : ∀ s, So X (Γ s) lo (pl s)) (hh : ∀ s, So X (Γ s) hi (ph s)) :
    Ef X Γ s0 (.Subscript e (.Slice lo hi none p2) pos) (m.bind fun x => (pl x.2).bind fun a => (ph x.2).bind fun b => (g x.1 a b).bind fun z => some (z, x.2)) C := .mk fun σ H Fs s z s' ez Q q => by
  obtain ⟨⟨x, s1⟩, e1, e0⟩ := Option.bind_eq_some_iff.mp ez
  obtain ⟨l, e2, e0⟩ := Option.bind_eq_some_iff.mp e0
  obtain ⟨h, e3, e0⟩ := Option.bind_eq_some_iff.mp e0
  obtain ⟨w, e4, e5⟩ := Option.bind_eq_some_iff.mp e0
  cases e5
  refine TEof.of (pe_slice hr (pe_of X e) (po_of X lo) (po_of X hi)) ?_
  refine ha σ H Fs s x s1 e1 _ fun v H1 F1 T1 t1 h1 ap1 st1 l1 => ?_
  refine hl s1 σ H1 F1 t1 l e2 _ fun H2 sm2 => ?_
  refine hh s1 σ H2 F1 (t1.same sm2) h e3 _ fun H3 sm3 => ?_
  exact o (Ass.same (Ass.same h1 sm2) sm3) e4 Q fun w H4 T sm4 h4 fr => q w H4 F1 T (((t1.same sm2).same sm3).same sm4) h4 (((t1.same sm2).same sm3).apart fr) (((st1.sub fun _ => .inr).trans (Step.same (O' := Own (Γ s1) F1) (sm2.trans sm3) fun _ => .inl)).new sm4 fr) l1
end
end Rf
/-! Rf16: comprehensions with effects; moves. Own work. -/
namespace Rf
open PySem PySem.Spec L2
theorem Sat.ren {Γ : Cxt} {σ σ' : L2.St} {H : Hp} {Fs : Nat → Fp} (s : Sat Γ σ H Fs) (hl : σ'.length = σ.length) (h : ∀ (j : Nat) (sl : Sl), Γ[j]? = some sl → sl ≠ Sl.dead → σ'[j]? = σ[j]?) : Sat Γ σ' H Fs :=
  ⟨s.len.trans hl.symm, fun i p A e => let ⟨v, a, b⟩ := s.own i p A e; ⟨v, by rw [h i _ e (by intro z; cases z)]; exact a, b⟩, fun i A e => let ⟨v, a, b⟩ := s.lnt i A e; ⟨v, by rw [h i _ e (by intro z; cases z)]; exact a, b⟩, s.dj⟩
section
variable {ι α β γ ρ κ S : Type} {X : Cx} {Γ : S → Cxt} {s0 : S} {tg iter e : Expr} {es : List Expr} {pos pp : Pos} {A : α → Ass} {B : ι → Ass}
def compS (f : ι → S → Option (α × S)) : List ι → S → Option (List α × S)
  | [], s => some ([], s)
  | x :: xs, s => (f x s).bind fun y => (compS f xs y.2).bind fun z => some (y.1 :: z.1, z.2)
theorem compS_step {f : ι → S → Option (α × S)} {xs : List ι} {i : Nat} {s : S} {zs : List α × S} (h : compS f (xs.drop i) s = some zs) (hi : i < xs.length) :
    ∃ y s1 ws, f xs[i] s = some (y, s1) ∧ compS f (xs.drop (i + 1)) s1 = some (ws, zs.2) ∧ zs.1 = y :: ws := by
  rw [List.drop_eq_getElem_cons hi] at h
  obtain ⟨⟨y, s1⟩, e1, e0⟩ := Option.bind_eq_some_iff.mp h
  obtain ⟨⟨ws, s2⟩, e2, e3⟩ := Option.bind_eq_some_iff.mp e0
  cases e3
  exact ⟨y, s1, ws, e1, e2, rfl⟩
/-- a source with effects -/
abbrev We (X : Cx) (Γ : S → Cxt) (s0 : S) (tg iter : Expr) (m : Option (List ι × S)) (B : ι → Ass) : Prop := Hold (
  ∀ σ H Fs, Sat (Γ s0) σ H Fs → ∀ xs s', m = some (xs, s') → ∀ R : It → Hp → Prop, (∀ J H' Fs' L, Sat (Γ s') σ H' Fs' → Src J xs B L H' → (∀ a, L a → ¬ Own (Γ s') Fs' a) → Step (Own (Γ s0) Fs) H (Own (Γ s') Fs') H' → LS (Γ s0) Fs (Γ s') Fs' → R J H') → TIof X tg iter σ H R)
theorem Wa.we {p : Option (List ι)} (h : Wa X (Γ s0) tg iter p B) : We X Γ s0 tg iter (p.bind fun xs => some (xs, s0)) B := .mk fun σ H Fs s xs s' ez R q => by
  obtain ⟨ys, e1, e2⟩ := Option.bind_eq_some_iff.mp ez
  cases e2
  exact h σ H Fs s xs e1 R fun J H' L sm src dl => q J H' Fs L (s.same sm) src dl (Step.same sm fun _ => .inl) (LS.refl _ _)
theorem we_rng1 {a : Expr} {m : Option (Int × S)} (h : Ef X Γ s0 a m isI) (hm : X.mg "range" = none) (hg : Gl X "range" := by rfl) (hs : starEach [a] X.env = [(false, eval a X.env)] := by rfl) : We X Γ s0 tg (.Call (.Name "range" pp) [a] [] pos) (m.bind fun x => (rng1 x.1).bind fun xs => some (xs, x.2)) isI := .mk fun σ H Fs s xs s' ex R q => by
  obtain ⟨⟨n, s1⟩, en, e0⟩ := Option.bind_eq_some_iff.mp ex
  obtain ⟨ys, e2, e3⟩ := Option.bind_eq_some_iff.mp e0
  cases e3
  unfold rng1 at e2
  split at e2
  · rename_i hc
    cases e2
    simp only [smR, Bool.and_eq_true, decide_eq_true_eq] at hc
    refine TIof.of (pi_range1 hg hm (pa_cons (pe_of X a) pa_nil hs) hs) ?_
    refine h σ H Fs s n s1 en _ fun v H1 F1 T1 t1 hv ap st l => ⟨n, by rw [hv.1], hc.1, hc.2, ?_⟩
    exact q _ H1 F1 no t1 (src_rng (by simp)) (fun _ z => z.elim) (st.sub fun _ => .inr) l
  · cases e2
theorem lcE_sem [im : Imm A] {g : TG} {is vs : List Nat} {N : Cxt → ι → Cxt} {m : Option (List ι × S)} {f : ι → S → Option (α × S)} {elt : Expr} {scope : Scope}
    (hw : We X Γ s0 tg iter m B) (ht : TgS g B is N) (hi : ∀ i ∈ is, i ∈ vs) (hv : ∀ s, ∀ i ∈ vs, i < (Γ s).length) (hd : ∀ s, ∀ i ∈ vs, (Γ s)[i]? = some .dead) (hwp : ∀ s, wipeC (Γ s) vs = Γ s) (hen : ∀ s x, Ent (N (Γ s) x) (Γ s))
    (he : ∀ x s, Blk X scope fun X' => Ef X' (fun s => N (Γ s) x) s elt (f x s) A)
    {σ : L2.St} {H : Hp} {Fs : Nat → Fp} (s : Sat (Γ s0) σ H Fs) {zs : List α} {s' : S} (ez : (m.bind fun x => (compS f x.1 x.2).bind fun z => (fits z.1).bind fun ys => some (ys, z.2)) = some (zs, s')) {Q : VK}
    (q : ∀ v H' Fs' T, Sat (Γ s') σ H' Fs' → (isL A zs).h v H' T → Apart T (Γ s') Fs' → Step (Own (Γ s0) Fs) H (un T (Own (Γ s') Fs')) H' → LS (Γ s0) Fs (Γ s') Fs' → Q v H') :
    tLc (TIof X tg iter) g (ttB X scope []) (teB X scope elt) vs σ H Q := by
  obtain ⟨⟨xs, s1⟩, e1, e0⟩ := Option.bind_eq_some_iff.mp ez
  obtain ⟨⟨zs', s2⟩, e2, e0⟩ := Option.bind_eq_some_iff.mp e0
  obtain ⟨ys', e3, e4⟩ := Option.bind_eq_some_iff.mp e0
  cases e4
  unfold fits at e3
  split at e3
  · rename_i hz
    cases e3
    refine hw σ H Fs s xs s1 e1 _ fun J H1 F1 L t1 ⟨G', Y, W, hG, keep, lt, items⟩ dl st1 ls1 D nD => ?_
    have sD : Same H1 (upd H1 D (.lst [])) := fun b o e => by rw [upd_ne (ne_of_none e nD)]; exact e
    have hLD : ¬ L D := fun l => by
      obtain ⟨o, e⟩ := mut_some (lt D l)
      rw [nD] at e; cases e
    refine lc_it W (fun i H' => ∃ sc Fc ys ws vs', compS f (xs.drop i) sc = some (ws, s2) ∧ zs' = ys ++ ws ∧ Sat (Γ sc) σ H' Fc ∧ Step (Own (Γ s1) F1) (upd H1 D (.lst [])) (Own (Γ sc) Fc) (upd H' D (.lst [])) ∧ LS (Γ s1) F1 (Γ sc) Fc ∧ H' D = some (.lst vs') ∧ AllF A H' ys vs' no ∧ (∀ a, L a → ¬ Own (Γ sc) Fc a) ∧ ¬ Own (Γ sc) Fc D ∧ (∀ j B, (Γ sc)[j]? = some (.lnt B) → ¬ Fc j D) ∧ G' H')
      ⟨s1, F1, [], zs', [], by simpa using e2, rfl, t1.same sD, ?_, LS.refl _ _, upd_same, rfl, dl, t1.out nD, fun j B ej f => ?_, keep _ _ hG (Same.keep sD _)⟩ (fun i H' _ ⟨_, _, _, _, _, _, _, _, _, _, _, _, _, _, _, g⟩ => g) ?_ ?_
    · rw [show upd (upd H1 D (.lst [])) D (.lst []) = upd H1 D (.lst []) from by funext b; by_cases hb : b = D <;> simp [upd, hb]]
      exact Step.refl _ _
    · have := t1.lntTrk ej f
      rw [nD] at this; exact this
    · rintro i v H2 H2' hi' ⟨sc, Fc, ys, ws, vs', ew, rfl, t2, st2, ls2, eD, hA, nL, nD2, nDl, g2⟩ hy
      obtain ⟨sm3, F, hvB, hF⟩ := items i _ v H2 H2' (List.getElem?_eq_getElem hi') g2 hy
      have sW : Sat (Γ sc) (wipe σ vs) H2' Fc := by
        have := (t2.same sm3).wipe vs
        rwa [hwp] at this
      refine ht (Γ sc) xs[i] v _ H2' Fc F (fun i m => hv sc i (hi i m)) sW hvB (fun y f o => nL y (hF y f) o) _ fun σ3 F3 s3 o3 k3 => ?_
      refine ⟨?_, ?_⟩
      · have l3 : σ3.length = (wipe σ vs).length := k3.1
        refine (wipe_eq l3 fun j hj => (k3.2 j fun m => hj (hi j m)).2.1).trans ?_
        exact wipe_eq (wipe_length σ vs) fun j hj => wipe_ne hj
      · obtain ⟨y, sd, ws', ey, er, rfl⟩ := compS_step ew hi'
        intro sh0 H0 C cl fp
        refine tc_nil (X := X.blk sh0 H0 scope (compEnvC scope cl C X.env) fp) σ3 H2' F3 s3 true rfl _ fun H4 sm4 => ?_
        intro sh0 H0 C cl fp
        have t4 := s3.same sm4
        refine he xs[i] sc sh0 H0 C cl fp σ3 H4 F3 t4 y sd ey _ fun w H5 F5 T5 t5 hw5 ap5 st5 ls5 => ?_
        have z5 := im.nil hw5
        subst z5
        have sm24 := sm3.trans sm4
        have hD4 : H4 D = some (.lst vs') := sm24 _ _ eD
        -- the outer context behind
        have own3 : ∀ y, Own (N (Γ sc) xs[i]) F3 y → Own (Γ sc) Fc y := o3
        have nD3 : ¬ Own (N (Γ sc) xs[i]) F3 D := fun o => nD2 (own3 _ o)
        have hD5 : H5 D = some (.lst vs') := st5.1 _ _ hD4 nD3
        have t6 : Sat (Γ sd) σ3 H5 F5 := t5.ent (hen sd _)
        have t7 : Sat (Γ sd) σ H5 F5 := t6.ren (by rw [k3.1, wipe_length]) fun j sl ej ne => by
          have nj : j ∉ vs := fun mj => by
            rw [hd sd j mj] at ej
            cases ej
            exact ne rfl
          rw [(k3.2 j fun mj => nj (hi j mj)).2.1, wipe_ne nj]
        have own5 : ∀ y, Own (Γ sd) F5 y → Own (Γ sc) Fc y ∨ H4 y = none := fun y o => (st5.2 y (.inr ⟨_, _, _, (hen sd xs[i]).own (o.choose_spec.choose_spec.choose_spec.1), o.choose_spec.choose_spec.choose_spec.2⟩)).imp (own3 y) id
        have nD5 : ¬ Own (Γ sd) F5 D := fun o => (own5 D o).elim nD2 fun n => by rw [hD4] at n; cases n
        have lsX : LS (Γ sc) Fc (Γ sd) F5 := fun j B ej => by
          have nj : j ∉ vs := fun mj => by
            rw [hd sd j mj] at ej
            cases ej
          obtain ⟨⟨C', c'⟩, r⟩ := ls5 j B ((hen sd xs[i]).lnt ej)
          have k := k3.2 j fun mj => nj (hi j mj)
          rw [k.2.2] at c'
          exact ⟨⟨C', c'⟩, r.trans k.1⟩
        have stH : Step (Own (Γ sc) Fc) H2 (Own (Γ sd) F5) H5 := ⟨fun x o e n => st5.1 x o (sm24 _ _ e) fun o' => n (own3 x o'), fun x o => (own5 x o).imp id fun n => sm24.free n⟩
        have hA5 : AllF A H5 ys vs' no := hA.stb fun x o e c => st5.1 x o (sm24 _ _ e) fun o' => by
          rcases c with c | c
          · exact c.elim
          · have := t2.trk (own3 x o')
            rw [e] at this
            exact c this
        have kp : Keep no H5 (upd H5 D (.lst (vs' ++ [w]))) := upd_keep hD5 trivial fun z => z
        have ne : ∀ j p B, (Γ sd)[j]? = some (.own p B) → ¬ F5 j D := fun j p B ej f => nD5 ⟨j, p, B, ej, f⟩
        have nl5 : ∀ j B, (Γ sd)[j]? = some (.lnt B) → ¬ F5 j D := fun j B ej f => by
          obtain ⟨⟨C', c'⟩, r⟩ := lsX j B ej
          rw [r] at f
          exact nDl j C' c' f
        have t8 : Sat (Γ sd) σ (upd H5 D (.lst (vs' ++ [w]))) F5 := ⟨t7.len, fun j p B ej => let ⟨v, a, b, c⟩ := t7.own j p B ej; ⟨v, a, B.stb b (upd_keep hD5 trivial (ne j p B ej)), c⟩, fun j B ej => let ⟨v, a, b⟩ := t7.lnt j B ej; ⟨v, a, B.stb b (upd_keep hD5 trivial (nl5 j B ej))⟩, t7.dj⟩
        refine ⟨vs', hD5, ?_, sd, F5, ys ++ [y], ws', vs' ++ [w], er, by simp, t8, ?_, ls2.trans lsX, upd_same, ?_, ?_, nD5, nl5, ?_⟩
        · have : (ys ++ y :: ws').length ≤ sizeLine := hz
          have := hA.length
          simp at *
          omega
        · rw [show upd (upd H5 D (.lst (vs' ++ [w]))) D (.lst []) = upd H5 D (.lst []) from by funext b; by_cases hb : b = D <;> simp [upd, hb]]
          refine st2.trans ⟨fun x o e n => ?_, fun x o => ?_⟩
          · by_cases hx : x = D
            · subst hx
              rw [upd_same] at e ⊢
              exact e
            · rw [upd_ne hx] at e ⊢
              exact stH.1 x o e n
          · rcases stH.2 x o with h | h
            · exact .inl h
            · have hx : x ≠ D := fun z => by subst z; rw [eD] at h; cases h
              exact .inr (by rw [upd_ne hx]; exact h)
        · have := (hA5.stb kp).append (AllF.one ((A y).stb hw5 kp)) fun _ z => z.elim
          rwa [un_no] at this
        · intro x lx o
          rcases own5 x o with o | n
          · exact nL x lx o
          · obtain ⟨oo, eo⟩ := mut_some (lt x lx)
            have : ∀ o', H1 x = some o' → H4 x ≠ none := fun o' e' n' => by
              have hx : x ≠ D := fun z => hLD (z ▸ lx)
              have e2 := st2.1 x o' (by rw [upd_ne hx]; exact e') (dl x lx)
              rw [upd_ne hx] at e2
              rw [sm24 _ _ e2] at n'; cases n'
            exact this _ eo n
        · refine keep _ _ (keep _ _ (keep _ _ g2 (Same.keep sm24 _)) (show Keep L H4 H5 from fun x o e c => st5.1 x o e fun o' => ?_)) (upd_keep hD5 trivial hLD)
          rcases c with c | c
          · exact nL x c (own3 x o')
          · have := t4.trk o'
            rw [e] at this
            exact c this
    · rintro H2 ⟨sc, Fc, ys, ws, vs', ew, rfl, t2, st2, ls2, eD, hA, nL, nD2, nDl, _⟩
      rw [List.drop_length] at ew
      cases ew
      rw [List.append_nil] at q
      refine q (.ref D) H2 Fc _ t2 ⟨D, vs', no, rfl, eD, hA, fun z => z, rfl⟩ ⟨fun x f o => ?_, fun j B ej x f g => ?_⟩ ⟨fun x o e n => ?_, fun x f => ?_⟩ (ls1.trans ls2)
      · exact nD2 (f.elim (fun f => f ▸ o) False.elim)
      · exact nDl j B ej (f.elim (fun f => f ▸ g) False.elim)
      · have e1 := st1.1 x o e n
        have n1 : ¬ Own (Γ s1) F1 x := fun o' => by
          rcases st1.2 x o' with h | h
          · exact n h
          · rw [e] at h; cases h
        have hx : x ≠ D := fun z => by subst z; rw [nD] at e1; cases e1
        have e2 := st2.1 x o (by rw [upd_ne hx]; exact e1) n1
        rw [upd_ne hx] at e2
        exact e2
      · have back : ∀ x, H1 x = none → Own (Γ s0) Fs x ∨ H x = none := fun x h => by
          by_cases w : Own (Γ s0) Fs x
          · exact .inl w
          · cases e : H x with
            | none => exact .inr rfl
            | some o => rw [st1.1 x o e w] at h; cases h
        rcases f with f | f
        · have : x = D := f.elim id False.elim
          subst this
          exact back x nD
        · rcases st2.2 x f with h | h
          · exact st1.2 x h
          · have hx : x ≠ D := fun z => by subst z; exact nD2 f
            rw [upd_ne hx] at h
            exact back x h
  · cases e3
end
end Rf
/-! Rf17: moves, comprehensions with effects as expressions, calls by keyword, tests of identity. Own work. -/
namespace Rf
open PySem PySem.Spec L2
section
variable {ι α β γ ρ κ S : Type} {X : Cx} {Γ : Cxt} {tg iter e e2 : Expr} {es : List Expr} {pos pp : Pos} {A : α → Ass} {B : ι → Ass}
/-- x = y, y a slot's own value that is not used again -/
theorem sn_mv (j i : Nat) {x y : Str} {p0 p1 : Pos} {pv : Option V} {a0 : α} (nd : X.N.Nodup) (ei : Γ[i]? = some (.own pv (A a0))) (hij : (i == j) = false := by rfl) (hj : (Γ[j]?).isSome = true := by rfl)
    (hy : X.N[i]? = some y := by rfl) (hv : Vis X.env.scope y := by exact visOf rfl) (hd : (y == ("__debug__" : Str)) = false := by decide) (hcd : (y == ("__classdict__" : Str)) = false := by decide)
    (hx : X.N[j]? = some x := by rfl) (hl : Loc X.env.scope x := by exact locOf rfl) (hf : X.fn x = true ∨ X.env.scope.names.lookup x = some .local := by exact fnOf rfl)
    (hs : swapsWith (.Name y p0) (some (.Name x p1)) pos.line X.env = pure false := by rfl) : Sn X Γ (.Assign [.Name x p1] (.Name y p0) pos) (some ()) (fun _ => (Γ.set i .dead).set j (.own none (A a0))) := .mk fun σ H Fs s z ez D q => by
  obtain ⟨v, ev, h0, _⟩ := s.own i pv _ ei
  have hji : j ≠ i := fun z => by subst z; simp at hij
  have hi := (List.getElem?_eq_some_iff.mp ei).1
  refine TSof.of (ps_set nd hx hl (pe_var hy hv hd hcd) hs hf) ⟨v, ev, ?_⟩
  have s2 := s.ent (ent_dead Γ i)
  have own2 : ∀ a, Fs i a → ¬ Own (Γ.set i .dead) Fs a := fun a f ⟨l, p, B, el, g⟩ => by
    have hl : l ≠ i := fun z => by subst z; rw [List.getElem?_set_self hi] at el; cases el
    rw [List.getElem?_set_ne (Ne.symm hl)] at el
    exact s.dj i l pv _ (Ne.symm hl) ei (.inl ⟨p, B, el⟩) a f g
  have lnt2 : ∀ l B, (Γ.set i .dead)[l]? = some (.lnt B) → ∀ a, Fs i a → ¬ Fs l a := fun l B el a f g => by
    have hl : l ≠ i := fun z => by subst z; rw [List.getElem?_set_self hi] at el; cases el
    rw [List.getElem?_set_ne (Ne.symm hl)] at el
    exact s.dj i l pv _ (Ne.symm hl) ei (.inr ⟨B, el⟩) a f g
  have hj2 : j < (Γ.set i .dead).length := by
    rw [List.length_set]
    exact isSome_lt hj
  refine q _ H (setF Fs j (Fs i)) (s2.set hj2 h0 own2 lnt2) ⟨Step.same (Same.refl H) fun b o => .inl ?_, fun l B el => ?_⟩
  · rcases Own.set hj2 o with f | o
    · exact ⟨i, pv, _, ei, f⟩
    · exact o.ent (ent_dead Γ i)
  · have hl : l ≠ j := fun z => by subst z; rw [List.getElem?_set_self hj2] at el; cases el
    rw [List.getElem?_set_ne (Ne.symm hl)] at el
    exact ⟨⟨B, (ent_dead Γ i).lnt el⟩, setF_ne hl, List.getElem?_set_ne (Ne.symm hl)⟩
/-- [elt for tg in iter], elt with effects -/
theorem ef_lc [im : Imm A] {Γ : S → Cxt} {s0 : S} {g : TG} {is : List Nat} {N : Cxt → ι → Cxt} {m : Option (List ι × S)} {f : ι → S → Option (α × S)} {elt : Expr} {scope : Scope} (own : List (Str × Nat))
    (hN : X.N.Nodup) (hw : We X Γ s0 tg iter m B) (hg : Blk X scope fun X' => PG X' tg g) (ht : TgS g B is N) (hen : ∀ s x, Ent (N (Γ s) x) (Γ s))
    (he : ∀ x s, Blk X scope fun X' => Ef X' (fun s => N (Γ s) x) s elt (f x s) A)
    (ok : blkB X.N X.env.scope scope own = true := by rfl) (hi : subB is own = true := by rfl) (hv : ∀ s, insB (Γ s) own = true := by intro _; rfl) (hd : ∀ s, deadAt (Γ s) (own.map (·.2)) = true := by intro _; rfl) (hwp : ∀ s, wipeC (Γ s) (own.map (·.2)) = Γ s := by intro _; rfl) (hc : X.calm = true := by rfl) (hs : ∀ x, foldedSetIterable iter X.env x = pure x := by intro _; rfl) :
    Ef X Γ s0 (.ListComp elt [⟨tg, iter, [], 0⟩] scope pos) (m.bind fun x => (compS f x.1 x.2).bind fun z => (fits z.1).bind fun ys => some (ys, z.2)) (isL A) := .mk fun σ H Fs s zs s' ez Q q =>
  TEof.of (pe_lc hc hN (pi_of X tg iter) (blkOk ok) hg blk_pts blk_pe hs) (lcE_sem hw ht (subB_of hi) (fun s => insB_of (hv s)) (fun s i m => deadAt_of (hd s) m) hwp hen he s ez q)
/-! ### calls by keyword -/
theorem pe_callK0 {k : Nat} {x : Str} {f : Addr} {fd : FuncData} {ps ks : List Str} {sp : Sp} {E : XK} {kws : List Keyword} {tk : TA} {g : List Value → List Value → List Value} {gV : List V → List V → List V} (F : FnOk X.prog X.w X.K X.mg X.base CX0 k f fd ps sp) (hr : Room k X.A) (hg : Gl X x) (hm : X.mg x = some (.ref f)) (hk : PySem.W.keepIn X.K (.ref f) = true) (hb : KBinds X.K fd ps ks g gV) (hx : Passes CX0 X E)
    (hkw : PK X kws tk) (hall : (backToKw pos (keywordEach kws X.env)).all (·.1.isSome) = true := by rfl) (hks : (backToKw pos (keywordEach kws X.env)).filterMap (·.1) = ks := by rfl)
    (hdb : (x == ("__debug__" : Str)) = false := by decide) (hpl : ((backTo pos (starEach [] X.env)).any (·.1) || (backToKw pos (keywordEach kws X.env)).any (·.1.isNone)) = false := by rfl) :
    PE X (.Call (.Name x pp) [] kws pos) (fun σ H Q => tk σ H fun zs H2 => sp (gV [] zs) H2 Q E) := by
  refine ⟨fun pins s σ H Q I h => ?_⟩
  refine wpAny_Call_Name_kw (ld_glob I hg hm ?_ hdb)
  refine PySem.W.callWith_KW0 (h₀ := X.base) I.ok.mod.kin hk hall (thn (hkw.run pos pins s σ H _ I h) fun ws s2 ⟨zs, H2, I2, rz, q2⟩ => ⟨I2.kIn, ?_⟩) hpl
  rw [hks]
  exact run_fnk F hr hb hx I2 .nil rz q2
/-! ### is True, is False -/
theorem o_isB : Op2 rIsB isB isB isB (fun a b => some (decide (a = b))) := by
  intro x y v u H F G z hx hy e Q k
  cases e
  exact ⟨x, y, hx.1, hy.1, k _ H no (Same.refl H) ⟨rfl, rfl⟩ fun _ z => z.elim⟩
theorem o_notB : Op2 rNotB isB isB isB (fun a b => some (!decide (a = b))) := by
  intro x y v u H F G z hx hy e Q k
  cases e
  exact ⟨x, y, hx.1, hy.1, k _ H no (Same.refl H) ⟨rfl, rfl⟩ fun _ z => z.elim⟩
/-! ### x in a tuple of ints -/
theorem inV_ints (x : Int) (xs : List Int) : inV (.int x) (xs.map V.int) = xs.contains x := by
  unfold inV
  rw [List.any_map, List.contains_eq_any_beq]
  congr 1
  funext y
  show (y == x) = (x == y)
  rw [Bool.eq_iff_iff]
  rw [beq_iff_eq, beq_iff_eq]
  exact eq_comm
theorem o_inT {K : PySem.W.Frag} : Op2 (rIn K false) isI (isT isI) isB (fun x xs => some (xs.contains x)) := by
  intro x y v u H F G z hx ⟨a, vs, ev, r, h⟩ e Q k
  cases e
  have := ints_vals h
  subst this ev
  rw [show v = .int x from hx.1]
  refine ⟨a, _, rfl, .inr (.inl (.inl r)), rfl, ?_, ?_⟩
  · rw [List.all_map]
    exact List.all_eq_true.mpr fun _ _ => rfl
  · rw [if_neg (by decide), inV_ints]
    exact k _ H no (Same.refl H) ⟨rfl, rfl⟩ fun _ z => z.elim
end
end Rf
/-! Rf18: small rules for the laws' own defs. Own work. -/
namespace Rf
open PySem PySem.Spec L2
theorem cl_nil {H : Hp} {r : List V} {F : Fp} (h : nilL.h r H F) : nilL.h r H F := h
theorem cl_cons {A : Ass} {L M : AssL} {H : Hp} {vs : List V} {F : Fp} (g : ∀ {r F}, L.h r H F → M.h r H F) (h : (consL A L).h vs H F) : (consA A M).h vs H F := by
  obtain ⟨v, r, F1, F2, e, a, b, _, ef⟩ := h
  exact ⟨v, r, F1, F2, e, a, g b, ef⟩
section
variable {ι α β γ ρ κ S : Type} {X : Cx} {Γ : Cxt} {tg iter e e2 i : Expr} {es : List Expr} {pos pp : Pos} {A : α → Ass} {B : β → Ass}
theorem o_ixP0 {K : PySem.W.Frag} : Op2A (rIxT K) (isP A B) isI A (fun p i => if i = 0 then some p.1 else none) := by
  intro x y v u H F G z ⟨a, vs, ev, r, v1, r1, F1, F2, e1, h1, ⟨v2, r2, F3, F4, e2, h2, ⟨e3, _⟩, _⟩, _, eF⟩ hy e Q k
  dsimp only at e
  split at e
  · rename_i hz
    cases e
    subst hz ev e1 e2 e3 eF
    exact ⟨a, _, 0, v1, rfl, hy.1, .inl (.inl r), rfl, k v1 H F1 (Same.refl H) h1 fun b t => .inl (.inl t)⟩
  · cases e
theorem o_ixP1 {K : PySem.W.Frag} : Op2A (rIxT K) (isP A B) isI B (fun p i => if i = 1 then some p.2 else none) := by
  intro x y v u H F G z ⟨a, vs, ev, r, v1, r1, F1, F2, e1, h1, ⟨v2, r2, F3, F4, e2, h2, ⟨e3, e4⟩, _, eF2⟩, _, eF⟩ hy e Q k
  dsimp only at e
  split at e
  · rename_i hz
    cases e
    subst hz ev e1 e2 e3 eF eF2
    exact ⟨a, _, 1, v2, rfl, hy.1, .inl (.inl r), rfl, k v2 H F3 (Same.refl H) h2 fun b t => .inl (.inr (.inl t))⟩
  · cases e
end
end Rf
/-! Rf19: dicts that are walked, dicts of pairs, list.index, xs[i] += n. Own work. -/
namespace Rf
open PySem PySem.Spec L2
/-- a dict that is locked, read only -/
def isDf {κ α : Type} [DecidableEq κ] (K : KK κ) (A : α → Ass) (d : List (κ × α)) : Ass := ⟨fun v H F => ∃ a o kvs, v = .ref a ∧ H a = some (.frz o (K.ho kvs)) ∧ AllD K A H d kvs no ∧ F = no,
  fun ⟨_, _, _, _, _, _, e⟩ f => by rw [e] at f; exact f.elim,
  fun ⟨a, o, kvs, e, r, h, ef⟩ k => by
    subst ef
    exact ⟨a, o, kvs, e, k a _ r (.inr fun z => z), h.stb k, rfl⟩⟩
/-- not told of what is locked -/
class Unf {α : Type} (A : α → Ass) : Prop where
  un : ∀ {x v H F a o u}, (A x).h v H F → H a = some (.frz o u) → (A x).h v (upd H a u) F
instance : Unf isI := ⟨fun h _ => h⟩
instance : Unf isB := ⟨fun h _ => h⟩
instance : Unf isS := ⟨fun h _ => h⟩
instance : Unf isN := ⟨fun h _ => h⟩
section
variable {α β γ κ : Type} [DecidableEq κ] {A : α → Ass} {B : β → Ass} {H : Hp} {a : Addr} {o : Obj} {u : HO}
theorem unf_ne {b : Addr} {w : HO} (h : H a = some (.frz o u)) (e : H b = some w) (n : ∀ o' u', w ≠ .frz o' u') : (upd H a u) b = some w := by
  have : b ≠ a := fun z => by
    subst z
    rw [h] at e
    cases e
    exact n _ _ rfl
  rw [upd_ne this]; exact e
theorem AllF.unf [U : Unf A] (e : H a = some (.frz o u)) : ∀ {xs : List α} {vs : List V} {F : Fp}, AllF A H xs vs F → AllF A (upd H a u) xs vs F
  | [], [], _, h => h
  | _ :: _, _ :: _, _, ⟨F1, F2, h1, h2, d, ef⟩ => ⟨F1, F2, U.un h1 e, AllF.unf e h2, d, ef⟩
  | [], _ :: _, _, h => h.elim
  | _ :: _, [], _, h => h.elim
instance [Unf A] : Unf (isT A) := ⟨fun ⟨b, vs, ev, r, h⟩ e => ⟨b, vs, ev, unf_ne e r (fun _ _ z => by cases z), h.unf e⟩⟩
instance [Unf A] : Unf (isL A) := ⟨fun ⟨b, vs, G, ev, r, h, n, ef⟩ e => ⟨b, vs, G, ev, unf_ne e r (fun _ _ z => by cases z), h.unf e, n, ef⟩⟩
instance [U1 : Unf A] [U2 : Unf B] : Unf (isP A B) := ⟨fun ⟨b, vs, ev, r, v1, r1, F1, F2, e1, h1, ⟨v2, r2, F3, F4, e2, h2, e3, d2, eF2⟩, d, eF⟩ e => ⟨b, vs, ev, unf_ne e r (fun _ _ z => by cases z), v1, r1, F1, F2, e1, U1.un h1 e, ⟨v2, r2, F3, F4, e2, U2.un h2 e, e3, d2, eF2⟩, d, eF⟩⟩
theorem AllD.unf {K : KK κ} [U : Unf A] (e : H a = some (.frz o u)) : ∀ {d : List (κ × α)} {kvs : List (K.K' × V)} {F : Fp}, AllD K A H d kvs F → AllD K A (upd H a u) d kvs F
  | [], [], _, h => h
  | _ :: _, _ :: _, _, ⟨e0, F1, F2, h1, h2, d, ef⟩ => ⟨e0, F1, F2, U.un h1 e, AllD.unf e h2, d, ef⟩
  | [], _ :: _, _, h => h.elim
  | _ :: _, [], _, h => h.elim
instance {A0 : κ → Ass} {kf : κ → Key} {inj : ∀ a b, kf a = kf b → a = b} {hA : ∀ k v H F, (A0 k).h v H F → v = kV (kf k)} [Unf A] : Unf (isD (kkey A0 kf inj hA) A) := ⟨fun ⟨b, kvs, G, ev, r, h, n, ef⟩ e => ⟨b, kvs, G, ev, unf_ne e r (fun _ _ z => by cases z), h.unf e, n, ef⟩⟩
end
section
variable {ι α β γ κ ρ δ S : Type} [DecidableEq κ] {X : Cx} {Γ Δ : Cxt} {pos pp : Pos} {A : α → Ass} {B : β → Ass} {tg e e2 : Expr} {p : Option α}
variable {A0 : κ → Ass} {kf : κ → Key} {inj : ∀ a b, kf a = kf b → a = b} {hA : ∀ k v H F, (A0 k).h v H F → v = kV (kf k)}
/-- an expression that walks the dict in slot j -/
theorem pu_lock (j : Nat) {d : List (κ × α)} {pv : Option V} {q : Option β} [im : Imm A] [U : Unf B] (ei : Γ[j]? = some (.own pv (isD (kkey A0 kf inj hA) A d))) (h : Pu X (Γ.set j (.lnt (isDf (kkey A0 kf inj hA) A d))) e q B) : Pu X Γ e q B := .mk fun σ H Fs s z ez Q k => by
  obtain ⟨v, ev, ⟨a, kvs, G, rfl, r, hd, nG, eF⟩, _⟩ := s.own j pv _ ei
  have hj := (List.getElem?_eq_some_iff.mp ei).1
  have z0 := hd.nil
  subst z0
  have fj : Fs j a := by rw [eF]; exact .inl rfl
  refine TEof.of (pe_lock (pe_of X e)) ⟨a, .dK kvs, r, trivial, fun od => ?_⟩
  have s2 : Sat (Γ.set j (.lnt (isDf (kkey A0 kf inj hA) A d))) σ (upd H a (.frz od (.dK kvs))) (setF Fs j no) := by
    refine ⟨by simp [s.len], fun i p' C ec => ?_, fun i C ec => ?_, fun i l p' C n ec c => ?_⟩
    · have hi : i ≠ j := fun z => by subst z; rw [List.getElem?_set_self hj] at ec; cases ec
      rw [List.getElem?_set_ne (Ne.symm hi)] at ec
      obtain ⟨w, e1, h1, h2⟩ := s.own i p' C ec
      refine ⟨w, e1, ?_, h2⟩
      rw [setF_ne hi]
      exact C.stb h1 (upd_keep r trivial fun f => s.dj j i pv _ (Ne.symm hi) ei (.inl ⟨p', C, ec⟩) a fj f)
    · by_cases hi : i = j
      · subst hi
        rw [List.getElem?_set_self hj] at ec
        cases ec
        refine ⟨.ref a, ev, a, od, kvs, rfl, upd_same, ?_, setF_at⟩
        exact hd.stb (upd_keep r trivial fun z => z)
      · rw [List.getElem?_set_ne (Ne.symm hi)] at ec
        obtain ⟨w, e1, h1⟩ := s.lnt i C ec
        refine ⟨w, e1, ?_⟩
        rw [setF_ne hi]
        exact C.stb h1 (upd_keep r trivial fun f => s.dj j i pv _ (Ne.symm hi) ei (.inr ⟨C, ec⟩) a fj f)
    · have hi : i ≠ j := fun z => by subst z; rw [List.getElem?_set_self hj] at ec; cases ec
      rw [List.getElem?_set_ne (Ne.symm hi)] at ec
      rw [setF_ne hi]
      by_cases hl : l = j
      · subst hl
        rw [setF_at]
        exact fun _ _ z => z
      · rw [setF_ne hl]
        rw [List.getElem?_set_ne (Ne.symm hl)] at c
        exact s.dj i l p' C n ec c
  refine h σ _ _ s2 z ez _ fun v H' F sm hB fr => ⟨sm _ _ upd_same, ?_⟩
  refine k v _ F (fun b o e => ?_) (U.un hB (sm _ _ upd_same)) fun x f => ?_
  · by_cases hb : b = a
    · subst hb
      rw [r] at e
      cases e
      exact upd_same
    · rw [upd_ne hb]
      exact sm _ _ (by rw [upd_ne hb]; exact e)
  · have := fr x f
    by_cases hb : x = a
    · subst hb
      rw [upd_same] at this
      cases this
    · rwa [upd_ne hb] at this
theorem AllD.key {K : KK κ} {H : Hp} : ∀ {d : List (κ × α)} {kvs : List (K.K' × V)} {F : Fp} {i : Nat} {k : κ}, AllD K A H d kvs F → (d.map (·.1))[i]? = some k → ∃ v, kvs[i]? = some (K.kf k, v)
  | [], [], _, _, _, _, e => by simp at e
  | p :: d, q :: kvs, _, 0, k, ⟨e0, _⟩, e => by
    simp at e
    subst e
    exact ⟨q.2, by simp [← e0]⟩
  | p :: d, q :: kvs, _, i + 1, k, ⟨_, _, _, _, h2, _⟩, e => by
    obtain ⟨v, h⟩ := AllD.key (i := i) h2 (by simpa using e)
    exact ⟨v, by simpa using h⟩
  | [], _ :: _, _, _, _, h, _ => h.elim
  | _ :: _, [], _, _, _, h, _ => h.elim
theorem wa_keys {r : Option (List (κ × α))} (hB : ∀ k H, (A0 k).h (kV (kf k)) H no) (h : Al X Γ e r (isDf (kkey A0 kf inj hA) A)) : Wa X Γ tg e (r.map fun d => d.map (·.1)) A0 := .mk fun σ H Fs s xs ex R q => by
  obtain ⟨d, ed, rfl⟩ := Option.map_eq_some_iff.mp ex
  refine TIof.of (pi_keys (pe_of X e)) ?_
  refine h σ H Fs s d ed _ fun v H1 F sm ⟨a, o, kvs, ev, r, hd, eF⟩ _ => ⟨a, o, ev, .inl ⟨kvs, r, ?_⟩⟩
  refine q _ H1 no sm (Src.imm (G := fun H => H a = some (.frz o (.dK kvs))) (Y := fun i H x H' => H' = H ∧ ∃ k v, kvs[i]? = some (k, v) ∧ x = kV k) ?_ r (fun H1 H2 g k => k a _ g (.inr fun z => z)) fun i x v H1 H2 e g y => ?_) fun _ z => z.elim
  · rw [List.length_map, hd.length]
    exact walk_keys
  · obtain ⟨rfl, k, w, ek, rfl⟩ := y
    obtain ⟨w', e'⟩ := hd.key e
    rw [ek] at e'
    cases e'
    exact ⟨Same.refl H2, hB _ _⟩
theorem wa_keysI {r : Option (List (Int × α))} (h : Al X Γ e r (isDf kI A)) : Wa X Γ tg e (r.map fun d => d.map (·.1)) isI := wa_keys (fun _ _ => ⟨rfl, rfl⟩) h
theorem wa_keysS {r : Option (List (Str × α))} (h : Al X Γ e r (isDf kS A)) : Wa X Γ tg e (r.map fun d => d.map (·.1)) isS := wa_keys (fun _ _ => ⟨rfl, rfl⟩) h
/-! dict(list of pairs) -/
theorem pairs_kv {K : PySem.W.Frag} [im : Imm A] {H : Hp} : ∀ {xs : List (κ × α)} {vs : List V} {F : Fp}, (∀ k v H F, (A0 k).h v H F → F = no) → AllF (isP A0 A) H xs vs F → ∃ (ps : List Addr) (kvs : List (Key × V)), vs = ps.map V.ref ∧ Paired (fun p kv => SqT K H p [kV kv.1, kv.2]) ps kvs ∧ AllD (kkey A0 kf inj hA) A H xs kvs no
  | [], [], _, _, _ => ⟨[], [], rfl, .nil, rfl⟩
  | x :: xs, v :: vs, _, hi, ⟨F1, F2, ⟨a, ws, ev, r, v1, r1, G1, G2, e1, h1, ⟨v2, r2, G3, G4, e2, h2, ⟨e3, _⟩, _⟩, _⟩, hr, _⟩ => by
    obtain ⟨ps, kvs, ep, hp, hd⟩ := pairs_kv (K := K) hi hr
    subst ev e1 e2 e3 ep
    have k1 := hA _ _ _ _ h1
    subst k1
    have z := im.nil h2
    subst z
    exact ⟨a :: ps, (kf x.1, v2) :: kvs, rfl, .cons (.inl (.inl r)) hp, rfl, no, no, h2, hd, fun _ z => z.elim, (no_un no).symm⟩
  | [], _ :: _, _, _, h => h.elim
  | _ :: _, [], _, _, h => h.elim
theorem c_dictP {K : PySem.W.Frag} [im : Imm A] (hi : ∀ k v H F, (A0 k).h v H F → F = no) : Cl1 (fun xs H Q => ∃ (a : Addr) (ps : List Addr) (kvs : List (Key × V)), xs = [.ref a] ∧ SqL K H a (ps.map V.ref) ∧ Paired (fun p kv => SqT K H p [kV kv.1, kv.2]) ps kvs ∧
    ∀ p, H p = none → Q (.ref p) (upd H p (.dK (mergeK [] kvs)))) (isL (isP A0 A)) (isD (kkey A0 kf inj hA) A) (fun xs => some (dmerge [] xs)) := by
  intro x v H F z ⟨a, vs, G, ev, r, h, _⟩ e Q k
  cases e
  subst ev
  obtain ⟨ps, kvs, ep, hp, hd⟩ := pairs_kv (K := K) (inj := inj) (hA := hA) hi h
  subst ep
  refine ⟨a, ps, kvs, rfl, .inl (.inl r), hp, fun p np => ?_⟩
  have sm := upd_new (o := .dK (mergeK [] kvs)) np
  have hm : AllD (kkey A0 kf inj hA) A H (dmerge [] x) (mergeK [] kvs) no := AllD.merge (d := []) (kvs := []) hd rfl
  exact k (.ref p) _ (fun b => b = p ∨ no b) sm ⟨p, _, no, rfl, upd_same, hm.stb (Same.keep sm _), fun z => z, rfl⟩ fun b f => f.elim (fun f => f ▸ np) False.elim
theorem c_dictPI {K : PySem.W.Frag} [im : Imm A] : Cl1 (fun xs H Q => ∃ (a : Addr) (ps : List Addr) (kvs : List (Key × V)), xs = [.ref a] ∧ SqL K H a (ps.map V.ref) ∧ Paired (fun p kv => SqT K H p [kV kv.1, kv.2]) ps kvs ∧
    ∀ p, H p = none → Q (.ref p) (upd H p (.dK (mergeK [] kvs)))) (isL (isP isI A)) (isD kI A) (fun xs => some (dmerge [] xs)) := c_dictP (A0 := isI) fun _ _ _ _ h => h.2
/-! list.index of ints -/
def lindex (xs : List Int) (x : Int) : Option Int := (xs.findIdx? (· == x)).map fun i : Nat => (i : Int)
theorem pu_index {r : Option (List Int)} {q : Option Int} {apos : Pos} (ho : Al X Γ e r (isL isI)) (hx : Al X Γ e2 q isI) (hb : attributeBase e "index" X.env (eval e X.env) = eval e X.env := by rfl) (hline : (apos.endLine == pos.line) = true := by rfl) (he : starEach [e2] X.env = [(false, eval e2 X.env)] := by rfl)
    (hfew : ((backTo pos (starEach [e2] X.env)).all (fun x => !x.1) && (backToKw pos (keywordEach [] X.env)).all (fun x => x.1.isSome) && decide (([e2] : List Expr).length + ([] : List Keyword).length + (if ([] : List Keyword).isEmpty then 0 else 1) < 30)) = true := by rfl) :
    Pu X Γ (.Call (.Attribute e "index" apos) [e2] [] pos) (r.bind fun xs => q.bind fun x => lindex xs x) isI := .mk fun σ H Fs s z ez Q k => by
  obtain ⟨xs, e1, e0⟩ := Option.bind_eq_some_iff.mp ez
  obtain ⟨x, e2', e3⟩ := Option.bind_eq_some_iff.mp e0
  obtain ⟨i, e4, rfl⟩ := Option.map_eq_some_iff.mp e3
  refine TEof.of (pe_bm PySem.F.plainAttrs_list PySem.F.slot_list_index PySem.F.type_list_index mt_index (pe_of X e) (pa_cons (pe_of X e2) pa_nil he) hb hfew hline he rfl) ?_
  refine ho σ H Fs s xs e1 _ fun v H1 F s1 h1 _ => ?_
  refine ⟨ty_L h1, ?_⟩
  refine hx σ H1 Fs (s.same s1) x e2' _ fun u H2 F2 s2 h2 _ => ?_
  obtain ⟨a, vs, G, ev, r, hv, _⟩ := Ass.same h1 s2
  have := ints_vals hv
  subst this ev
  have := h2.1
  subst this
  obtain ⟨hi, hp, hn⟩ := List.findIdx?_eq_some_iff_getElem.mp e4
  refine ⟨a, xs.map V.int, .int x, i, .int xs[i], rfl, rfl, .inl (.inl r), rfl, List.all_eq_true.mpr (fun y hy => by obtain ⟨w, _, rfl⟩ := List.mem_map.mp hy; rfl), by rw [List.getElem?_map, List.getElem?_eq_getElem hi]; rfl, ?_, fun m z' hm ez' => ?_, ?_⟩
  · show (xs[i] == x) = true
    exact hp
  · rw [List.getElem?_map] at ez'
    obtain ⟨w, ew, rfl⟩ := Option.map_eq_some_iff.mp ez'
    have hml := (List.getElem?_eq_some_iff.mp ew)
    have := hn m hm
    obtain ⟨h5, h6⟩ := hml
    subst h6
    show (xs[m] == x) = false
    simpa using this
  · exact k _ H2 no (s1.trans s2) ⟨rfl, rfl⟩ fun _ z => z.elim
end
end Rf
/-! Rf20: a law's two tables of steps; xs[i] += n. Own work. -/
namespace Rf
open PySem PySem.Spec L2
section
variable {ι α β γ κ ρ δ S : Type} {X : Cx} {Γ Δ : Cxt} {pos pp : Pos} {A : α → Ass} {e e2 i : Expr} {p : Option α}
/-- return {"k1": x, "k2": e}: x a slot's own value, moved -/
theorem sx_ret2D (j : Nat) {k1 k2 : Str} {a0 : α} {pv : Option V} {x : Str} {c1 c2 : Nat} {q1 q2 p0 p1 : Pos} {N : β → Cxt} {L : γ → Cxt} {R : Rt ρ} (f : List (Str × α) → ρ) (ei : Γ[j]? = some (.own pv (A a0))) (hk : (k1 == k2) = false) (he : Pu X Γ e p A) (hA : ∀ c, R.A (f c) = isD kS A c := by intro _; rfl) (hG : ∀ c, Ent (Γ.set j .dead) (R.G (f c)))
    (hN : X.N[j]? = some x := by rfl) (hv : Vis X.env.scope x := by exact visOf rfl) (hd : (x == ("__debug__" : Str)) = false := by decide) (hcd : (x == ("__classdict__" : Str)) = false := by decide) :
    Sx X Γ (.Return (some (.Dict [some (.Constant (.str k1) c1 q1), some (.Constant (.str k2) c2 q2)] [.Name x p0, e] p1)) pos) (p.bind fun z => some (Fl.rt (f [(k1, a0), (k2, z)]))) N L R := .mk fun σ H Fs s z ez D q => by
  obtain ⟨w, e1, e2⟩ := Option.bind_eq_some_iff.mp ez
  cases e2
  obtain ⟨v, ev, h0, _⟩ := s.own j pv _ ei
  have hne : k1 ≠ k2 := fun z => by subst z; simp at hk
  refine TSof.of (ps_ret (pe_disp (pps_cons pe_str (pe_var hN hv hd hcd) (pps_cons pe_str (pe_of X e) pps_nil)) rfl rfl (by simp) (by simp))) ?_
  intro a na
  have s0 : Same H (upd H a (.dK [])) := upd_new na
  refine ⟨v, ev, ?_⟩
  refine he σ _ Fs (s.same s0) w e1 _ fun u H2 F2 s2 h2 fr => ?_
  have ea : H2 a = some (.dK []) := s2 _ _ upd_same
  have h0' := Ass.same (Ass.same h0 s0) s2
  refine ⟨ea, [(.inr k1, v), (.inr k2, u)], rfl, by simp, ?_⟩
  have em : mergeK [] [(.inr k1, v), (.inr k2, u)] = [(.inr k1, v), (.inr k2, u)] := by
    have h3 : ¬ ((Sum.inr k1 : Key) = Sum.inr k2) := fun z => hne (Sum.inr.inj z)
    simp [mergeK, putK, h3]
  rw [em]
  have nFa : ¬ Fs j a := Ass.out h0 na
  have nF2a : ¬ F2 a := fun g => by
    have := fr a g
    rw [upd_same] at this
    cases this
  have dj : ∀ y, Fs j y → ¬ F2 y := fun y g g2 => by
    obtain ⟨o, eo⟩ := mut_some ((A a0).trk (Ass.same h0 s0) g)
    have := fr y g2
    rw [eo] at this; cases this
  have kp : ∀ F : Fp, ¬ F a → Keep F H2 (upd H2 a (.dK [(.inr k1, v), (.inr k2, u)])) := fun F n => upd_keep ea trivial n
  have sm : Same H (upd H2 a (.dK [(.inr k1, v), (.inr k2, u)])) := fun b o eb => by
    have nb : b ≠ a := fun z => by subst z; rw [na] at eb; cases eb
    rw [upd_ne nb]
    exact s2 _ _ (s0 _ _ eb)
  have key : ∀ y, un (Fs j) (un F2 no) y → y = a ∨ un (Fs j) (un F2 no) y := fun _ => .inr
  refine q (.ref a) σ _ Fs (fun y => y = a ∨ un (Fs j) (un F2 no) y) (((s.same sm).ent (ent_dead Γ j)).ent (hG _)) (by
    rw [hA]
    refine ⟨a, _, un (Fs j) (un F2 no), rfl, upd_same, ⟨rfl, Fs j, un F2 no, (A a0).stb h0' (kp _ nFa), ⟨rfl, F2, no, (A w).stb h2 (kp _ nF2a), rfl, fun _ _ z => z, rfl⟩, fun y g g2 => dj y g (g2.resolve_right fun z => z), rfl⟩, fun g => ?_, rfl⟩
    rcases g with g | g | g
    · exact nFa g
    · exact nF2a g
    · exact g) (fun y g o => ?_) (Step.same sm fun y g => ?_)
  · have o2 := o.ent (hG _)
    have o3 := o2.ent (ent_dead Γ j)
    rcases g with rfl | g | g | g
    · exact s.out na o3
    · obtain ⟨l, q', B, el, g'⟩ := o2
      have hl : l ≠ j := fun z => by
        subst z
        rw [List.getElem?_set_self (List.getElem?_eq_some_iff.mp ei).1] at el
        cases el
      rw [List.getElem?_set_ne (Ne.symm hl)] at el
      exact s.dj j l pv _ (Ne.symm hl) ei (.inl ⟨q', B, el⟩) y g g'
    · exact s.out (s0.free (fr y g)) o3
    · exact g.elim
  · rcases g with (rfl | g | g | g) | o
    · exact .inr na
    · exact .inl ⟨j, pv, _, ei, g⟩
    · exact .inr (s0.free (fr y g))
    · exact g.elim
    · exact .inl ((o.ent (hG _)).ent (ent_dead Γ j))
theorem get_list : PGet X (rIxL X.K) := by
  intro pins s σ H x y v u Q I rx ry h
  obtain ⟨p, xs, i, z, rfl, rfl, hq, he, q⟩ := h
  cases rx
  obtain ⟨t, rfl⟩ := ry
  obtain ⟨its, r, pl, hz⟩ := I.list hq
  obtain ⟨j, h1, h2, h3, h4, h5⟩ := atI_get he
  obtain ⟨w, ew, rw'⟩ := r.get h2
  have hl := r.length
  have hn := line63
  have fin : EP X pins σ Q w s := ⟨z, H, I, rw', q⟩
  by_cases h0 : 0 ≤ i
  · have hj : i.toNat = j := by
      rw [seqIndex_of h0 h5] at h1
      exact Option.some.inj h1
    exact wpAny_getItem_list pl.isList (by omega) (by omega) (by rw [hj]; simpa using ew) fin
  · have hj : (i + (its.toArray.size : Int)).toNat = j := by
      rw [seqIndex_neg (by omega) h4] at h1
      rw [List.size_toArray, ← hl]
      exact Option.some.inj h1
    exact wpAny_getItem_list_neg pl.isList (by omega) (by rw [List.size_toArray] <;> omega) (by omega) (by rw [hj]; simpa using ew) fin
def laug (xs : List Int) (k z : Int) : Option (List Int) := (ixN xs.length k).bind fun j => xs[j]?.map fun x => xs.set j (x + z)
/-- xs[i] += e, xs a list of ints in slot j -/
theorem sn_augL (j : Nat) {xs : List Int} {pv : Option V} {x : Str} {q r : Option Int} {p0 p1 : Pos} (ei : Γ[j]? = some (.own pv (isL isI xs))) (hi : Al X Γ i q isI) (he : Al X Γ e r isI)
    (hN : X.N[j]? = some x := by rfl) (hv : Vis X.env.scope x := by exact visOf rfl) (hd : (x == ("__debug__" : Str)) = false := by decide) (hcd : (x == ("__classdict__" : Str)) = false := by decide)
    (ha : ∀ ov iv new, augStore i ov iv new = (do holding [new, ov, iv] (setItem ov iv new); release [new, ov, iv] []; pure .next) := by intros; rfl) :
    Sn X Γ (.AugAssign (.Subscript (.Name x p0) i p1) .Add e pos) (q.bind fun k => r.bind fun z => laug xs k z) (fun ys => Γ.set j (.own pv (isL isI ys))) := .mk fun σ H Fs s z ez D k => by
  obtain ⟨y, e1, e0⟩ := Option.bind_eq_some_iff.mp ez
  obtain ⟨w, e2, e3⟩ := Option.bind_eq_some_iff.mp e0
  obtain ⟨n, e4, e5⟩ := Option.bind_eq_some_iff.mp e3
  obtain ⟨t, e6, rfl⟩ := Option.map_eq_some_iff.mp e5
  obtain ⟨v, ev, _, _⟩ := s.own j pv _ ei
  refine TSof.of (ps_augS (pe_var hN hv hd hcd) (pe_of X i) get_list (pe_of X e) ip_add set_list ha) ⟨v, ev, ?_⟩
  refine hi σ H Fs s y e1 _ fun u H1 F1 s1 h1 _ => ?_
  obtain ⟨v', ev', h0, _⟩ := (s.same s1).own j pv _ ei
  rw [ev] at ev'; cases ev'
  obtain ⟨a, vs, G, rfl, r0, hvs, nG, eF⟩ := h0
  have := ints_vals hvs
  subst this
  have z0 := hvs.nil
  subst z0
  have := h1.1
  subst this
  refine ⟨a, _, y, .int t, rfl, rfl, .inl (.inl r0), ?_, ?_⟩
  · unfold L2.atI
    rw [List.length_map, e4]
    show (xs.map V.int)[n]? = some (V.int t)
    rw [List.getElem?_map, e6]; rfl
  refine he σ H1 Fs (s.same s1) w e2 _ fun u2 H2 F2 s2 h2 _ => ⟨t, w, rfl, h2.1, ?_⟩
  have r2 := s2 _ _ r0
  refine ⟨a, _, y, n, rfl, rfl, r2, by rw [List.length_map]; exact e4, ?_⟩
  have st : Step (Fs j) H2 (fun b => b = a ∨ no b) (upd H2 a (.lst ((xs.map V.int).set n (.int (t + w))))) := Step.upd (by rw [eF]; exact .inl rfl) fun b f => .inl (by rw [eF]; exact f)
  obtain ⟨a1, a2⟩ := chg_mv s (s1.trans s2) ei ev (C := isL isI (xs.set n (t + w))) ⟨a, _, no, rfl, upd_same, by
    have := vals_ints (H := upd H2 a (.lst ((xs.map V.int).set n (.int (t + w))))) (xs.set n (t + w))
    rwa [List.map_set] at this, fun z => z, rfl⟩ st
  exact k _ _ _ a1 a2
end
end Rf
/-! Rf21: sorted lists of data. Own work. -/
namespace Rf
open PySem PySem.Spec L2
/-- any two can be compared -/
class Alk {α : Type} (A : α → Ass) [E : Enc A] : Prop where
  al : ∀ x y : α, PySem.W.alike (E.enc x) (E.enc y) = true
instance : Alk isI := ⟨fun x y => rfl⟩
instance : Alk isB := ⟨fun x y => rfl⟩
section
variable {α β : Type} {A : α → Ass} {B : β → Ass}
theorem alks [E : Enc A] [L : Alk A] : ∀ xs ys : List α, PySem.W.alikeAll (xs.map E.enc) (ys.map E.enc) = true
  | [], _ => by simp [PySem.W.alikeAll]
  | _ :: _, [] => by simp [PySem.W.alikeAll]
  | x :: xs, y :: ys => by
    rw [List.map_cons, List.map_cons, PySem.W.alikeAll, L.al x y, alks xs ys]; rfl
instance [E : Enc A] [L : Alk A] : Alk (isT A) := ⟨fun x y => by
  show PySem.W.alike (.tuple _) (.tuple _) = true
  rw [PySem.W.alike]; exact alks x y⟩
instance [E : Enc A] [L : Alk A] : Alk (isL A) := ⟨fun x y => by
  show PySem.W.alike (.list _) (.list _) = true
  rw [PySem.W.alike]; exact alks x y⟩
instance [E : Enc A] [L : Alk A] [E2 : Enc B] [L2 : Alk B] : Alk (isP A B) := ⟨fun x y => by
  show PySem.W.alike (.tuple [_, _]) (.tuple [_, _]) = true
  simp [PySem.W.alike, PySem.W.alikeAll, L.al, L2.al]⟩
def dle (A : α → Ass) [E : Enc A] : α → α → Bool := PySem.W.dataLe false E.enc
theorem each_of {R : Value → α × V → Prop} {H : Hp} [im : Imm A] (h : ∀ x v u, (A x).h v H no → RelV v u → R u (x, v)) : ∀ {xs : List α} {vs : List V} {us : List Value}, AllF A H xs vs no → Vals vs us → PySem.W.EachIs R us (xs.zip vs)
  | [], [], _, _, .nil => .nil
  | x :: xs, v :: vs, _, ⟨F1, F2, h1, h2, _, _⟩, .cons r t => by
    have z1 := im.nil h1
    have z2 := h2.nil
    subst z1 z2
    exact .cons (h x v _ h1 r) (each_of h h2 t)
  | [], _ :: _, _, h, _ => h.elim
  | _ :: _, [], _, h, _ => h.elim
theorem each_back {H : Hp} : ∀ {zs : List (α × V)} {us : List Value}, PySem.W.EachIs (fun u z => RelV z.2 u ∧ (A z.1).h z.2 H no) us zs → AllF A H (zs.map (·.1)) (zs.map (·.2)) no ∧ Vals (zs.map (·.2)) us
  | [], _, .nil => ⟨rfl, .nil⟩
  | z :: zs, _, .cons h t => ⟨⟨no, no, h.2, (each_back t).1, fun _ z => z.elim, (no_un no).symm⟩, .cons h.1 (each_back t).2⟩
def rSortE {α : Type} (A : α → Ass) [E : Enc A] (K : PySem.W.Frag) : List V → Hp → VK → Prop := fun xs H Q => ∃ (a : Addr) (l : List α) (vs : List V), xs = [.ref a] ∧ SqL K H a vs ∧ AllF A H l vs no ∧ PySem.W.Sortable (l.map E.enc) ∧
  ∀ ys p, AllF A H (l.mergeSort (dle A)) ys no → H p = none → Q (.ref p) (upd H p (.lst ys))
theorem zip_fst : ∀ {l : List α} {vs : List V}, l.length = vs.length → (l.zip vs).map (·.1) = l
  | [], [], _ => rfl
  | x :: l, v :: vs, h => by simp [zip_fst (l := l) (vs := vs) (by simpa using h)]
  | [], _ :: _, h => by simp at h
  | _ :: _, [], h => by simp at h
theorem call_sortedE {X : Cx} [im : Imm A] [E : Enc A] [L : Alk A] (hd : decide (E.d ≤ 60) = true) (hu : X.A.units + 64 < cLine) : CallR X (.builtin "sorted") (rSortE A X.K) := by
  intro pins s σ H xs us Q I r ⟨a, l, vs, ex, hq, hv, hs, q⟩
  subst ex
  obtain ⟨u, rfl, rx⟩ := vals1 r
  cases rx
  obtain ⟨its, rv, pl, hz⟩ := I.list hq
  have ll := hv.length
  have e1 : ((l.zip vs).map fun b => E.enc b.1) = l.map E.enc := by
    rw [← zip_fst ll, List.map_map]
    congr 1
    rw [zip_fst ll]
  refine PySem.W.sorted_data (bs := l.zip vs) (enc := fun b => E.enc b.1) (R := fun u z => RelV z.2 u ∧ (A z.1).h z.2 H no) pl.isList (each_of (fun x v u h r => ⟨r, h⟩) hv rv) (each_of (fun x v u h r => Dp.reads I _ v u (E.dp h) r) hv rv) (fun d hd d' hd' => ?_) (by rw [e1]; exact hs) (by rw [List.length_zip, ll, Nat.min_self]; exact hz) (fun b _ => ?_) fun out hl hout => ?_
  · rw [e1] at hd hd'
    obtain ⟨x, _, rfl⟩ := List.mem_map.mp hd
    obtain ⟨y, _, rfl⟩ := List.mem_map.mp hd'
    exact L.al x y
  · have h1 := E.dep b.1
    have h2 := of_decide_eq_true hd
    omega
  · obtain ⟨h1, h2⟩ := each_back hout
    have e2 : ((l.zip vs).mergeSort (PySem.W.dataLe false fun b => E.enc b.1)).map (·.1) = l.mergeSort (dle A) := by
      have hm := List.map_mergeSort (r := PySem.W.dataLe false fun b : α × V => E.enc b.1) (s := dle A) (f := fun b : α × V => b.1) (l := l.zip vs) (fun _ _ _ _ => rfl)
      rw [zip_fst ll] at hm
      exact hm
    rw [e2] at h1
    obtain ⟨c, hc⟩ := PyProof.Rows.sortedAll_at s.heap its out.toArray
    have hn : H (s.heap.objs.size + 1) = none := I.hok.fresh (Nat.le_succ _)
    have hlen : (((l.zip vs).mergeSort (PySem.W.dataLe false fun b => E.enc b.1)).map (·.2)).length ≤ sizeLine := by
      rw [List.length_map, List.length_mergeSort, List.length_zip, ll, Nat.min_self]; exact hz
    refine ⟨.ref (s.heap.objs.size + 1), upd H (s.heap.objs.size + 1) (.lst _), I.laid (t' := s.toks) (fun b u e => PyProof.Rows.sortedAll_old e) (Nat.le_succ _)
      (show ObjOk X.prog X.w _ _ _ (.lst _) from ⟨hlen, out, c, h2, hc⟩), rfl, q _ _ h1 hn⟩
def tsort [E : Enc A] (xs : List (List α)) : Option (List (List α)) := if (xs.all fun x => !x.isEmpty) = true then some (xs.mergeSort (dle (isT A))) else none
theorem c_sortedT {K : PySem.W.Frag} [im : Imm A] [E : Enc A] [L : Alk A] : Cl1 (rSortE (isT A) K) (isL (isT A)) (isL (isT A)) (tsort (A := A)) := by
  intro x v H F z ⟨a, vs, G, ev, r, h, _⟩ e Q k
  unfold tsort at e
  split at e
  · rename_i hn
    cases e
    subst ev
    have z0 := h.nil
    subst z0
    refine ⟨a, x, vs, rfl, .inl (.inl r), h, .inl fun d hd => ?_, fun ys p hy np => ?_⟩
    · obtain ⟨t, ht, rfl⟩ := List.mem_map.mp hd
      have := List.all_eq_true.mp hn t ht
      cases t with
      | nil => cases this
      | cons y t => exact ⟨_, _, rfl⟩
    · obtain ⟨sm, hl⟩ := new_list np hy
      exact k _ _ _ sm hl fun b t => t.elim (fun t => t ▸ np) False.elim
  · cases e
def psort [E : Enc A] [E2 : Enc B] (xs : List (α × β)) : List (α × β) := xs.mergeSort (dle (isP A B))
theorem c_sortedP {K : PySem.W.Frag} [im : Imm A] [E : Enc A] [L : Alk A] [im2 : Imm B] [E2 : Enc B] [L2 : Alk B] : Cl1 (rSortE (isP A B) K) (isL (isP A B)) (isL (isP A B)) (fun xs => some (psort (A := A) (B := B) xs)) := by
  intro x v H F z ⟨a, vs, G, ev, r, h, _⟩ e Q k
  cases e
  subst ev
  have z0 := h.nil
  subst z0
  refine ⟨a, x, vs, rfl, .inl (.inl r), h, .inl fun d hd => ?_, fun ys p hy np => ?_⟩
  · obtain ⟨t, ht, rfl⟩ := List.mem_map.mp hd
    exact ⟨_, _, rfl⟩
  · obtain ⟨sm, hl⟩ := new_list np hy
    exact k _ _ _ sm hl fun b t => t.elim (fun t => t ▸ np) False.elim
end
end Rf
/-! Rf22: constant tuples of ints. Own work. -/
namespace Rf
open PySem PySem.Spec L2
section
variable {X : Cx} {Γ : Cxt} {pos : Pos}
def short : List Expr → Nat → Bool
  | [], _ => true
  | _ :: _, 0 => false
  | _ :: r, n + 1 => short r n
theorem short_le : ∀ {es : List Expr} {n : Nat}, short es n = true → es.length ≤ n
  | [], _, _ => Nat.zero_le _
  | _ :: _, 0, h => by cases h
  | _ :: r, n + 1, h => Nat.succ_le_succ (short_le (es := r) h)
theorem short1000 {es : List Expr} (h : short es 60 = true) : es.length ≤ 1000 := Nat.le_trans (short_le h) (by decide)
def intsOf : List Expr → Option (List Int)
  | [] => some []
  | .Constant (.int i) _ _ :: es => (intsOf es).map fun xs => i :: xs
  | _ => none
theorem ak_ints : ∀ {es : List Expr} {xs : List Int}, intsOf es = some xs → (∀ e ∈ es, ∀ r : List Expr, starEach (e :: r) X.env = (false, eval e X.env) :: starEach r X.env) → Al' X Γ es (some xs) isI
  | [], xs, h, _ => by
    cases h
    exact ak_nil
  | .Constant (.int i) k p :: es, xs, h, hs => by
    obtain ⟨ys, e1, rfl⟩ := Option.map_eq_some_iff.mp h
    have := ak_cons (X := X) (Γ := Γ) (e := .Constant (.int i) k p) (es := es) (pu_int (i := i)) (ak_ints e1 fun e m => hs e (List.mem_cons_of_mem _ m)) (hs _ List.mem_cons_self es)
    exact this
theorem intsOf_len : ∀ {es : List Expr} {xs : List Int}, intsOf es = some xs → xs.length = es.length
  | [], xs, h => by cases h; rfl
  | .Constant (.int i) k p :: es, xs, h => by
    obtain ⟨ys, e1, rfl⟩ := Option.map_eq_some_iff.mp h
    simp [intsOf_len e1]
theorem star_int {i : Int} {k : Nat} {p : Pos} {r : List Expr} : starEach (.Constant (.int i) k p :: r) X.env = (false, eval (.Constant (.int i) k p) X.env) :: starEach r X.env := rfl
theorem star_ints : ∀ {es : List Expr} {xs : List Int}, intsOf es = some xs → ∀ e ∈ es, ∀ r : List Expr, starEach (e :: r) X.env = (false, eval e X.env) :: starEach r X.env
  | [], _, _, e, m => by cases m
  | .Constant (.int i) k p :: es, xs, h, e, m => by
    obtain ⟨ys, e1, rfl⟩ := Option.map_eq_some_iff.mp h
    rcases List.mem_cons.mp m with rfl | m
    · exact fun r => star_int
    · exact star_ints e1 e m
theorem pu_ci {es : List Expr} {k : Nat} (xs : List Int) (h : intsOf es = some xs := by decide +kernel) (hn : short es 60 = true := by decide +kernel) : Pu X Γ (.Tuple es k pos) (some xs) (isT isI) :=
  pu_tup (ak_ints h (star_ints h)) (short1000 hn) fun ys e => by cases e; exact intsOf_len h
def tupsOf : List Expr → Option (List (List Int))
  | [] => some []
  | .Tuple es _ _ :: r => match short es 60 with
    | true => (intsOf es).bind fun x => (tupsOf r).map fun xs => x :: xs
    | false => none
  | _ => none
theorem tupsOf_cons {es r : List Expr} {k : Nat} {p : Pos} {xss : List (List Int)} (h : tupsOf (.Tuple es k p :: r) = some xss) : short es 60 = true ∧ ∃ x xs, intsOf es = some x ∧ tupsOf r = some xs ∧ xss = x :: xs := by
  unfold tupsOf at h
  split at h
  · obtain ⟨x, e1, e2⟩ := Option.bind_eq_some_iff.mp h
    obtain ⟨xs, e3, rfl⟩ := Option.map_eq_some_iff.mp e2
    exact ⟨by assumption, x, xs, e1, e3, rfl⟩
  · cases h
theorem star_tup {es r : List Expr} {k : Nat} {p : Pos} : starEach (.Tuple es k p :: r) X.env = (false, eval (.Tuple es k p) X.env) :: starEach r X.env := rfl
theorem ak_tups : ∀ {es : List Expr} {xss : List (List Int)}, tupsOf es = some xss → Al' X Γ es (some xss) (isT isI)
  | [], xss, h => by
    cases h
    exact ak_nil
  | .Tuple es k p :: r, xss, h => by
    obtain ⟨h0, x, xs, e1, e2, rfl⟩ := tupsOf_cons h
    have := ak_cons (X := X) (Γ := Γ) (e := .Tuple es k p) (es := r) (pu_ci x e1 h0) (ak_tups e2) star_tup
    exact this
theorem tupsOf_len : ∀ {es : List Expr} {xss : List (List Int)}, tupsOf es = some xss → xss.length = es.length
  | [], xss, h => by cases h; rfl
  | .Tuple es k p :: r, xss, h => by
    obtain ⟨h0, x, xs, e1, e2, rfl⟩ := tupsOf_cons h
    simp [tupsOf_len e2]
theorem pu_cti {es : List Expr} {k : Nat} (xss : List (List Int)) (h : tupsOf es = some xss := by decide +kernel) (hn : short es 60 = true := by decide +kernel) : Pu X Γ (.Tuple es k pos) (some xss) (isT (isT isI)) :=
  pu_tup (ak_tups h) (short1000 hn) fun ys e => by cases e; exact tupsOf_len h
end
end Rf
/-! Rf23: mirrors by equality. Own work. -/
namespace Rf
open PySem PySem.Spec L2
section
variable {α β γ ρ S : Type} {X : Cx} {Γ : Cxt} {e : Expr} {A : α → Ass}
theorem Pu.eq {p p' : Option α} (h : Pu X Γ e p A) (q : p' = p) : Pu X Γ e p' A := q ▸ h
theorem Al.eq {p p' : Option α} (h : Al X Γ e p A) (q : p' = p) : Al X Γ e p' A := q ▸ h
theorem Te.eq {p p' : Option Bool} (h : Te X Γ e p) (q : p' = p) : Te X Γ e p' := q ▸ h
theorem Ef.eq {Γ : S → Cxt} {s : S} {p p' : Option (α × S)} (h : Ef X Γ s e p A) (q : p' = p) : Ef X Γ s e p' A := q ▸ h
/-- items with effects, and how many there are -/
def AkL (X : Cx) (Γ : S → Cxt) (s : S) (es : List Expr) (m : Option (List α × S)) (A : α → Ass) : Prop := Ak X Γ s es m A ∧ ∀ xs s', m = some (xs, s') → xs.length = es.length
theorem akL_nil {Γ : S → Cxt} {s0 : S} : AkL X Γ s0 [] (some ([], s0)) A := ⟨ake_nil, akel_nil⟩
theorem akL_cons [im : Imm A] {Γ : S → Cxt} {s0 : S} {es : List Expr} {m : Option (α × S)} {k : α → S → Option (List α × S)} (ha : Ef X Γ s0 e m A) (hb : ∀ x s, AkL X Γ s es (k x s) A) (hs : starEach (e :: es) X.env = (false, eval e X.env) :: starEach es X.env := by rfl) : AkL X Γ s0 (e :: es) (m.bind fun x => (k x.1 x.2).bind fun y => some (x.1 :: y.1, y.2)) A :=
  ⟨ake_cons ha (fun x s => (hb x s).1) hs, akel_cons fun x s => (hb x s).2⟩
theorem ef_lstL {Γ : S → Cxt} {s0 : S} {es : List Expr} {pos : Pos} {m : Option (List α × S)} (h : AkL X Γ s0 es m A) (hn : es.length ≤ 1000) : Ef X Γ s0 (.List es pos) m (isL A) := ef_lst h.1 hn h.2
theorem Tf.eq {Γ : S → Cxt} {s : S} {p p' : Option (Bool × S)} (h : Tf X Γ s e p) (q : p' = p) : Tf X Γ s e p' := q ▸ h
end
section
variable {α β γ ρ κ S : Type} {X : Cx} {Γ : Cxt} {e : Expr} {es : List Expr} {k : Nat} {n : List Str} {x nm : Str} {pp pos p0 : Pos}
/-! calls, their arguments as they come -/
theorem pu_callI {As : α → List Ass} {m : α → Option ρ} {R : ρ → Ass} {A : α → AssL} {q : Option α} (F : Fo X.prog X.w X.K X.mg X.base k x n (FSpec As m R)) (hr : Room k X.A) (ha : Ag X Γ (e :: es) q A) (ht : ∀ b, A b = argsL (As b) := by intro _; rfl)
    (hg : Gl X x := by rfl) (hdb : (x == ("__debug__" : Str)) = false := by decide) (he : starEach (e :: es) X.env = (false, eval e X.env) :: starEach es X.env := by rfl) (hpl : (backTo pos (starEach es X.env)).any (·.1) = false := by rfl) :
    Pu X Γ (.Call (.Name x pp) (e :: es) [] pos) (q.bind m) R := pu_call F hr ha (fun b => b) ht hg hdb he hpl
theorem ef_callI {Γ : S → Cxt} {s0 : S} {As : α → List Ass} {m : α → Option ρ} {R : ρ → Ass} {A : α → AssL} {q : Option (α × S)} (F : Fo X.prog X.w X.K X.mg X.base k x n (FSpec As m R)) (hr : Room k X.A) (ha : Ae X Γ s0 (e :: es) q A) (ht : ∀ b vs H F, (A b).h vs H F → (argsL (As b)).h vs H F)
    (hg : Gl X x := by rfl) (hdb : (x == ("__debug__" : Str)) = false := by decide) (he : starEach (e :: es) X.env = (false, eval e X.env) :: starEach es X.env := by rfl) (hpl : (backTo pos (starEach es X.env)).any (·.1) = false := by rfl) :
    Ef X Γ s0 (.Call (.Name x pp) (e :: es) [] pos) (q.bind fun b => (m b.1).bind fun r => some (r, b.2)) R := ef_call F hr ha (fun b => b) ht hg hdb he hpl
theorem ef_callMI {Γ : S → Cxt} {s0 : S} {i : Nat} {C : κ → Ass} {get : S → κ} {put : S → κ → S} {As : α → List Ass} {m : κ → α → Option (ρ × κ)} {R : ρ → Ass} {A : α → AssL} {q : Option α} (l : Lens Γ i C get put)
    (F : Fo X.prog X.w X.K X.mg X.base k x n (MSpec C As m R)) (hr : Room k X.A) (ha : Ag X ((Γ s0).set i .dead) es q A) (ht : ∀ b, A b = argsL (As b) := by intro _; rfl)
    (hN : X.N[i]? = some nm := by rfl) (hv : Vis X.env.scope nm := by exact visOf rfl) (hd : (nm == ("__debug__" : Str)) = false := by decide) (hcd : (nm == ("__classdict__" : Str)) = false := by decide)
    (hg : Gl X x := by rfl) (hdb : (x == ("__debug__" : Str)) = false := by decide) (he : starEach (.Name nm p0 :: es) X.env = (false, eval (.Name nm p0) X.env) :: starEach es X.env := by rfl) (hpl : (backTo pos (starEach es X.env)).any (·.1) = false := by rfl) :
    Ef X Γ s0 (.Call (.Name x pp) (.Name nm p0 :: es) [] pos) (q.bind fun b => (m (get s0) b).bind fun r => some (r.1, put s0 r.2)) R := ef_callM l F hr ha (fun b => b) ht hN hv hd hcd hg hdb he hpl
theorem ef_callMeI {Γ : S → Cxt} {s0 : S} {i : Nat} {C : κ → Ass} {get : S → κ} {put : S → κ → S} {As : α → List Ass} {m : κ → α → Option (ρ × κ)} {R : ρ → Ass} {A : α → AssL} {q : Option (α × S)} (l : Lens Γ i C get put)
    (F : Fo X.prog X.w X.K X.mg X.base k x n (MSpec C As m R)) (hr : Room k X.A) (ha : Ae X Γ s0 es q A) (ht : ∀ b vs H F, (A b).h vs H F → (argsL (As b)).h vs H F)
    (hN : X.N[i]? = some nm := by rfl) (hv : Vis X.env.scope nm := by exact visOf rfl) (hd : (nm == ("__debug__" : Str)) = false := by decide) (hcd : (nm == ("__classdict__" : Str)) = false := by decide)
    (hg : Gl X x := by rfl) (hdb : (x == ("__debug__" : Str)) = false := by decide) (he : starEach (.Name nm p0 :: es) X.env = (false, eval (.Name nm p0) X.env) :: starEach es X.env := by rfl) (hpl : (backTo pos (starEach es X.env)).any (·.1) = false := by rfl) :
    Ef X Γ s0 (.Call (.Name x pp) (.Name nm p0 :: es) [] pos) (q.bind fun b => (m (get b.2) b.1).bind fun r => some (r.1, put b.2 r.2)) R := ef_callMe l F hr ha (fun b => b) ht hN hv hd hcd hg hdb he hpl
end
section
variable {X : Cx} {Γ : Cxt} {pos : Pos}
def strsOf : List Expr → Option (List Str)
  | [] => some []
  | .Constant (.str i) _ _ :: es => (strsOf es).map fun xs => i :: xs
  | _ => none
theorem star_str {i : Str} {k : Nat} {p : Pos} {r : List Expr} : starEach (.Constant (.str i) k p :: r) X.env = (false, eval (.Constant (.str i) k p) X.env) :: starEach r X.env := rfl
theorem ak_strs : ∀ {es : List Expr} {xs : List Str}, strsOf es = some xs → Al' X Γ es (some xs) isS
  | [], xs, h => by
    cases h
    exact ak_nil
  | .Constant (.str i) k p :: es, xs, h => by
    obtain ⟨ys, e1, rfl⟩ := Option.map_eq_some_iff.mp h
    have := ak_cons (X := X) (Γ := Γ) (e := .Constant (.str i) k p) (es := es) (pu_str (x := i)) (ak_strs e1) star_str
    exact this
theorem strsOf_len : ∀ {es : List Expr} {xs : List Str}, strsOf es = some xs → xs.length = es.length
  | [], xs, h => by cases h; rfl
  | .Constant (.str i) k p :: es, xs, h => by
    obtain ⟨ys, e1, rfl⟩ := Option.map_eq_some_iff.mp h
    simp [strsOf_len e1]
theorem pu_cs {es : List Expr} {k : Nat} (xs : List Str) (h : strsOf es = some xs := by decide +kernel) (hn : short es 60 = true := by decide +kernel) : Pu X Γ (.Tuple es k pos) (some xs) (isT isS) :=
  pu_tup (ak_strs h) (short1000 hn) fun ys e => by cases e; exact strsOf_len h
end
end Rf
/-! Rf24: data of any kind (for comparing defs), isinstance, a pair stored into two names. Own work. -/
namespace Rf
open PySem PySem.Spec L2
/-- immutable data of any kind -/
inductive Dat where
  | i (n : Int) | b (x : Bool) | s (x : Str) | n | t (l : List Dat)
mutual
def DatV (H : Hp) : Dat → V → Prop
  | .i n, v => v = .int n
  | .b x, v => v = .bl x
  | .s x, v => v = .str x
  | .n, v => v = .non
  | .t l, v => ∃ a vs, v = .ref a ∧ H a = some (.tup vs) ∧ DatVs H l vs
def DatVs (H : Hp) : List Dat → List V → Prop
  | [], vs => vs = []
  | d :: l, vs => ∃ v r, vs = v :: r ∧ DatV H d v ∧ DatVs H l r
end
mutual
theorem DatV.stb {H H' : Hp} (k : Keep no H H') : ∀ (d : Dat) {v : V}, DatV H d v → DatV H' d v
  | .i _, _, h => h
  | .b _, _, h => h
  | .s _, _, h => h
  | .n, _, h => h
  | .t l, _, ⟨a, vs, e, r, h⟩ => ⟨a, vs, e, k a _ r (.inr fun m => m.elim), DatVs.stb k l h⟩
theorem DatVs.stb {H H' : Hp} (k : Keep no H H') : ∀ (l : List Dat) {vs : List V}, DatVs H l vs → DatVs H' l vs
  | [], _, h => h
  | d :: l, _, ⟨v, r, e, h1, h2⟩ => ⟨v, r, e, DatV.stb k d h1, DatVs.stb k l h2⟩
end
def isX (d : Dat) : Ass := ⟨fun v H F => DatV H d v ∧ F = no, fun ⟨_, e⟩ f => by rw [e] at f; exact f.elim, fun {v H H' F} ⟨h, e⟩ k => ⟨by subst e; exact DatV.stb k d h, e⟩⟩
instance : Imm isX := ⟨fun h => h.2⟩
theorem DatVs.length {H : Hp} : ∀ {l : List Dat} {vs : List V}, DatVs H l vs → l.length = vs.length
  | [], _, h => by rw [show _ = [] from h]; rfl
  | _ :: _, _, ⟨v, r, e, _, h⟩ => by rw [e]; simp [DatVs.length h]
theorem DatVs.get {H : Hp} : ∀ {l : List Dat} {vs : List V} {i : Nat} {d : Dat}, DatVs H l vs → l[i]? = some d → ∃ v, vs[i]? = some v ∧ DatV H d v
  | [], _, _, _, _, e => by simp at e
  | d :: l, _, 0, d', ⟨v, r, e, h1, _⟩, q => by
    simp at q; subst q; subst e
    exact ⟨v, rfl, h1⟩
  | d :: l, _, i + 1, d', ⟨v, r, e, _, h2⟩, q => by
    subst e
    exact DatVs.get h2 (i := i) (by simpa using q)
theorem DatVs.atI {H : Hp} {l : List Dat} {vs : List V} {i : Int} {d : Dat} (h : DatVs H l vs) (e : atI l i = some d) : ∃ v, L2.atI vs i = some v ∧ DatV H d v := by
  unfold L2.atI at e ⊢
  rw [← h.length]
  obtain ⟨j, e1, e2⟩ := Option.bind_eq_some_iff.mp e
  obtain ⟨v, e3, e4⟩ := h.get e2
  exact ⟨v, by rw [e1]; exact e3, e4⟩
/-- what is data -/
class Dt {α : Type} (A : α → Ass) where
  enc : α → Dat
  inj : ∀ x y, enc x = enc y → x = y
  of : ∀ {x v H F}, (A x).h v H F → DatV H (enc x) v ∧ F = no
instance : Dt isI := ⟨.i, fun _ _ h => by cases h; rfl, fun h => h⟩
instance : Dt isB := ⟨.b, fun _ _ h => by cases h; rfl, fun h => h⟩
instance : Dt isS := ⟨.s, fun _ _ h => by cases h; rfl, fun h => h⟩
instance : Dt isN := ⟨fun _ => .n, fun _ _ _ => rfl, fun h => h⟩
instance : Dt isX := ⟨id, fun _ _ h => h, fun h => h⟩
theorem DatVs.ofAll {α : Type} {A : α → Ass} [D : Dt A] {H : Hp} : ∀ {xs : List α} {vs : List V} {F : Fp}, AllF A H xs vs F → DatVs H (xs.map D.enc) vs ∧ F = no
  | [], [], _, h => ⟨rfl, h⟩
  | x :: xs, v :: vs, _, ⟨F1, F2, h1, h2, _, e⟩ => by
    obtain ⟨a, b⟩ := D.of h1
    obtain ⟨c, d⟩ := DatVs.ofAll h2
    exact ⟨⟨v, vs, rfl, a, c⟩, by rw [e, b, d, no_un]⟩
  | [], _ :: _, _, h => h.elim
  | _ :: _, [], _, h => h.elim
instance {α : Type} {A : α → Ass} [D : Dt A] : Dt (isT A) := ⟨fun xs => .t (xs.map D.enc), fun x y h => by
  have h2 := Dat.t.inj h
  exact (List.map_inj_right (fun a b => D.inj a b)).mp h2, fun {x v H F} ⟨a, vs, e, r, h⟩ => by
  obtain ⟨c, d⟩ := DatVs.ofAll h
  exact ⟨⟨a, vs, e, r, c⟩, d⟩⟩
instance {α β : Type} {A : α → Ass} {B : β → Ass} [D : Dt A] [E : Dt B] : Dt (isP A B) := ⟨fun p => .t [D.enc p.1, E.enc p.2], fun x y h => by
  have h2 := Dat.t.inj h
  simp only [List.cons.injEq, and_true] at h2
  exact Prod.ext (D.inj _ _ h2.1) (E.inj _ _ h2.2), fun {x v H F} ⟨a, vs, e, r, v1, r1, F1, F2, e1, h1, ⟨v2, r2, F3, F4, e2, h2, ⟨e3, e4⟩, _, ef2⟩, _, ef⟩ => by
  obtain ⟨p1, q1⟩ := D.of h1
  obtain ⟨p2, q2⟩ := E.of h2
  refine ⟨⟨a, vs, e, r, v1, r1, e1, p1, v2, r2, e2, p2, e3⟩, ?_⟩
  rw [ef, ef2, q1, q2, e4, no_un, no_un]⟩
section
variable {α β γ ρ S : Type} {X : Cx} {Γ : Cxt} {e e2 : Expr} {pos pp p2 : Pos} {A : α → Ass} {B : β → Ass}
theorem al_enc {p : Option α} [D : Dt A] (h : Al X Γ e p A) : Al X Γ e (p.map D.enc) isX := h.as D.enc fun _ _ _ _ q => D.of q
def tyn : Dat → String
  | .i _ => "int" | .b _ => "bool" | .s _ => "str" | .n => "NoneType" | .t _ => "tuple"
def isK (T : String) (d : Dat) : Bool := (kitB (tyn d) T).getD false
def kitAll (T : String) : Bool := ["int", "bool", "str", "NoneType", "tuple"].all fun s => (kitB s T).isSome
theorem isK_of {T : String} (h : kitAll T = true) (d : Dat) : kitB (tyn d) T = some (isK T d) := by
  unfold kitAll at h
  rw [List.all_eq_true] at h
  have := h (tyn d) (by cases d <;> simp [tyn])
  obtain ⟨b, e⟩ := Option.isSome_iff_exists.mp this
  unfold isK
  rw [e]; rfl
theorem DatV.ty {K : PySem.W.Frag} {H : Hp} {d : Dat} {v : V} (h : DatV H d v) : TyX K H v (.type (tyn d)) := by
  cases d with
  | i n => rw [show v = .int n from h]; exact .base (.int n)
  | b x => rw [show v = .bl x from h]; exact .base (.bl x)
  | s x => rw [show v = .str x from h]; exact .base (.str x)
  | n => rw [show v = .non from h]; exact .base .non
  | t l =>
    obtain ⟨a, vs, ev, r, _⟩ := h
    subst ev
    exact .base (.tup r)
theorem pu_isi {Tn : Str} {T : String} {p : Option Dat} (hx : Al X Γ e p isX) (hv : bootBuiltins Tn = some (.type T)) (hk : kitAll T = true) (hm : X.mg "isinstance" = none) (hmT : X.mg Tn = none)
    (hg : Gl X "isinstance" := by rfl) (hgT : Gl X Tn := by rfl) (hnT : Tn ≠ "__name__" := by decide +kernel) (hdT : (Tn == ("__debug__" : Str)) = false := by decide +kernel)
    (he : starEach [e, .Name Tn p2] X.env = (false, eval e X.env) :: starEach [.Name Tn p2] X.env := by rfl) (he2 : starEach [.Name Tn p2] X.env = [(false, eval (.Name Tn p2) X.env)] := by rfl) :
    Pu X Γ (.Call (.Name "isinstance" pp) [e, .Name Tn p2] [] pos) (p.map (isK T)) isB := .mk fun σ H Fs s z ez Q k => by
  obtain ⟨d, e1, e3⟩ := Option.map_eq_some_iff.mp ez
  subst e3
  refine TEof.of (pe_callB call_isi hg hm PyProof.Rows.boot_isinstance (pa_cons (pe_of X e) (pa_cons (pe_bltn (v := .ty T) hgT hmT hv rfl hnT hdT) pa_nil he2) he) (by decide +kernel) (by decide +kernel) he (by rw [he2]; rfl)) ?_
  refine hx σ H Fs s d e1 _ fun v H1 F s1 h1 _ => ?_
  exact ⟨v, .ty T, .type (tyn d), .type T, isK T d, rfl, .ty T, h1.1.ty, kit_ty (isK_of hk d), k _ H1 no s1 ⟨rfl, rfl⟩ fun _ z => z.elim⟩
def xlen : Dat → Option Int
  | .t l => some (l.length : Int)
  | _ => none
theorem c_lenX {K : PySem.W.Frag} : Cl1 (fun xs H Q => ∃ x n, xs = [x] ∧ LenV K x H n ∧ Q (.int n) H) isX isI xlen := by
  intro d v H F z hx e Q k
  cases d with
  | t l =>
    cases e
    obtain ⟨⟨a, vs, ev, r, h⟩, _⟩ := hx
    subst ev
    refine ⟨_, vs.length, rfl, .inr ⟨vs, .inl (.inl r), rfl⟩, ?_⟩
    rw [← h.length]
    exact k _ H no (Same.refl H) ⟨rfl, rfl⟩ fun _ z => z.elim
  | _ => cases e
def xat (d : Dat) (i : Int) : Option Dat := match d with
  | .t l => atI l i
  | _ => none
theorem o_ixX {K : PySem.W.Frag} : Op2A (rIxT K) isX isI isX xat := by
  intro x y v u H F G z hx hy e Q k
  cases x with
  | t l =>
    obtain ⟨⟨a, vs, ev, r, h⟩, _⟩ := hx
    obtain ⟨w, e1, h1⟩ := h.atI e
    exact ⟨a, vs, y, w, ev, hy.1, .inl (.inl r), e1, k w H no (Same.refl H) ⟨h1, rfl⟩ fun _ z => z.elim⟩
  | _ => cases e
def xnone : Dat → Bool
  | .n => true
  | _ => false
def rIsN' : R2 := fun x y H Q => y = .non ∧ Q (.bl (decide (x = .non))) H
def rNotN' : R2 := fun x y H Q => y = .non ∧ Q (.bl (!decide (x = .non))) H
theorem op_isN' : OpR X (compareOp .Is) rIsN' := op_isN
theorem op_notN' : OpR X (compareOp .IsNot) rNotN' := op_notN
theorem o_isNX : Op2 rIsN' isX isN isB (fun d _ => some (xnone d)) := by
  intro x y v u H F G z hx hy e Q k
  cases e
  refine ⟨hy.1, ?_⟩
  have : decide (v = V.non) = xnone x := by
    cases x with
    | t l => obtain ⟨⟨a, vs, ev, _⟩, _⟩ := hx; subst ev; rfl
    | i n => rw [show v = .int n from hx.1]; rfl
    | b n => rw [show v = .bl n from hx.1]; rfl
    | s n => rw [show v = .str n from hx.1]; rfl
    | n => rw [show v = .non from hx.1]; rfl
  rw [this]
  exact k _ H no (Same.refl H) ⟨rfl, rfl⟩ fun _ z => z.elim
theorem o_notNX : Op2 rNotN' isX isN isB (fun d _ => some (!xnone d)) := by
  intro x y v u H F G z hx hy e Q k
  cases e
  refine ⟨hy.1, ?_⟩
  have : decide (v = V.non) = xnone x := by
    cases x with
    | t l => obtain ⟨⟨a, vs, ev, _⟩, _⟩ := hx; subst ev; rfl
    | i n => rw [show v = .int n from hx.1]; rfl
    | b n => rw [show v = .bl n from hx.1]; rfl
    | s n => rw [show v = .str n from hx.1]; rfl
    | n => rw [show v = .non from hx.1]; rfl
  rw [this]
  exact k _ H no (Same.refl H) ⟨rfl, rfl⟩ fun _ z => z.elim
/-- unlike, of scalars of one kind -/
def xne : Dat → Dat → Option Bool
  | .i a, .i b => some (decide (a ≠ b))
  | .b a, .b b => some (decide (a ≠ b))
  | .s a, .s b => some (decide (a ≠ b))
  | _, _ => none
theorem o_neX : Op2 rNe isX isX isB xne := by
  intro x y v u H F G z hx hy e Q k
  unfold xne at e
  split at e
  · cases e
    rename_i a b
    rw [show v = .int a from hx.1, show u = .int b from hy.1]
    refine ⟨rfl, k _ H no (Same.refl H) ⟨?_, rfl⟩ fun _ z => z.elim⟩
    congr 1; simp
  · cases e
    rename_i a b
    rw [show v = .bl a from hx.1, show u = .bl b from hy.1]
    refine ⟨rfl, k _ H no (Same.refl H) ⟨?_, rfl⟩ fun _ z => z.elim⟩
    congr 1; simp
  · cases e
    rename_i a b
    rw [show v = .str a from hx.1, show u = .str b from hy.1]
    refine ⟨rfl, k _ H no (Same.refl H) ⟨?_, rfl⟩ fun _ z => z.elim⟩
    congr 1; simp
  · cases e
/-! ### a pair stored into two names -/
theorem sn_set2E [im : Imm A] [im2 : Imm B] (i j : Nat) {Γ : S → Cxt} {s0 : S} {m : Option ((α × β) × S)} {x y : Str} {p1 p2 tp : Pos} {kt : Nat} (he : Ef X Γ s0 e m (isP A B)) (hi : ∀ s, i < (Γ s).length) (hj : ∀ s, j < (Γ s).length) (nd : X.N.Nodup)
    (hx : X.N[i]? = some x) (hy : X.N[j]? = some y) (hlx : Loc X.env.scope x) (hly : Loc X.env.scope y) (hfx : X.fn x = true ∨ X.env.scope.names.lookup x = some .local) (hfy : X.fn y = true ∨ X.env.scope.names.lookup y = some .local) (hc : X.calm = true := by rfl)
    (h1 : (assignEach [.Name x p1, .Name y p2] X.env).map (·.2) = assign (.Name x p1) X.env :: (assignEach [.Name y p2] X.env).map (·.2) := by rfl) (h2 : (assignEach [.Name y p2] X.env).map (·.2) = assign (.Name y p2) X.env :: (assignEach [] X.env).map (·.2) := by rfl)
    (hn : (assignEach [.Name x p1, .Name y p2] X.env).length = 2 := by rfl) (hst : (assignEach [.Name x p1, .Name y p2] X.env).findIdx? (·.1) = none := by rfl)
    (hs : swapsWithSole [.Tuple [.Name x p1, .Name y p2] kt tp] e pos.line X.env = pure false := by rfl) (hw : swappedStores [.Tuple [.Name x p1, .Name y p2] kt tp] e X.env = pure none := by rfl)
    (ha : (assignEach [.Tuple [.Name x p1, .Name y p2] kt tp] X.env).map (·.2) = [assign (.Tuple [.Name x p1, .Name y p2] kt tp) X.env] := by rfl) :
    Sn X (Γ s0) (.Assign [.Tuple [.Name x p1, .Name y p2] kt tp] e pos) m (fun z => ((Γ z.2).set i (.own none (A z.1.1))).set j (.own none (B z.1.2))) := .mk fun σ H Fs s z ez D q => by
  refine TSof.of (ps_asg (pe_of X e) (pg_pair (i := i) (j := j) nd hx hy hlx hly hfx hfy hc h1 h2 hn hst) hs hw ha) ?_
  refine he σ H Fs s z.1 z.2 ez _ fun v H1 Fs' T s1 h1 d t l => ?_
  obtain ⟨a, vs, ev, r, v1, r1, F1, F2, e1, k1, ⟨v2, r2, F3, F4, e2, k2, ⟨e3, _⟩, _⟩, _⟩ := h1
  subst ev e1 e2 e3
  have f1 : F1 = no := im.nil k1
  have f2 : F3 = no := im2.nil k2
  subst f1 f2
  have s2 := s1.set (hi _) k1 (fun _ z => z.elim) (fun _ _ _ _ z => z.elim)
  have s3 := s2.set (i := j) (by rw [List.length_set]; exact hj _) k2 (fun _ z => z.elim) (fun _ _ _ _ z => z.elim)
  refine ⟨a, [v1, v2], rfl, .inl (.inl r), rfl, v1, [v2], rfl, v2, [], rfl, rfl, ?_⟩
  refine q _ H1 _ s3 ⟨⟨t.1, fun b o => ?_⟩, fun k C ek => ?_⟩
  · rcases Own.set (by rw [List.length_set]; exact hj _) o with f | o
    · exact f.elim
    · rcases Own.set (hi _) o with f | o
      · exact f.elim
      · exact t.2 b (.inr o)
  · have hkj : k ≠ j := fun z => by
      subst z
      rw [List.getElem?_set_self (by rw [List.length_set]; exact hj _)] at ek
      cases ek
    rw [List.getElem?_set_ne (Ne.symm hkj)] at ek
    have hki : k ≠ i := fun z => by
      subst z
      rw [List.getElem?_set_self (hi _)] at ek
      cases ek
    rw [List.getElem?_set_ne (Ne.symm hki)] at ek
    obtain ⟨c, w⟩ := l k C ek
    refine ⟨c, ((setF_ne hkj).trans (setF_ne hki)).trans w, ?_⟩
    rw [List.getElem?_set_ne (Ne.symm hkj), List.getElem?_set_ne (Ne.symm hki)]
end
end Rf
/-! Rf25: calls by keyword. Own work. -/
namespace Rf
open PySem PySem.Spec L2
section
variable {α β γ ρ κ S : Type} {X : Cx} {Γ : Cxt} {e : Expr} {A : α → Ass} {B : β → Ass} {k : Nat} {x nm : Str} {pp pos kpos : Pos} {kws : List Keyword} {kn : Option Str}
theorem sn_st2E [im : Imm A] [im2 : Imm B] (i j : Nat) {Γ : S → Cxt} {s0 : S} {m : Option ((α × β) × S)} {x y : Str} {p1 p2 tp : Pos} {kt : Nat} (nd : X.N.Nodup) (he : Ef X Γ s0 e m (isP A B)) (hi : ∀ s, ((Γ s)[i]?).isSome = true := by intro _; rfl) (hj : ∀ s, ((Γ s)[j]?).isSome = true := by intro _; rfl)
    (hx : X.N[i]? = some x := by rfl) (hy : X.N[j]? = some y := by rfl) (hlx : Loc X.env.scope x := by exact locOf rfl) (hly : Loc X.env.scope y := by exact locOf rfl) (hfx : X.fn x = true ∨ X.env.scope.names.lookup x = some .local := by exact fnOf rfl) (hfy : X.fn y = true ∨ X.env.scope.names.lookup y = some .local := by exact fnOf rfl) (hc : X.calm = true := by rfl)
    (h1 : (assignEach [.Name x p1, .Name y p2] X.env).map (·.2) = assign (.Name x p1) X.env :: (assignEach [.Name y p2] X.env).map (·.2) := by rfl) (h2 : (assignEach [.Name y p2] X.env).map (·.2) = assign (.Name y p2) X.env :: (assignEach [] X.env).map (·.2) := by rfl)
    (hn : (assignEach [.Name x p1, .Name y p2] X.env).length = 2 := by rfl) (hst : (assignEach [.Name x p1, .Name y p2] X.env).findIdx? (·.1) = none := by rfl)
    (hs : swapsWithSole [.Tuple [.Name x p1, .Name y p2] kt tp] e pos.line X.env = pure false := by rfl) (hw : swappedStores [.Tuple [.Name x p1, .Name y p2] kt tp] e X.env = pure none := by rfl)
    (ha : (assignEach [.Tuple [.Name x p1, .Name y p2] kt tp] X.env).map (·.2) = [assign (.Tuple [.Name x p1, .Name y p2] kt tp) X.env] := by rfl) :
    Sn X (Γ s0) (.Assign [.Tuple [.Name x p1, .Name y p2] kt tp] e pos) m (fun z => ((Γ z.2).set i (.own none (A z.1.1))).set j (.own none (B z.1.2))) := sn_set2E i j he (fun s => isSome_lt (hi s)) (fun s => isSome_lt (hj s)) nd hx hy hlx hly hfx hfy hc h1 h2 hn hst hs hw ha
/-! ### keywords -/
def TKof (X : Cx) (kws : List Keyword) : TA := fun σ H Q => ∀ (pos : Pos) (pins : List (Addr × Obj)) (s : Shared), Inv X pins σ H s → wpAny (model X.prog X.w) X.A (evalAll ((backToKw pos (keywordEach kws X.env)).map (·.2))) (AP X pins σ Q) X.xe s
theorem pk_of (X : Cx) (kws : List Keyword) : PK X kws (TKof X kws) := ⟨fun pos pins s σ H Q I h => h pos pins s I⟩
theorem TKof.of {kws : List Keyword} {t : TA} {σ : L2.St} {H : Hp} {Q : List V → Hp → Prop} (h : PK X kws t) (q : t σ H Q) : TKof X kws σ H Q := fun pos pins s I => h.run pos pins s σ H Q I q
/-- pure keywords, read only -/
abbrev Kg (X : Cx) (Γ : Cxt) (kws : List Keyword) (p : Option α) (A : α → AssL) : Prop := Hold (
  ∀ σ H Fs, Sat Γ σ H Fs → ∀ a, p = some a → ∀ Q : List V → Hp → Prop, (∀ vs H' F, Same H H' → (A a).h vs H' F → (∀ x, F x → Cov Γ Fs x ∨ H x = none) → Q vs H') → TKof X kws σ H Q)
theorem kg_nil : Kg X Γ [] (some ()) nilLu := .mk fun σ H Fs s a e Q q => by
  cases e
  exact TKof.of pk_nil (q [] H no (Same.refl H) ⟨rfl, rfl⟩ fun _ z => z.elim)
theorem kg_cons {p : Option α} {q : Option β} {B : β → AssL} (h : Al X Γ e p A) (g : Kg X Γ kws q B) :
    Kg X Γ (⟨kn, e, kpos⟩ :: kws) (p.bind fun x => q.bind fun y => some (x, y)) (fun z => consA (A z.1) (B z.2)) := .mk fun σ H Fs s a ea Q k => by
  obtain ⟨x, e1, e0⟩ := Option.bind_eq_some_iff.mp ea
  obtain ⟨y, e2, e3⟩ := Option.bind_eq_some_iff.mp e0
  cases e3
  refine TKof.of (pk_cons (pe_of X e) (pk_of X kws)) ?_
  refine h σ H Fs s x e1 _ fun v H1 F s1 h1 c1 => ?_
  refine g σ H1 Fs (s.same s1) y e2 _ fun vs H2 G s2 h2 c2 => k (v :: vs) H2 (un F G) (s1.trans s2) ⟨v, vs, F, G, rfl, Ass.same h1 s2, h2, rfl⟩ fun z f => ?_
  rcases f with f | f
  · exact c1 z f
  · exact (c2 z f).imp id fun n => s1.free n
/-- which places: the values of the parameters, out of the keywords' values -/
def pick {τ : Type} (is : List Nat) (ws : List τ) : List τ := is.filterMap fun i => ws[i]?
def kput {τ : Type} (n : Nat) (is : List Nat) (us ws : List τ) : List τ := if us.isEmpty && decide (ws.length = n) then pick is ws else []
theorem Vals.get {vs : List V} {us : List Value} (r : Vals vs us) (i : Nat) : (vs[i]? = none ∧ us[i]? = none) ∨ ∃ v u, vs[i]? = some v ∧ us[i]? = some u ∧ RelV v u := by
  induction r generalizing i with
  | nil => left; simp
  | cons h t ih =>
    cases i with
    | zero => right; exact ⟨_, _, rfl, rfl, h⟩
    | succ i => simpa using ih i
theorem Vals.pick {vs : List V} {us : List Value} (r : Vals vs us) : ∀ is : List Nat, Vals (Rf.pick is vs) (Rf.pick is us)
  | [] => .nil
  | i :: is => by
    unfold Rf.pick
    rcases Vals.get r i with ⟨a, b⟩ | ⟨v, u, a, b, h⟩
    · simp only [List.filterMap_cons, a, b]
      exact Vals.pick r is
    · simp only [List.filterMap_cons, a, b]
      exact .cons h (Vals.pick r is)
structure FoK (P : Program) (w : World) (K : PySem.W.Frag) (mg : Str → Option Value) (base : Heap) (k : Nat) (nm : Str) (ps ks : List Str) (is : List Nat) (sp : Sp) : Prop where
  ex : ∃ (f : Addr) (fd : FuncData), FnOk P w K mg base CX0 k f fd ps sp ∧ mg nm = some (.ref f) ∧ PySem.W.keepIn K (.ref f) = true ∧ KBinds K fd ps ks (kput ks.length is) (kput ks.length is)
theorem FoK.mono {P : Program} {w : World} {K : PySem.W.Frag} {mg : Str → Option Value} {base : Heap} {j k : Nat} {nm : Str} {ps ks : List Str} {is : List Nat} {sp : Sp} (F : FoK P w K mg base j nm ps ks is sp) (h : j ≤ k) : FoK P w K mg base k nm ps ks is sp := by
  obtain ⟨f, fd, a, b, c, d⟩ := F
  exact ⟨f, fd, a.mono h, b, c, d⟩
theorem fok_of {P : Program} {w : World} {K : PySem.W.Frag} {mg : Str → Option Value} {base : Heap} {k : Nat} {nm qual : Str} {st : Stmt} {f : Addr} {fd : FuncData} {ps ks : List Str} {is : List Nat} {sp : Sp} (G : Fo P w K mg base k nm ps sp) (F : Fun K nm qual st f fd) (hm : mg nm = some (.ref f))
    (h : ∀ (s : Shared) (us ws : List Value), (kput ks.length is us ws).length = ps.length → BindsTo s fd ⟨us, ks.zip ws⟩ (ps.zip (kput ks.length is us ws))) : FoK P w K mg base k nm ps ks is sp := by
  obtain ⟨f', fd', a, b, c, d, oc, od, osl, lk⟩ := G
  obtain ⟨oc2, od2, kV, doc, pm, an, cdv, ct, osl2, _, lk2, _⟩ := F.ex
  rw [hm] at b
  cases b
  rw [lk2] at lk
  cases lk
  refine ⟨f, fd, a, hm, c, ⟨fun s us ws _ hl => h s us ws hl, fun {vs us zs ws} r z => ?_⟩⟩
  unfold kput
  have e1 : us.isEmpty = vs.isEmpty := by cases r <;> rfl
  have e2 : ws.length = zs.length := z.length.symm
  rw [e1, e2]
  split
  · exact Vals.pick z is
  · exact .nil
/-- f(k = v, ..) of a pure def -/
theorem pu_callK {As : α → List Ass} {m : α → Option ρ} {R : ρ → Ass} {A : β → AssL} {q : Option β} {ps ks : List Str} {is : List Nat} (t : β → α) (F : FoK X.prog X.w X.K X.mg X.base k x ps ks is (FSpec As m R)) (hr : Room k X.A) (ha : Kg X Γ kws q A) (ht : ∀ b zs H F, (A b).h zs H F → ∃ F', (argsL (As (t b))).h (kput ks.length is [] zs) H F')
    (hg : Gl X x := by rfl) (hall : (backToKw pos (keywordEach kws X.env)).all (·.1.isSome) = true := by rfl) (hks : (backToKw pos (keywordEach kws X.env)).filterMap (·.1) = ks := by rfl) (hdb : (x == ("__debug__" : Str)) = false := by decide)
    (hpl : ((backTo pos (starEach [] X.env)).any (·.1) || (backToKw pos (keywordEach kws X.env)).any (·.1.isNone)) = false := by rfl) :
    Pu X Γ (.Call (.Name x pp) [] kws pos) (q.bind fun b => m (t b)) R := .mk fun σ H Fs s r er Q g => by
  obtain ⟨f, fd, hF, hm, hk, hb⟩ := F
  obtain ⟨b, e1, e2⟩ := Option.bind_eq_some_iff.mp er
  refine TEof.of (pe_callK0 hF hr hg hm hk hb pass0 (pk_of X kws) hall hks hdb hpl) ?_
  refine ha σ H Fs s b e1 _ fun vs H1 F s1 h1 c1 => ?_
  obtain ⟨F', h2⟩ := ht b vs H1 F h1
  refine ⟨t b, F', r, h2, e2, fun v H' T s2 h2 fr => g v H' T (s1.trans s2) h2 fun x f => s1.free (fr x f)⟩
end
end Rf
set_option maxHeartbeats 1000000
namespace K83
open PySem PySem.Spec L2 Rf
def topS (i : Nat) : Stmt := PySem.Challenge.pw_rolledtrue_k83_whole_words.main.body.getD i (.Pass ⟨0, 0, 0, 0⟩)
variable {P : Program} {w : World} {K : PySem.W.Frag} {mg : Str → Option Value} {base : Heap}

def m_behind_table (sheet_1 : (List (List Int))) : Option (Fl Unit Empty (List (Int × Int))) :=
  ((some ([] : (List (Int × Int)))).bind fun told_2 => (((some sheet_1).bind fun xs => foldO (fun x_4 g_5 => ((((some x_4).map (enumI 0)).bind fun xs => foldO (fun x_8 g_9 => ((((some x_4).bind fun x => (((some x_8.1).bind fun x => (some (1 : Int)).bind fun y => some (x + y)).bind fun x => ((some x_4).bind fun x => some (x.length : Int)).bind fun y => pmod x y).bind fun y => atI x y).bind fun x => (some x_8.2).bind fun k => dputL g_9 k x).bind fun told_11 => (some told_11))) xs g_5).bind fun g_10 => (some g_10))) xs told_2).bind fun g_6 => (some (.rt g_6))))
def f_behind_table (sheet_1 : (List (List Int))) : Option (List (Int × Int)) := (m_behind_table sheet_1).bind Fl.ret
abbrev Sp_behind_table : Sp := FSpec (fun a : (List (List Int)) × Unit => [(isT (isT isI)) a.1]) (fun a => f_behind_table a.1) (isD kI isI)
abbrev s_behind_table : Stmt := topS 2
theorem sc_behind_table : FnScope ["sheet", "told", "face", "at", "side"] ["sheet"] (defScope s_behind_table) := ⟨rfl, rfl, rfl, by decide +kernel, rfl, by decide +kernel, by decide +kernel⟩
def m_face_table (sheet_12 : (List (List Int))) : Option (Fl Unit Empty (List (Int × Int))) :=
  ((some ([] : (List (Int × Int)))).bind fun told_13 => ((((some sheet_12).map (enumI 0)).bind fun xs => foldO (fun x_15 g_16 => (((some x_15.2).bind fun xs => foldO (fun x_19 g_20 => (((some x_15.1).bind fun x => (some x_19).bind fun k => dputL g_20 k x).bind fun told_22 => (some told_22))) xs g_16).bind fun g_21 => (some g_21))) xs told_13).bind fun g_17 => (some (.rt g_17))))
def f_face_table (sheet_12 : (List (List Int))) : Option (List (Int × Int)) := (m_face_table sheet_12).bind Fl.ret
abbrev Sp_face_table : Sp := FSpec (fun a : (List (List Int)) × Unit => [(isT (isT isI)) a.1]) (fun a => f_face_table a.1) (isD kI isI)
abbrev s_face_table : Stmt := topS 3
theorem sc_face_table : FnScope ["sheet", "told", "number", "face", "side"] ["sheet"] (defScope s_face_table) := ⟨rfl, rfl, rfl, by decide +kernel, rfl, by decide +kernel, by decide +kernel⟩
def m_sides_of (sheet_23 : (List (List Int))) : Option (Fl Unit Empty (List Int)) :=
  ((((((some sheet_23).bind fun x => (some ()).bind fun y => some (x, y)).bind fun b => f_face_table b.1).bind fun x => some (isort (x.map (·.1)))).bind fun x => some x).bind fun a => some (.rt a))
def f_sides_of (sheet_23 : (List (List Int))) : Option (List Int) := (m_sides_of sheet_23).bind Fl.ret
abbrev Sp_sides_of : Sp := FSpec (fun a : (List (List Int)) × Unit => [(isT (isT isI)) a.1]) (fun a => f_sides_of a.1) (isT isI)
abbrev s_sides_of : Stmt := topS 5
theorem sc_sides_of : FnScope ["sheet"] ["sheet"] (defScope s_sides_of) := ⟨rfl, rfl, rfl, by decide +kernel, rfl, by decide +kernel, by decide +kernel⟩
def m_least_multiple (one_24 : Int) (other_25 : Int) : Option (Fl Unit Empty Int) :=
  ((((some one_24).bind fun x => (some other_25).bind fun y => pmul x y).bind fun x => ((some one_24).bind fun x => (some other_25).bind fun y => some (pgcd x y)).bind fun y => pdiv x y).bind fun a => some (.rt a))
def f_least_multiple (one_24 : Int) (other_25 : Int) : Option Int := (m_least_multiple one_24 other_25).bind Fl.ret
abbrev Sp_least_multiple : Sp := FSpec (fun a : Int × Int × Unit => [isI a.1, isI a.2.1]) (fun a => f_least_multiple a.1 a.2.1) isI
abbrev s_least_multiple : Stmt := topS 7
theorem sc_least_multiple : FnScope ["one", "other"] ["one", "other"] (defScope s_least_multiple) := ⟨rfl, rfl, rfl, by decide +kernel, rfl, by decide +kernel, by decide +kernel⟩
def m_least_of_sizes (sheet_26 : (List (List Int))) : Option (Fl Unit Empty Int) :=
  ((some (1 : Int)).bind fun told_27 => (((some sheet_26).bind fun xs => foldO (fun x_29 g_30 => ((((some g_30).bind fun x => (((some x_29).bind fun x => some (x.length : Int)).bind fun x => (some ()).bind fun y => some (x, y)).bind fun y => some (x, y)).bind fun b => f_least_multiple b.1 b.2.1).bind fun told_32 => (some told_32))) xs told_27).bind fun g_31 => ((some g_31).bind fun a => some (.rt a))))
def f_least_of_sizes (sheet_26 : (List (List Int))) : Option Int := (m_least_of_sizes sheet_26).bind Fl.ret
abbrev Sp_least_of_sizes : Sp := FSpec (fun a : (List (List Int)) × Unit => [(isT (isT isI)) a.1]) (fun a => f_least_of_sizes a.1) isI
abbrev s_least_of_sizes : Stmt := topS 8
theorem sc_least_of_sizes : FnScope ["sheet", "told", "face"] ["sheet"] (defScope s_least_of_sizes) := ⟨rfl, rfl, rfl, by decide +kernel, rfl, by decide +kernel, by decide +kernel⟩
def m_led_side (behind_33 : (List (Int × Int))) (side_34 : Int) (word_35 : Str) : Option (Fl Unit Empty Int) :=
  ((some side_34).bind fun here_36 => ((((some word_35).map fun x => x.cps.toList.map fun c => (⟨#[c]⟩ : Str)).bind fun xs => foldO (fun x_38 g_39 => ((((some x_38).bind fun x => (some ("t" : Str)).bind fun y => some (decide (x = y))).bind fun d => if d = true then ((some behind_33).bind fun d => (some g_39).bind fun k => dget d k) else ((some g_39).bind fun x => (some (1 : Int)).bind fun y => some (Builtin.bitXor x y))).bind fun here_41 => (some here_41))) xs here_36).bind fun g_40 => ((some g_40).bind fun a => some (.rt a))))
def f_led_side (behind_33 : (List (Int × Int))) (side_34 : Int) (word_35 : Str) : Option Int := (m_led_side behind_33 side_34 word_35).bind Fl.ret
abbrev Sp_led_side : Sp := FSpec (fun a : (List (Int × Int)) × Int × Str × Unit => [(isD kI isI) a.1, isI a.2.1, isS a.2.2.1]) (fun a => f_led_side a.1 a.2.1 a.2.2.1) isI
abbrev s_led_side : Stmt := topS 10
theorem sc_led_side : FnScope ["behind", "side", "word", "here", "letter"] ["behind", "side", "word"] (defScope s_led_side) := ⟨rfl, rfl, rfl, by decide +kernel, rfl, by decide +kernel, by decide +kernel⟩
def m_word_side (solid_42 : (List (List Int))) (side_43 : Int) (word_44 : Str) : Option (Fl Unit Empty Int) :=
  ((((((some solid_42).bind fun x => (some ()).bind fun y => some (x, y)).bind fun b => f_behind_table b.1).bind fun x => ((some side_43).bind fun x => ((some word_44).bind fun x => (some ()).bind fun y => some (x, y)).bind fun y => some (x, y)).bind fun y => some (x, y)).bind fun b => f_led_side b.1 b.2.1 b.2.2.1).bind fun a => some (.rt a))
def f_word_side (solid_42 : (List (List Int))) (side_43 : Int) (word_44 : Str) : Option Int := (m_word_side solid_42 side_43 word_44).bind Fl.ret
abbrev Sp_word_side : Sp := FSpec (fun a : (List (List Int)) × Int × Str × Unit => [(isT (isT isI)) a.1, isI a.2.1, isS a.2.2.1]) (fun a => f_word_side a.1 a.2.1 a.2.2.1) isI
abbrev s_word_side : Stmt := topS 11
theorem sc_word_side : FnScope ["solid", "side", "word"] ["solid", "side", "word"] (defScope s_word_side) := ⟨rfl, rfl, rfl, by decide +kernel, rfl, by decide +kernel, by decide +kernel⟩
def m_word_map (solid_45 : (List (List Int))) (word_46 : Str) : Option (Fl Unit Empty (List Int)) :=
  ((((some solid_45).bind fun x => (some ()).bind fun y => some (x, y)).bind fun b => f_behind_table b.1).bind fun behind_47 => ((((((some solid_45).bind fun x => (some ()).bind fun y => some (x, y)).bind fun b => f_sides_of b.1).bind fun xs => (compO (fun x_48 => (some true)) (fun x_48 => (((some behind_47).bind fun x => ((some x_48).bind fun x => ((some word_46).bind fun x => (some ()).bind fun y => some (x, y)).bind fun y => some (x, y)).bind fun y => some (x, y)).bind fun b => f_led_side b.1 b.2.1 b.2.2.1)) xs).bind fits).bind fun x => some x).bind fun a => some (.rt a)))
def f_word_map (solid_45 : (List (List Int))) (word_46 : Str) : Option (List Int) := (m_word_map solid_45 word_46).bind Fl.ret
abbrev Sp_word_map : Sp := FSpec (fun a : (List (List Int)) × Str × Unit => [(isT (isT isI)) a.1, isS a.2.1]) (fun a => f_word_map a.1 a.2.1) (isT isI)
abbrev s_word_map : Stmt := topS 12
theorem sc_word_map : FnScope ["solid", "word", "behind", "side"] ["solid", "word"] (defScope s_word_map) := ⟨rfl, rfl, rfl, by decide +kernel, rfl, by decide +kernel, by decide +kernel⟩
def m_first_words (n : Nat) (solid_49 : (List (List Int))) (side_50 : Int) : Option (Fl Unit Empty (List (Int × Str))) :=
  ((((some solid_49).bind fun x => (some ()).bind fun y => some (x, y)).bind fun b => f_behind_table b.1).bind fun behind_51 => (((some side_50).bind fun k => (some ("" : Str)).bind fun x => some [(k, x)]).bind fun told_52 => ((((some side_50).bind fun x => (some []).bind fun xs => some (x :: xs)) : Option (List Int)).bind fun rank_53 => ((whileM (fun g_55 => ((some g_55.2).bind fun xs => some (!xs.isEmpty))) (fun g_56 => ((some ([] : (List (Int × Str)))).bind fun found_58 => (((some g_56.2).bind fun xs => foldO (fun x_60 g_61 => (((((some ("r" : Str)).bind fun x => ((some x_60).bind fun x => (some (1 : Int)).bind fun y => some (Builtin.bitXor x y)).bind fun y => some (x, y)).bind fun x => (((some ("t" : Str)).bind fun x => ((some behind_51).bind fun d => (some x_60).bind fun k => dget d k).bind fun y => some (x, y)).bind fun x => (some []).bind fun xs => some (x :: xs)).bind fun xs => some (x :: xs)).bind fun xs => foldO (fun x_64 g_65 => ((((some g_56.1).bind fun d => (some x_60).bind fun k => dget d k).bind fun x => (some x_64.1).bind fun y => scat x y).bind fun word_67 => (((((some x_64.2).bind fun k => (some g_56.1).bind fun d => some (!dhas d k)).bind fun c => if c = true then (((some x_64.2).bind fun k => (some g_65).bind fun d => some (!dhas d k)).bind fun c => if c = true then some true else ((some word_67).bind fun x => ((some g_65).bind fun d => (some x_64.2).bind fun k => dget d k).bind fun y => some (slt x y))) else some false).bind fun d => if d = true then (((some word_67).bind fun x => (some x_64.2).bind fun k => dputL g_65 k x).bind fun found_69 => (some found_69)) else (some g_65)).bind fun b_68 => (some b_68)))) xs g_61).bind fun g_66 => (some g_66))) xs found_58).bind fun g_62 => (((some g_62).bind fun m => dupd g_56.1 m).bind fun told_71 => (((some g_62).bind fun x => some (isort (x.map (·.1)))).bind fun rank_72 => (some (told_71, rank_72))))))) n (told_52, rank_53)).bind fun g_57 => (some (.rt g_57.1))))))
def f_first_words (n : Nat) (solid_49 : (List (List Int))) (side_50 : Int) : Option (List (Int × Str)) := (m_first_words n solid_49 side_50).bind Fl.ret
abbrev Sp_first_words (n : Nat) : Sp := FSpec (fun a : (List (List Int)) × Int × Unit => [(isT (isT isI)) a.1, isI a.2.1]) (fun a => f_first_words n a.1 a.2.1) (isD kI isS)
abbrev s_first_words : Stmt := topS 14
theorem sc_first_words : FnScope ["solid", "side", "behind", "told", "rank", "found", "here", "letter", "goal", "word"] ["solid", "side"] (defScope s_first_words) := ⟨rfl, rfl, rfl, by decide +kernel, rfl, by decide +kernel, by decide +kernel⟩
def m_first_word (n : Nat) (solid_73 : (List (List Int))) (one_74 : Int) (other_75 : Int) : Option (Fl Unit Empty Str) :=
  (((((some solid_73).bind fun x => ((some one_74).bind fun x => (some ()).bind fun y => some (x, y)).bind fun y => some (x, y)).bind fun b => f_first_words n b.1 b.2.1).bind fun d => (some other_75).bind fun k => dget d k).bind fun a => some (.rt a))
def f_first_word (n : Nat) (solid_73 : (List (List Int))) (one_74 : Int) (other_75 : Int) : Option Str := (m_first_word n solid_73 one_74 other_75).bind Fl.ret
abbrev Sp_first_word (n : Nat) : Sp := FSpec (fun a : (List (List Int)) × Int × Int × Unit => [(isT (isT isI)) a.1, isI a.2.1, isI a.2.2.1]) (fun a => f_first_word n a.1 a.2.1 a.2.2.1) isS
abbrev s_first_word : Stmt := topS 15
theorem sc_first_word : FnScope ["solid", "one", "other"] ["solid", "one", "other"] (defScope s_first_word) := ⟨rfl, rfl, rfl, by decide +kernel, rfl, by decide +kernel, by decide +kernel⟩
def m_word_steps (n : Nat) (solid_76 : (List (List Int))) (side_77 : Int) : Option (Fl Unit Empty (List Int)) :=
  ((((some solid_76).bind fun x => ((some side_77).bind fun x => (some ()).bind fun y => some (x, y)).bind fun y => some (x, y)).bind fun b => f_first_words n b.1 b.2.1).bind fun found_78 => ((((((some solid_76).bind fun x => (some ()).bind fun y => some (x, y)).bind fun b => f_sides_of b.1).bind fun xs => (compO (fun x_79 => (some true)) (fun x_79 => (((some found_78).bind fun d => (some x_79).bind fun k => dget d k).bind fun x => slen x)) xs).bind fits).bind fun x => some x).bind fun a => some (.rt a)))
def f_word_steps (n : Nat) (solid_76 : (List (List Int))) (side_77 : Int) : Option (List Int) := (m_word_steps n solid_76 side_77).bind Fl.ret
abbrev Sp_word_steps (n : Nat) : Sp := FSpec (fun a : (List (List Int)) × Int × Unit => [(isT (isT isI)) a.1, isI a.2.1]) (fun a => f_word_steps n a.1 a.2.1) (isT isI)
abbrev s_word_steps : Stmt := topS 16
theorem sc_word_steps : FnScope ["solid", "side", "found", "other"] ["solid", "side"] (defScope s_word_steps) := ⟨rfl, rfl, rfl, by decide +kernel, rfl, by decide +kernel, by decide +kernel⟩
def m_are_like_words (solid_80 : (List (List Int))) (one_81 : Str) (other_82 : Str) : Option (Fl Unit Empty Bool) :=
  (((((some solid_80).bind fun x => ((some one_81).bind fun x => (some ()).bind fun y => some (x, y)).bind fun y => some (x, y)).bind fun b => f_word_map b.1 b.2.1).bind fun x => (((some solid_80).bind fun x => ((some other_82).bind fun x => (some ()).bind fun y => some (x, y)).bind fun y => some (x, y)).bind fun b => f_word_map b.1 b.2.1).bind fun y => some (decide (x = y))).bind fun a => some (.rt a))
def f_are_like_words (solid_80 : (List (List Int))) (one_81 : Str) (other_82 : Str) : Option Bool := (m_are_like_words solid_80 one_81 other_82).bind Fl.ret
abbrev Sp_are_like_words : Sp := FSpec (fun a : (List (List Int)) × Str × Str × Unit => [(isT (isT isI)) a.1, isS a.2.1, isS a.2.2.1]) (fun a => f_are_like_words a.1 a.2.1 a.2.2.1) isB
abbrev s_are_like_words : Stmt := topS 17
theorem sc_are_like_words : FnScope ["solid", "one", "other"] ["solid", "one", "other"] (defScope s_are_like_words) := ⟨rfl, rfl, rfl, by decide +kernel, rfl, by decide +kernel, by decide +kernel⟩
def m_plain_word (word_83 : Str) : Option (Fl Unit Empty Str) :=
  (((some []) : Option (List Str)).bind fun told_84 => ((((some word_83).map fun x => x.cps.toList.map fun c => (⟨#[c]⟩ : Str)).bind fun xs => foldO (fun x_86 g_87 => (((((some x_86).bind fun x => (some ("r" : Str)).bind fun y => some (decide (x = y))).bind fun c => if c = true then (((some g_87).bind fun xs => some (!xs.isEmpty)).bind fun c => if c = true then (((some g_87).bind fun x => ((some (1 : Int)).bind fun i => some (-i)).bind fun y => atI x y).bind fun x => (some ("r" : Str)).bind fun y => some (decide (x = y))) else some false) else some false).bind fun d => if d = true then ((((lpop g_87 ()).bind fun z => some (z.1, z.2)).map (·.2)).bind fun s_93 => (some s_93)) else ((((((some x_86).bind fun x => (some ()).bind fun y => some (x, y)).bind fun a => some (a, g_87)).bind fun b_101 => (lapp b_101.2 b_101.1).bind fun z => some (z.1, z.2)).map (·.2)).bind fun s_98 => (some s_98))).bind fun b_89 => (some b_89))) xs told_84).bind fun g_88 => (((some g_88).bind fun ys => sjoin "" ys).bind fun a => some (.rt a))))
def f_plain_word (word_83 : Str) : Option Str := (m_plain_word word_83).bind Fl.ret
abbrev Sp_plain_word : Sp := FSpec (fun a : Str × Unit => [isS a.1]) (fun a => f_plain_word a.1) isS
abbrev s_plain_word : Stmt := topS 19
theorem sc_plain_word : FnScope ["word", "told", "letter"] ["word"] (defScope s_plain_word) := ⟨rfl, rfl, rfl, by decide +kernel, rfl, by decide +kernel, by decide +kernel⟩
def m_word_back (solid_103 : (List (List Int))) (word_104 : Str) : Option (Fl Unit Empty Str) :=
  (((some ("t" : Str)).bind fun x => ((((some solid_103).bind fun x => (some ()).bind fun y => some (x, y)).bind fun b => f_least_of_sizes b.1).bind fun x => (some (1 : Int)).bind fun y => some (x - y)).bind fun y => smul x y).bind fun back_105 => ((((((some word_104).bind srev).map fun x => x.cps.toList.map fun c => (⟨#[c]⟩ : Str)).bind fun xs => (compO (fun x_106 => (some true)) (fun x_106 => (((some x_106).bind fun x => (some ("r" : Str)).bind fun y => some (decide (x = y))).bind fun d => if d = true then (some ("r" : Str)) else (some back_105))) xs).bind fits).bind fun ys => sjoin "" ys).bind fun a => some (.rt a)))
def f_word_back (solid_103 : (List (List Int))) (word_104 : Str) : Option Str := (m_word_back solid_103 word_104).bind Fl.ret
abbrev Sp_word_back : Sp := FSpec (fun a : (List (List Int)) × Str × Unit => [(isT (isT isI)) a.1, isS a.2.1]) (fun a => f_word_back a.1 a.2.1) isS
abbrev s_word_back : Stmt := topS 20
theorem sc_word_back : FnScope ["solid", "word", "back", "letter"] ["solid", "word"] (defScope s_word_back) := ⟨rfl, rfl, rfl, by decide +kernel, rfl, by decide +kernel, by decide +kernel⟩
def m__law_cup (script_107 : (List Int)) : Option (Fl Unit Empty Cup) :=
  (((some []) : Option (List Int)).bind fun great_108 => ((some (8311 : Int)).bind fun mixed_109 => ((((((some script_107).bind fun x => some (x.length : Int)).bind fun x => (some (57 : Int)).bind fun y => some (if y < x then y else x)).bind rng1).bind fun xs => foldO (fun x_111 g_112 => (((((some script_107).bind fun x => (some x_111).bind fun y => atI x y).bind fun x => some x).bind fun x => some (if x < 0 then -x else x)).bind fun cell_114 => (((((((some g_112.2).bind fun x => (some (16807 : Int)).bind fun y => pmulW x y).bind fun x => (((some cell_114).bind fun x => (some (999961 : Int)).bind fun y => pmod x y).bind fun x => (some (43 : Int)).bind fun y => pmulW x y).bind fun y => some (x + y)).bind fun x => ((some (43 : Int)).bind fun x => (some x_111).bind fun y => pmulW x y).bind fun y => some (x + y)).bind fun x => some x).bind fun x => (some (2147483587 : Int)).bind fun y => pmod x y).bind fun mixed_115 => ((((some cell_114).bind fun x => ((some (10 : Int)).bind fun x => (some (18 : Int)).bind fun y => ppow x y).bind fun y => some (decide (y ≤ x))).bind fun d => if d = true then (((((((some cell_114).bind fun x => (((((some (10 : Int)).bind fun x => (some (60 : Int)).bind fun y => ppow x y).bind fun x => ((some (10 : Int)).bind fun x => (some (60 : Int)).bind fun y => ppow x y).bind fun y => pmulW x y).bind fun x => ((some (10 : Int)).bind fun x => (some (60 : Int)).bind fun y => ppow x y).bind fun y => pmulW x y).bind fun x => ((some (10 : Int)).bind fun x => (some (60 : Int)).bind fun y => ppow x y).bind fun y => pmulW x y).bind fun y => pmod x y).bind fun x => (some ()).bind fun y => some (x, y)).bind fun a => some (a, g_112.1)).bind fun b_123 => (lapp b_123.2 b_123.1).bind fun z => some (z.1, z.2)).map (·.2)).bind fun s_120 => (some s_120)) else (some g_112.1)).bind fun b_116 => (some (b_116, mixed_115)))))) xs (great_108, mixed_109)).bind fun g_113 => (((some g_113.2).bind fun x => (some (1 : Int)).bind fun y => some (x + y)).bind fun z => some (.rt (g_113.1, z))))))
def f__law_cup (script_107 : (List Int)) : Option Cup := (m__law_cup script_107).bind Fl.ret
abbrev Sp__law_cup (K : PySem.W.Frag) : Sp := FSpec (fun a : (List Int) × Unit => [(isScr K) a.1]) (fun a => f__law_cup a.1) isCup
abbrev s__law_cup : Stmt := topS 22
theorem sc__law_cup : FnScope ["script", "great", "mixed", "at", "cell"] ["script"] (defScope s__law_cup) := ⟨rfl, rfl, rfl, by decide +kernel, rfl, by decide +kernel, by decide +kernel⟩
def m__law_sip (n : Nat) (cup_125 : Cup) (many_126 : Int) : Option (Fl Unit Empty (Int × Cup)) :=
  ((whileM (fun g_128 => (((((some g_128).bind fun x => (some (0 : Int)).bind fun y => (if y = 0 then some x.1 else none)).bind fun x => some (x.length : Int)).bind fun x => (some (0 : Int)).bind fun y => some (decide (y < x))).bind fun c => if c = true then ((((some g_128).bind fun x => (some (0 : Int)).bind fun y => (if y = 0 then some x.1 else none)).bind fun x => (some (0 : Int)).bind fun y => atI x y).bind fun x => (some (0 : Int)).bind fun y => some (decide (x = y))) else some false)) (fun g_129 => ((cpop g_129).bind fun cup_131 => (some cup_131))) n cup_125).bind fun g_130 => (((((((some g_130).bind fun x => (some (0 : Int)).bind fun y => (if y = 0 then some x.1 else none)).bind fun x => some (x.length : Int)).bind fun x => (some (0 : Int)).bind fun y => some (decide (y < x))).bind fun d => if d = true then (((((some g_130).bind fun x => (some (0 : Int)).bind fun y => (if y = 0 then some x.1 else none)).bind fun x => (some (0 : Int)).bind fun y => atI x y).bind fun x => some x).bind fun cell_133 => ((((some cell_133).bind fun x => (some many_126).bind fun y => pdiv x y).bind fun z => cset g_130 z).bind fun cup_134 => (((some cell_133).bind fun x => (some many_126).bind fun y => pmod x y).bind fun a => some (.rt (a, cup_134))))) else (some (.nx g_130))) : Option (Fl (Cup) (Empty) (Int × Cup))).bind fun f => f.bind fun b_132 => ((((((((some b_132).bind fun x => (some (1 : Int)).bind fun y => (if y = 1 then some x.2 else none)).bind fun x => (some (69621 : Int)).bind fun y => pmul x y).bind fun x => (some (139 : Int)).bind fun y => some (x + y)).bind fun x => some x).bind fun x => (some (2147483587 : Int)).bind fun y => pmod x y).bind fun z => some (b_132.1, z)).bind fun cup_136 => ((((((some cup_136).bind fun x => (some (1 : Int)).bind fun y => (if y = 1 then some x.2 else none)).bind fun x => (some (227 : Int)).bind fun y => pdiv x y).bind fun x => some x).bind fun x => (some many_126).bind fun y => pmod x y).bind fun a => some (.rt (a, cup_136))))))
def f__law_sip (n : Nat) (cup_125 : Cup) (many_126 : Int) : Option (Int × Cup) := (m__law_sip n cup_125 many_126).bind Fl.ret
abbrev Sp__law_sip (n : Nat) : Sp := MSpec isCup (fun a : Int × Unit => [isI a.1]) (fun c a => f__law_sip n c a.1) isI
abbrev s__law_sip : Stmt := topS 23
theorem sc__law_sip : FnScope ["cup", "many", "cell"] ["cup", "many"] (defScope s__law_sip) := ⟨rfl, rfl, rfl, by decide +kernel, rfl, by decide +kernel, by decide +kernel⟩
def m__law_mixed {α : Type} (n : Nat) (cup_137 : Cup) (things_138 : (List α)) : Option (Fl Unit Empty ((List α) × Cup)) :=
  (((some things_138).bind fun x => some x).bind fun left_139 => (((some []) : Option (List α)).bind fun out_140 => ((whileM (fun g_142 => (((some g_142.2.1).bind fun x => some (x.length : Int)).bind fun x => (some (0 : Int)).bind fun y => some (decide (y < x)))) (fun g_143 => ((((((((((some (g_143.1, g_143.2.1, g_143.2.2).2.1).bind fun x => some (x.length : Int)).bind fun x => (some ()).bind fun y => some (x, y)).bind fun b_163 => (f__law_sip n (g_143.1, g_143.2.1, g_143.2.2).1 b_163.1).bind fun r => some (r.1, (r.2, (g_143.1, g_143.2.1, g_143.2.2).2.1, (g_143.1, g_143.2.1, g_143.2.2).2.2))).bind fun a_162 => (some ((), a_162.2)).bind fun b => some ((a_162.1, b.1), b.2)).bind fun b_161 => (lpopAt b_161.2.2.1 b_161.1).bind fun z => some (z.1, (b_161.2.1, z.2, b_161.2.2.2))).bind fun a_160 => (some ((), a_160.2)).bind fun b => some ((a_160.1, b.1), b.2)).bind fun b_159 => (lapp b_159.2.2.2 b_159.1).bind fun z => some (z.1, (b_159.2.1, b_159.2.2.1, z.2))).map (·.2)).bind fun s_152 => (some (s_152.1, s_152.2.1, s_152.2.2)))) n (cup_137, left_139, out_140)).bind fun g_144 => (some (.rt (g_144.2.2, g_144.1))))))
def f__law_mixed {α : Type} (n : Nat) (cup_137 : Cup) (things_138 : (List α)) : Option ((List α) × Cup) := (m__law_mixed n cup_137 things_138).bind Fl.ret
abbrev Sp__law_mixed {α : Type} (A : α → Ass) (n : Nat) : Sp := MSpec isCup (fun a : (List α) × Unit => [(isL A) a.1]) (fun c a => f__law_mixed n c a.1) (isL A)
abbrev s__law_mixed : Stmt := topS 24
theorem sc__law_mixed : FnScope ["cup", "things", "left", "out"] ["cup", "things"] (defScope s__law_mixed) := ⟨rfl, rfl, rfl, by decide +kernel, rfl, by decide +kernel, by decide +kernel⟩
def m__law_ordered (faces_164 : (List (List Int))) : Option (Fl Unit Empty (List (List Int))) :=
  (((some []) : Option (List (List Int))).bind fun told_165 => (((some faces_164).bind fun xs => foldO (fun x_167 g_168 => (((some x_167).bind fun x => ((some x_167).bind fun x => lmin x).bind fun y => lindex x y).bind fun at_170 => (((((((((some x_167).bind fun x => ((some at_170).map some).bind fun a => (some none).bind fun b => some (cutL x a b)).bind fun x => ((some x_167).bind fun x => (some none).bind fun a => ((some at_170).map some).bind fun b => some (cutL x a b)).bind fun y => lcat x y).bind fun x => some x).bind fun x => (some ()).bind fun y => some (x, y)).bind fun a => some (a, g_168)).bind fun b_177 => (lapp b_177.2 b_177.1).bind fun z => some (z.1, z.2)).map (·.2)).bind fun s_174 => (some s_174)))) xs told_165).bind fun g_169 => ((((some g_169).bind fun x => tsort (A := isI) x).bind fun x => some x).bind fun a => some (.rt a))))
def f__law_ordered (faces_164 : (List (List Int))) : Option (List (List Int)) := (m__law_ordered faces_164).bind Fl.ret
abbrev Sp__law_ordered : Sp := FSpec (fun a : (List (List Int)) × Unit => [(isL (isL isI)) a.1]) (fun a => f__law_ordered a.1) (isT (isT isI))
abbrev s__law_ordered : Stmt := topS 25
theorem sc__law_ordered : FnScope ["faces", "told", "face", "at"] ["faces"] (defScope s__law_ordered) := ⟨rfl, rfl, rfl, by decide +kernel, rfl, by decide +kernel, by decide +kernel⟩
def m__law_glue (n : Nat) (cup_178 : Cup) (sizes_179 : (List Int)) (rims_180 : Int) : Option (Fl Unit Empty ((List (List Int)) × Cup)) :=
  (((some sizes_179).bind fun x => some x).bind fun sizes_181 => ((((((((some sizes_181).bind fun x => some x.sum).bind fun x => (some rims_180).bind fun y => some (x - y)).bind fun x => some x).bind fun x => (some (2 : Int)).bind fun y => pmod x y).bind fun x => (some (1 : Int)).bind fun y => some (decide (x = y))).bind fun d => if d = true then ((((some (1 : Int)).bind fun i => some (-i)).bind fun k => (some (1 : Int)).bind fun z => laug sizes_181 k z).bind fun sizes_183 => (some sizes_183)) else (some sizes_181)).bind fun b_182 => (((some []) : Option (List (Int × Int))).bind fun free_185 => (((some []) : Option (List ((Int × Int) × (Int × Int)))).bind fun pairs_186 => (((((some b_182).bind fun x => some (x.length : Int)).bind rng1).bind fun xs => foldO (fun x_188 g_189 => (((((((some b_182).bind fun x => (some x_188).bind fun y => atI x y).bind rng1).bind fun xs => (compO (fun x_199 => (some true)) (fun x_199 => ((some x_188).bind fun x => (some x_199).bind fun y => some (x, y))) xs).bind fits).bind fun x => (some ()).bind fun y => some (x, y)).bind fun b_200 => (f__law_mixed n g_189.1 b_200.1).bind fun r => some (r.1, r.2)).bind fun b_196 => ((((some x_188).bind fun x => (some (0 : Int)).bind fun y => some (decide (y < x))).bind fun d => if d = true then (((((((((((some (b_196.2, g_189.2.1, g_189.2.2, b_196.1).2.1).bind fun x => some (x.length : Int)).bind fun x => (some ()).bind fun y => some (x, y)).bind fun b_226 => (f__law_sip n (b_196.2, g_189.2.1, g_189.2.2, b_196.1).1 b_226.1).bind fun r => some (r.1, (r.2, (b_196.2, g_189.2.1, g_189.2.2, b_196.1).2.1, (b_196.2, g_189.2.1, g_189.2.2, b_196.1).2.2.1, (b_196.2, g_189.2.1, g_189.2.2, b_196.1).2.2.2))).bind fun a_225 => (some ((), a_225.2)).bind fun b => some ((a_225.1, b.1), b.2)).bind fun b_224 => (lpopAt b_224.2.2.1 b_224.1).bind fun z => some (z.1, (b_224.2.1, z.2, b_224.2.2.2.1, b_224.2.2.2.2))).bind fun x_222 => ((lpop x_222.2.2.2.2 ()).bind fun z => some (z.1, (x_222.2.1, x_222.2.2.1, x_222.2.2.2.1, z.2))).bind fun y_223 => some ((x_222.1, y_223.1), y_223.2)).bind fun a_221 => (some ((), a_221.2)).bind fun b => some ((a_221.1, b.1), b.2)).bind fun b_220 => (lapp b_220.2.2.2.1 b_220.1).bind fun z => some (z.1, (b_220.2.1, b_220.2.2.1, z.2, b_220.2.2.2.2))).map (·.2)).bind fun s_211 => (some (s_211.1, s_211.2.1, s_211.2.2.1, s_211.2.2.2))) else (some (b_196.2, g_189.2.1, g_189.2.2, b_196.1))).bind fun b_201 => (((some b_201.2.1).bind fun x => (some b_201.2.2.2).bind fun y => lcat x y).bind fun free_228 => (some (b_201.1, free_228, b_201.2.2.1)))))) xs (cup_178, free_185, pairs_186)).bind fun g_190 => ((((some g_190.2.1).bind fun x => (some ()).bind fun y => some (x, y)).bind fun b_235 => (f__law_mixed n g_190.1 b_235.1).bind fun r => some (r.1, r.2)).bind fun b_233 => (((some rims_180).bind fun x => (((some b_233.1).bind fun x => some (x.length : Int)).bind fun x => (((((some b_233.1).bind fun x => some (x.length : Int)).bind fun x => (some rims_180).bind fun y => some (x - y)).bind fun x => some x).bind fun x => (some (2 : Int)).bind fun y => pmod x y).bind fun y => some (x - y)).bind fun y => some (if y < x then y else x)).bind fun rims_236 => ((((some rims_236).bind rng1).bind fun xs => foldO (fun x_238 g_239 => ((none : Option Unit).bind fun _ => (some g_239))) xs b_233.1).bind fun g_240 => ((whileM (fun g_242 => (((some g_242.1).bind fun x => some (x.length : Int)).bind fun x => (some (0 : Int)).bind fun y => some (decide (y < x)))) (fun g_243 => (((((((lpop (g_243.1, g_243.2).1 ()).bind fun z => some (z.1, (z.2, (g_243.1, g_243.2).2))).bind fun x_260 => ((lpop x_260.2.1 ()).bind fun z => some (z.1, (z.2, x_260.2.2))).bind fun y_261 => some ((x_260.1, y_261.1), y_261.2)).bind fun a_259 => (some ((), a_259.2)).bind fun b => some ((a_259.1, b.1), b.2)).bind fun b_258 => (lapp b_258.2.2 b_258.1).bind fun z => some (z.1, (b_258.2.1, z.2))).map (·.2)).bind fun s_252 => (some (s_252.1, s_252.2)))) n (g_240, g_190.2.2)).bind fun g_244 => ((((some rims_236).bind fun x => (some (0 : Int)).bind fun y => some (decide (x = y))).bind fun d => if d = true then (some (1 : Int)) else (none : Option Int)).bind fun step_262 => ((some ([] : (List ((Int × Int) × Int)))).bind fun number_263 => ((((some g_244.2).bind fun x => (some ()).bind fun y => some (x, y)).bind fun b_270 => (f__law_mixed n b_233.2 b_270.1).bind fun r => some (r.1, r.2)).bind fun b_268 => (((((some b_268.1).bind fun x => some (x.length : Int)).bind rng1).bind fun xs => foldO (fun x_272 g_273 => ((((some (2 : Int)).bind fun x => (some ()).bind fun y => some (x, y)).bind fun b_281 => (f__law_sip n g_273.1 b_281.1).bind fun r => some (r.1, r.2)).bind fun b_279 => ((((((some (2 : Int)).bind fun x => (some step_262).bind fun y => pmul x y).bind fun x => (some x_272).bind fun y => pmul x y).bind fun x => (some b_279.1).bind fun y => some (x + y)).bind fun x => (((some b_268.1).bind fun x => (some x_272).bind fun y => atI x y).bind fun x => (some (0 : Int)).bind fun y => (if y = 0 then some x.1 else none)).bind fun k => dputL g_273.2 k x).bind fun number_282 => (((((((some (2 : Int)).bind fun x => (some step_262).bind fun y => pmul x y).bind fun x => (some x_272).bind fun y => pmul x y).bind fun x => (some (1 : Int)).bind fun y => some (x + y)).bind fun x => (some b_279.1).bind fun y => some (x - y)).bind fun x => (((some b_268.1).bind fun x => (some x_272).bind fun y => atI x y).bind fun x => (some (1 : Int)).bind fun y => (if y = 1 then some x.2 else none)).bind fun k => dputL number_282 k x).bind fun number_283 => (some (b_279.2, number_283)))))) xs (b_268.2, number_263)).bind fun g_274 => (((((((some b_182).bind fun x => some (x.length : Int)).bind rng1).bind fun xs => (compO (fun x_284 => (some true)) (fun x_284 => ((((some b_182).bind fun x => (some x_284).bind fun y => atI x y).bind rng1).bind fun xs => (compO (fun x_285 => (some true)) (fun x_285 => ((some g_274.2).bind fun d => ((some x_284).bind fun x => (some x_285).bind fun y => some (x, y)).bind fun k => dget d k)) xs).bind fits)) xs).bind fits).bind fun x => (some ()).bind fun y => some (x, y)).bind fun b => f__law_ordered b.1).bind fun a => some (.rt (a, g_274.1))))))))))))))))
def f__law_glue (n : Nat) (cup_178 : Cup) (sizes_179 : (List Int)) (rims_180 : Int) : Option ((List (List Int)) × Cup) := (m__law_glue n cup_178 sizes_179 rims_180).bind Fl.ret
abbrev Sp__law_glue (n : Nat) : Sp := MSpec isCup (fun a : (List Int) × Int × Unit => [(isL isI) a.1, isI a.2.1]) (fun c a => f__law_glue n c a.1 a.2.1) (isT (isT isI))
abbrev s__law_glue : Stmt := topS 26
theorem sc__law_glue : FnScope ["cup", "sizes", "rims", "free", "pairs", "face", "own", "at", "step", "number", "turn"] ["cup", "sizes", "rims"] (defScope s__law_glue) := ⟨rfl, rfl, rfl, by decide +kernel, rfl, by decide +kernel, by decide +kernel⟩
def m__law_same (n : Nat) (told_286 : Dat) (due_287 : Dat) : Option (Fl Unit Empty Bool) :=
  (((((some told_286).bind fun x => (some due_287).bind fun y => some (x, y)).bind fun x => (some []).bind fun xs => some (x :: xs)) : Option (List (Dat × Dat))).bind fun rest_288 => (((whileX (fun g_290 => (((some g_290).bind fun x => some (x.length : Int)).bind fun x => (some (0 : Int)).bind fun y => some (decide (y < x)))) (fun g_291 => (((lpop g_291 ()).bind fun z => some (z.1, z.2)).bind fun b_296 => (((((some b_296.1.2).map (isK "tuple")).bind fun d => if d = true then (((((((some b_296.1.1).map (isK "tuple")).map not).bind fun c => if c = true then some true else (((some b_296.1.1).bind fun x => xlen x).bind fun x => ((some b_296.1.2).bind fun x => xlen x).bind fun y => some (decide (x ≠ y)))).bind fun d => if d = true then ((some false).bind fun a => some (.rt a)) else (some (.nx ()))) : Option (Fl (Unit) ((List (Dat × Dat))) Bool)).bind fun f => f.bind fun b_298 => (((some b_296.2).bind fun x => ((((some b_296.1.2).bind fun x => xlen x).bind rng1).bind fun xs => (compO (fun x_301 => (some true)) (fun x_301 => (((some b_296.1.1).bind fun x => (some x_301).bind fun y => xat x y).bind fun x => ((some b_296.1.2).bind fun x => (some x_301).bind fun y => xat x y).bind fun y => some (x, y))) xs).bind fits).bind fun y => lcat x y).bind fun rest_300 => (some (.nx rest_300)))) else (((((some b_296.1.2).map (isK "list")).bind fun d => if d = true then (((((((some b_296.1.1).map (isK "list")).map not).bind fun c => if c = true then some true else (((some b_296.1.1).bind fun x => xlen x).bind fun x => ((some b_296.1.2).bind fun x => xlen x).bind fun y => some (decide (x ≠ y)))).bind fun d => if d = true then ((some false).bind fun a => some (.rt a)) else (some (.nx ()))) : Option (Fl (Unit) ((List (Dat × Dat))) Bool)).bind fun f => f.bind fun b_303 => (((some b_296.2).bind fun x => ((((some b_296.1.2).bind fun x => xlen x).bind rng1).bind fun xs => (compO (fun x_306 => (some true)) (fun x_306 => (((some b_296.1.1).bind fun x => (some x_306).bind fun y => xat x y).bind fun x => ((some b_296.1.2).bind fun x => (some x_306).bind fun y => xat x y).bind fun y => some (x, y))) xs).bind fits).bind fun y => lcat x y).bind fun rest_305 => (some (.nx rest_305)))) else (((((some b_296.1.2).bind fun x => (some ()).bind fun y => some (xnone x)).bind fun d => if d = true then (((((some b_296.1.1).bind fun x => (some ()).bind fun y => some (!xnone x)).bind fun d => if d = true then ((some false).bind fun a => some (.rt a)) else (some (.nx ()))) : Option (Fl (Unit) ((List (Dat × Dat))) Bool)).bind fun f => f.bind fun b_308 => (some (.nx ()))) else (((((some b_296.1.2).map (isK "bool")).bind fun d => if d = true then (((((((some b_296.1.1).map (isK "bool")).map not).bind fun c => if c = true then some true else ((some b_296.1.1).bind fun x => (some b_296.1.2).bind fun y => xne x y)).bind fun d => if d = true then ((some false).bind fun a => some (.rt a)) else (some (.nx ()))) : Option (Fl (Unit) ((List (Dat × Dat))) Bool)).bind fun f => f.bind fun b_311 => (some (.nx ()))) else (((((some b_296.1.2).map (isK "int")).bind fun d => if d = true then (((((((some b_296.1.1).map (isK "int")).map not).bind fun c => if c = true then some true else (((some b_296.1.1).map (isK "bool")).bind fun c => if c = true then some true else ((some b_296.1.1).bind fun x => (some b_296.1.2).bind fun y => xne x y))).bind fun d => if d = true then ((some false).bind fun a => some (.rt a)) else (some (.nx ()))) : Option (Fl (Unit) ((List (Dat × Dat))) Bool)).bind fun f => f.bind fun b_314 => (some (.nx ()))) else (((((((some b_296.1.2).map (isK "str")).map not).bind fun c => if c = true then some true else ((((some b_296.1.1).map (isK "str")).map not).bind fun c => if c = true then some true else ((some b_296.1.1).bind fun x => (some b_296.1.2).bind fun y => xne x y))).bind fun d => if d = true then ((some false).bind fun a => some (.rt a)) else (some (.nx ()))) : Option (Fl (Unit) ((List (Dat × Dat))) Bool)).bind fun f => f.bind fun b_316 => (some (.nx ())))) : Option (Fl (Unit) ((List (Dat × Dat))) Bool)).bind fun f => f.bind fun b_313 => (some (.nx ())))) : Option (Fl (Unit) ((List (Dat × Dat))) Bool)).bind fun f => f.bind fun b_310 => (some (.nx ())))) : Option (Fl (Unit) ((List (Dat × Dat))) Bool)).bind fun f => f.bind fun b_307 => (some (.nx b_296.2)))) : Option (Fl ((List (Dat × Dat))) ((List (Dat × Dat))) Bool)).bind fun f => f.bind fun b_302 => (some (.nx b_302)))) : Option (Fl ((List (Dat × Dat))) ((List (Dat × Dat))) Bool)).bind fun f => f.bind fun b_297 => (some (.nx b_297))))) n rest_288) : Option (Fl ((List (Dat × Dat))) (Empty) Bool)).bind fun f => f.bind fun g_292 => ((some true).bind fun a => some (.rt a))))
def f__law_same (n : Nat) (told_286 : Dat) (due_287 : Dat) : Option Bool := (m__law_same n told_286 due_287).bind Fl.ret
abbrev Sp__law_same (n : Nat) : Sp := FSpec (fun a : Dat × Dat × Unit => [isX a.1, isX a.2.1]) (fun a => f__law_same n a.1 a.2.1) isB
abbrev s__law_same : Stmt := topS 27
theorem sc__law_same : FnScope ["told", "due", "rest", "left", "right", "at"] ["told", "due"] (defScope s__law_same) := ⟨rfl, rfl, rfl, by decide +kernel, rfl, by decide +kernel, by decide +kernel⟩
def m__law_torus (columns_323 : Int) (rows_324 : Int) (shift_325 : Int) : Option (Fl Unit Empty (List (List Int))) :=
  (((some []) : Option (List (List Int))).bind fun cells_326 => (((((some columns_323).bind fun x => (some rows_324).bind fun y => pmul x y).bind rng1).bind fun xs => foldO (fun x_328 g_329 => ((((some x_328).bind fun x => some x).bind fun x => (some columns_323).bind fun y => pmod x y).bind fun x_331 => (((some x_328).bind fun x => (some columns_323).bind fun y => pdiv x y).bind fun y_332 => ((((some y_332).bind fun x => (some columns_323).bind fun y => pmul x y).bind fun x => ((((some x_331).bind fun x => (some (1 : Int)).bind fun y => some (x - y)).bind fun x => some x).bind fun x => (some columns_323).bind fun y => pmod x y).bind fun y => some (x + y)).bind fun west_333 => ((((some y_332).bind fun x => (some (0 : Int)).bind fun y => some (decide (y < x))).bind fun d => if d = true then ((((some y_332).bind fun x => (some (1 : Int)).bind fun y => some (x - y)).bind fun x => (some columns_323).bind fun y => pmul x y).bind fun x => (some x_331).bind fun y => some (x + y)) else ((((some rows_324).bind fun x => (some (1 : Int)).bind fun y => some (x - y)).bind fun x => (some columns_323).bind fun y => pmul x y).bind fun x => ((((some x_331).bind fun x => (some shift_325).bind fun y => some (x - y)).bind fun x => some x).bind fun x => (some columns_323).bind fun y => pmod x y).bind fun y => some (x + y))).bind fun south_334 => (((((((((some (4 : Int)).bind fun x => (some x_328).bind fun y => pmul x y).bind fun x => ((((some (4 : Int)).bind fun x => (some x_328).bind fun y => pmul x y).bind fun x => (some (2 : Int)).bind fun y => some (x + y)).bind fun x => ((((some (4 : Int)).bind fun x => (some west_333).bind fun y => pmul x y).bind fun x => (some (1 : Int)).bind fun y => some (x + y)).bind fun x => ((((some (4 : Int)).bind fun x => (some south_334).bind fun y => pmul x y).bind fun x => (some (3 : Int)).bind fun y => some (x + y)).bind fun x => (some []).bind fun xs => some (x :: xs)).bind fun xs => some (x :: xs)).bind fun xs => some (x :: xs)).bind fun xs => some (x :: xs)) : Option (List Int)).bind fun x => (some ()).bind fun y => some (x, y)).bind fun a => some (a, g_329)).bind fun b_341 => (lapp b_341.2 b_341.1).bind fun z => some (z.1, z.2)).map (·.2)).bind fun s_338 => (some s_338))))))) xs cells_326).bind fun g_330 => ((((some g_330).bind fun x => (some ()).bind fun y => some (x, y)).bind fun b => f__law_ordered b.1).bind fun a => some (.rt a))))
def f__law_torus (columns_323 : Int) (rows_324 : Int) (shift_325 : Int) : Option (List (List Int)) := (m__law_torus columns_323 rows_324 shift_325).bind Fl.ret
abbrev Sp__law_torus : Sp := FSpec (fun a : Int × Int × Int × Unit => [isI a.1, isI a.2.1, isI a.2.2.1]) (fun a => f__law_torus a.1 a.2.1 a.2.2.1) (isT (isT isI))
abbrev s__law_torus : Stmt := topS 28
theorem sc__law_torus : FnScope ["columns", "rows", "shift", "cells", "cell", "x", "y", "west", "south"] ["columns", "rows", "shift"] (defScope s__law_torus) := ⟨rfl, rfl, rfl, by decide +kernel, rfl, by decide +kernel, by decide +kernel⟩
def m__law_solid (n : Nat) (cup_342 : Cup) (many_343 : Int) : Option (Fl Unit Empty ((List (List Int)) × Cup)) :=
  ((((some (7 : Int)).bind fun x => (some ()).bind fun y => some (x, y)).bind fun b_350 => (f__law_sip n cup_342 b_350.1).bind fun r => some (r.1, r.2)).bind fun b_348 => (((((some b_348.1).bind fun x => (some (0 : Int)).bind fun y => some (decide (x = y))).bind fun d => if d = true then ((some ([[0, 2, 4], [1, 6, 8], [3, 9, 10], [5, 11, 7]] : List (List Int))).bind fun a => some (.rt (a, b_348.2))) else (some (.nx ()))) : Option (Fl (Unit) (Empty) ((List (List Int)) × Cup))).bind fun f => f.bind fun b_351 => (((((some b_348.1).bind fun x => (some (1 : Int)).bind fun y => some (decide (x = y))).bind fun d => if d = true then ((some ([[0, 2, 4, 6], [1, 8, 10, 12], [3, 13, 14, 16], [5, 17, 18, 20], [7, 21, 22, 9], [11, 23, 19, 15]] : List (List Int))).bind fun a => some (.rt (a, b_348.2))) else (some (.nx ()))) : Option (Fl (Unit) (Empty) ((List (List Int)) × Cup))).bind fun f => f.bind fun b_353 => (((((some b_348.1).bind fun x => (some (2 : Int)).bind fun y => some (decide (x = y))).bind fun d => if d = true then ((((some (1 : Int)).bind fun a => some (a, b_348.2)).bind fun x_364 => (((some (3 : Int)).bind fun x => (some ()).bind fun y => some (x, y)).bind fun b_366 => (f__law_sip n x_364.2 b_366.1).bind fun r => some (r.1, r.2)).bind fun y_365 => (some (x_364.1 + y_365.1)).bind fun z => some (z, y_365.2)).bind fun b_360 => (((((some b_360.1).bind fun a => some (a, b_360.2)).bind fun a_385 => ((((some (1 : Int)).bind fun a => some (a, a_385.2)).bind fun x_389 => (((some (3 : Int)).bind fun x => (some ()).bind fun y => some (x, y)).bind fun b_391 => (f__law_sip n x_389.2 b_391.1).bind fun r => some (r.1, r.2)).bind fun y_390 => (some (x_389.1 + y_390.1)).bind fun z => some (z, y_390.2)).bind fun a_387 => ((((some b_360.1).bind fun x => (some ()).bind fun y => some (x, y)).bind fun b_394 => (f__law_sip n a_387.2 b_394.1).bind fun r => some (r.1, r.2)).bind fun a_392 => (some ((), a_392.2)).bind fun b_393 => some ((a_392.1, b_393.1), b_393.2)).bind fun b_388 => some ((a_387.1, b_388.1), b_388.2)).bind fun b_386 => some ((a_385.1, b_386.1), b_386.2)).bind fun b_384 => (f__law_torus b_384.1.1 b_384.1.2.1 b_384.1.2.2.1).bind fun r => some (r, b_384.2)).bind fun z => some (.rt (z.1, z.2)))) else (some (.nx b_348.2))) : Option (Fl (Cup) (Empty) ((List (List Int)) × Cup))).bind fun f => f.bind fun b_355 => (((((some b_348.1).bind fun x => (some (3 : Int)).bind fun y => some (decide (x = y))).bind fun d => if d = true then ((((some (1 : Int)).bind fun a => some (a, b_355)).bind fun x_405 => (((some (6 : Int)).bind fun x => (some ()).bind fun y => some (x, y)).bind fun b_407 => (f__law_sip n x_405.2 b_407.1).bind fun r => some (r.1, r.2)).bind fun y_406 => (some (x_405.1 + y_406.1)).bind fun z => some (z, y_406.2)).bind fun b_401 => ((((((((some b_401.1).bind rng1).bind fun xs => (compO (fun x_408 => (some true)) (fun x_408 => ((some (2 : Int)).bind fun x => (some x_408).bind fun y => pmul x y)) xs).bind fits).bind fun x => (((((some b_401.1).bind rng1).bind fun xs => (compO (fun x_409 => (some true)) (fun x_409 => (((some (2 : Int)).bind fun x => (some x_409).bind fun y => pmul x y).bind fun x => (some (1 : Int)).bind fun y => some (x + y))) xs).bind fits).map List.reverse).bind fun x => (some []).bind fun xs => some (x :: xs)).bind fun xs => some (x :: xs)) : Option (List (List Int))).bind fun x => (some ()).bind fun y => some (x, y)).bind fun b => f__law_ordered b.1).bind fun a => some (.rt (a, b_401.2)))) else (some (.nx b_355))) : Option (Fl (Cup) (Empty) ((List (List Int)) × Cup))).bind fun f => f.bind fun b_396 => (((((some b_348.1).bind fun x => (some (4 : Int)).bind fun y => some (decide (x = y))).bind fun d => if d = true then (((((((some (2 : Int)).bind fun a => some (a, b_396)).bind fun x_433 => (((some (9 : Int)).bind fun x => (some ()).bind fun y => some (x, y)).bind fun b_435 => (f__law_sip n x_433.2 b_435.1).bind fun r => some (r.1, r.2)).bind fun y_434 => (some (x_433.1 + y_434.1)).bind fun z => some (z, y_434.2)).bind fun x_431 => (some ([], x_431.2)).bind fun y_432 => some (x_431.1 :: y_432.1, y_432.2)).bind fun a_429 => (((some (0 : Int)).bind fun a => some (a, a_429.2)).bind fun a_436 => (some ((), a_436.2)).bind fun b_437 => some ((a_436.1, b_437.1), b_437.2)).bind fun b_430 => some ((a_429.1, b_430.1), b_430.2)).bind fun b_428 => (f__law_glue n b_428.2 b_428.1.1 b_428.1.2.1).bind fun r => some (r.1, r.2)).bind fun z => some (.rt (z.1, z.2))) else (some (.nx b_396))) : Option (Fl (Cup) (Empty) ((List (List Int)) × Cup))).bind fun f => f.bind fun b_411 => ((((((((some (1 : Int)).bind fun a => some (a, b_411)).bind fun x_470 => (((some many_343).bind fun x => (some ()).bind fun y => some (x, y)).bind fun b_472 => (f__law_sip n x_470.2 b_472.1).bind fun r => some (r.1, r.2)).bind fun y_471 => (some (x_470.1 + y_471.1)).bind fun z => some (z, y_471.2)).bind fun x_469 => (rng1 x_469.1).bind fun xs => some (xs, x_469.2)).bind fun w_466 => (compS (fun x_443 s_468 => (((some ([2, 3, 4, 5, 6] : List Int)).bind fun a => some (a, s_468)).bind fun x_473 => (((some (5 : Int)).bind fun x => (some ()).bind fun y => some (x, y)).bind fun b_475 => (f__law_sip n x_473.2 b_475.1).bind fun r => some (r.1, r.2)).bind fun y_474 => (atI x_473.1 y_474.1).bind fun z => some (z, y_474.2))) w_466.1 w_466.2).bind fun z_467 => (fits z_467.1).bind fun ys => some (ys, z_467.2)).bind fun a_464 => (((some (0 : Int)).bind fun a => some (a, a_464.2)).bind fun a_476 => (some ((), a_476.2)).bind fun b_477 => some ((a_476.1, b_477.1), b_477.2)).bind fun b_465 => some ((a_464.1, b_465.1), b_465.2)).bind fun b_463 => (f__law_glue n b_463.2 b_463.1.1 b_463.1.2.1).bind fun r => some (r.1, r.2)).bind fun z => some (.rt (z.1, z.2)))))))))
def f__law_solid (n : Nat) (cup_342 : Cup) (many_343 : Int) : Option ((List (List Int)) × Cup) := (m__law_solid n cup_342 many_343).bind Fl.ret
abbrev Sp__law_solid (n : Nat) : Sp := MSpec isCup (fun a : Int × Unit => [isI a.1]) (fun c a => f__law_solid n c a.1) (isT (isT isI))
abbrev s__law_solid : Stmt := topS 29
theorem sc__law_solid : FnScope ["cup", "many", "way", "columns", "n", "k", "face"] ["cup", "many"] (defScope s__law_solid) := ⟨rfl, rfl, rfl, by decide +kernel, rfl, by decide +kernel, by decide +kernel⟩
def m__law_steps (solid_478 : (List (List Int))) : Option (Fl Unit Empty (List (Str × (List (Int × Int))))) :=
  ((some ([] : (List (Int × Int)))).bind fun behind_479 => (((some solid_478).bind fun xs => foldO (fun x_481 g_482 => (((((some x_481).bind fun x => some (x.length : Int)).bind rng1).bind fun xs => foldO (fun x_485 g_486 => ((((some x_481).bind fun x => ((((some x_485).bind fun x => (some (1 : Int)).bind fun y => some (x + y)).bind fun x => some x).bind fun x => ((some x_481).bind fun x => some (x.length : Int)).bind fun y => pmod x y).bind fun y => atI x y).bind fun x => ((some x_481).bind fun x => (some x_485).bind fun y => atI x y).bind fun k => dputL g_486 k x).bind fun behind_488 => (some behind_488))) xs g_482).bind fun g_487 => (some g_487))) xs behind_479).bind fun g_483 => (((((some g_483).map fun d => d.map (·.1)).bind fun xs => (compO (fun x_489 => (some true)) (fun x_489 => ((some x_489).bind fun x => (((some x_489).bind fun x => (some (1 : Int)).bind fun y => some (x + y)).bind fun x => ((some (2 : Int)).bind fun x => ((((some x_489).bind fun x => some x).bind fun x => (some (2 : Int)).bind fun y => pmod x y).bind fun x => some x).bind fun y => pmul x y).bind fun y => some (x - y)).bind fun y => some (x, y))) xs).bind fits).bind fun x => some (dmerge [] x)).bind fun z => some (.rt [("t", g_483), ("r", z)]))))
def f__law_steps (solid_478 : (List (List Int))) : Option (List (Str × (List (Int × Int)))) := (m__law_steps solid_478).bind Fl.ret
abbrev Sp__law_steps : Sp := FSpec (fun a : (List (List Int)) × Unit => [(isT (isT isI)) a.1]) (fun a => f__law_steps a.1) (isD kS (isD kI isI))
abbrev s__law_steps : Stmt := topS 30
theorem sc__law_steps : FnScope ["solid", "behind", "face", "at", "side"] ["solid"] (defScope s__law_steps) := ⟨rfl, rfl, rfl, by decide +kernel, rfl, by decide +kernel, by decide +kernel⟩
def m__law_lead (steps_490 : (List (Str × (List (Int × Int))))) (side_491 : Int) (word_492 : Str) : Option (Fl Unit Empty Int) :=
  ((((some word_492).map fun x => x.cps.toList.map fun c => (⟨#[c]⟩ : Str)).bind fun xs => foldO (fun x_494 g_495 => ((((some steps_490).bind fun d => (some x_494).bind fun k => dget d k).bind fun d => (some g_495).bind fun k => dget d k).bind fun side_497 => (some side_497))) xs side_491).bind fun g_496 => ((some g_496).bind fun a => some (.rt a)))
def f__law_lead (steps_490 : (List (Str × (List (Int × Int))))) (side_491 : Int) (word_492 : Str) : Option Int := (m__law_lead steps_490 side_491 word_492).bind Fl.ret
abbrev Sp__law_lead : Sp := FSpec (fun a : (List (Str × (List (Int × Int)))) × Int × Str × Unit => [(isD kS (isD kI isI)) a.1, isI a.2.1, isS a.2.2.1]) (fun a => f__law_lead a.1 a.2.1 a.2.2.1) isI
abbrev s__law_lead : Stmt := topS 31
theorem sc__law_lead : FnScope ["steps", "side", "word", "letter"] ["steps", "side", "word"] (defScope s__law_lead) := ⟨rfl, rfl, rfl, by decide +kernel, rfl, by decide +kernel, by decide +kernel⟩
def m__law_map (steps_498 : (List (Str × (List (Int × Int))))) (word_499 : Str) : Option (Fl Unit Empty (List Int)) :=
  (((((((some steps_498).bind fun d => (some ("t" : Str)).bind fun k => dget d k).bind fun x => some (x.length : Int)).bind rng1).bind fun xs => (compO (fun x_500 => (some true)) (fun x_500 => (((some steps_498).bind fun x => ((some x_500).bind fun x => ((some word_499).bind fun x => (some ()).bind fun y => some (x, y)).bind fun y => some (x, y)).bind fun y => some (x, y)).bind fun b => f__law_lead b.1 b.2.1 b.2.2.1)) xs).bind fits).bind fun x => some x).bind fun a => some (.rt a))
def f__law_map (steps_498 : (List (Str × (List (Int × Int))))) (word_499 : Str) : Option (List Int) := (m__law_map steps_498 word_499).bind Fl.ret
abbrev Sp__law_map : Sp := FSpec (fun a : (List (Str × (List (Int × Int)))) × Str × Unit => [(isD kS (isD kI isI)) a.1, isS a.2.1]) (fun a => f__law_map a.1 a.2.1) (isT isI)
abbrev s__law_map : Stmt := topS 32
theorem sc__law_map : FnScope ["steps", "word", "side"] ["steps", "word"] (defScope s__law_map) := ⟨rfl, rfl, rfl, by decide +kernel, rfl, by decide +kernel, by decide +kernel⟩
def m__law_all_words (most_501 : Int) : Option (Fl Unit Empty (List Str)) :=
  ((((some ("" : Str)).bind fun x => (some []).bind fun xs => some (x :: xs)) : Option (List Str)).bind fun words_502 => ((((some ("" : Str)).bind fun x => (some []).bind fun xs => some (x :: xs)) : Option (List Str)).bind fun last_503 => ((((some most_501).bind rng1).bind fun xs => foldO (fun x_505 g_506 => (((some []) : Option (List Str)).bind fun longer_508 => (((some g_506.2).bind fun xs => foldO (fun x_510 g_511 => (((some g_511).bind fun x => ((((some x_510).bind fun x => (some ("r" : Str)).bind fun y => scat x y).bind fun x => (((some x_510).bind fun x => (some ("t" : Str)).bind fun y => scat x y).bind fun x => (some []).bind fun xs => some (x :: xs)).bind fun xs => some (x :: xs)) : Option (List Str)).bind fun y => lcat x y).bind fun longer_513 => (some longer_513))) xs longer_508).bind fun g_512 => ((some ()).bind fun _ => (((some g_506.1).bind fun x => (some g_512).bind fun y => lcat x y).bind fun words_515 => (some (words_515, g_512))))))) xs (words_502, last_503)).bind fun g_507 => (some (.rt g_507.1)))))
def f__law_all_words (most_501 : Int) : Option (List Str) := (m__law_all_words most_501).bind Fl.ret
abbrev Sp__law_all_words : Sp := FSpec (fun a : Int × Unit => [isI a.1]) (fun a => f__law_all_words a.1) (isL isS)
abbrev s__law_all_words : Stmt := topS 33
theorem sc__law_all_words : FnScope ["most", "words", "last", "length", "longer", "word"] ["most"] (defScope s__law_all_words) := ⟨rfl, rfl, rfl, by decide +kernel, rfl, by decide +kernel, by decide +kernel⟩
def m__law_firsts (n : Nat) (steps_516 : (List (Str × (List (Int × Int))))) (start_517 : Int) : Option (Fl Unit Empty (List (Int × Str))) :=
  (((some start_517).bind fun k => (some ("" : Str)).bind fun x => some [(k, x)]).bind fun found_518 => ((((some start_517).bind fun x => (some []).bind fun xs => some (x :: xs)) : Option (List Int)).bind fun todo_519 => ((some (0 : Int)).bind fun at_520 => ((whileM (fun g_522 => ((some g_522.2.2).bind fun x => ((some g_522.2.1).bind fun x => some (x.length : Int)).bind fun y => some (decide (x < y)))) (fun g_523 => (((some g_523.2.1).bind fun x => (some g_523.2.2).bind fun y => atI x y).bind fun here_525 => ((((some ("rt" : Str)).map fun x => x.cps.toList.map fun c => (⟨#[c]⟩ : Str)).bind fun xs => foldO (fun x_527 g_528 => ((((some steps_516).bind fun d => (some x_527).bind fun k => dget d k).bind fun d => (some here_525).bind fun k => dget d k).bind fun there_530 => ((((some there_530).bind fun k => (some g_528.1).bind fun d => some (!dhas d k)).bind fun d => if d = true then (((((some g_528.1).bind fun d => (some here_525).bind fun k => dget d k).bind fun x => (some x_527).bind fun y => scat x y).bind fun x => (some there_530).bind fun k => dputL g_528.1 k x).bind fun found_532 => ((((((some there_530).bind fun x => (some ()).bind fun y => some (x, y)).bind fun a => some (a, g_528.2)).bind fun b_539 => (lapp b_539.2 b_539.1).bind fun z => some (z.1, z.2)).map (·.2)).bind fun s_536 => (some (found_532, s_536)))) else (some (g_528.1, g_528.2))).bind fun b_531 => (some (b_531.1, b_531.2))))) xs (g_523.1, g_523.2.1)).bind fun g_529 => (((some (1 : Int)).map fun k => g_523.2.2 + k).bind fun at_541 => (some (g_529.1, g_529.2, at_541)))))) n (found_518, todo_519, at_520)).bind fun g_524 => (some (.rt g_524.1))))))
def f__law_firsts (n : Nat) (steps_516 : (List (Str × (List (Int × Int))))) (start_517 : Int) : Option (List (Int × Str)) := (m__law_firsts n steps_516 start_517).bind Fl.ret
abbrev Sp__law_firsts (n : Nat) : Sp := FSpec (fun a : (List (Str × (List (Int × Int)))) × Int × Unit => [(isD kS (isD kI isI)) a.1, isI a.2.1]) (fun a => f__law_firsts n a.1 a.2.1) (isD kI isS)
abbrev s__law_firsts : Stmt := topS 34
theorem sc__law_firsts : FnScope ["steps", "start", "found", "todo", "at", "here", "letter", "there"] ["steps", "start"] (defScope s__law_firsts) := ⟨rfl, rfl, rfl, by decide +kernel, rfl, by decide +kernel, by decide +kernel⟩
def m__law_word (n : Nat) (cup_542 : Cup) (most_543 : Int) : Option (Fl Unit Empty (Str × Cup)) :=
  ((((some (4 : Int)).bind fun x => (some ()).bind fun y => some (x, y)).bind fun b_550 => (f__law_sip n cup_542 b_550.1).bind fun r => some (r.1, r.2)).bind fun b_548 => (((((((some most_543).bind fun x => (some ()).bind fun y => some (x, y)).bind fun b_573 => (f__law_sip n b_548.2 b_573.1).bind fun r => some (r.1, r.2)).bind fun x_572 => (rng1 x_572.1).bind fun xs => some (xs, x_572.2)).bind fun w_569 => (compS (fun x_554 s_571 => ((((some (["rt", "rrt", "ttr", "rt"] : List Str)).bind fun x => (some b_548.1).bind fun y => atI x y).bind fun a => some (a, s_571)).bind fun x_574 => ((((some (2 : Int)).bind fun x => (((some b_548.1).bind fun x => (some ([1, 2] : List Int)).bind fun y => some (y.contains x)).bind fun x => some (if x then 1 else 0)).bind fun y => some (x + y)).bind fun x => (some ()).bind fun y => some (x, y)).bind fun b_576 => (f__law_sip n x_574.2 b_576.1).bind fun r => some (r.1, r.2)).bind fun y_575 => (sat x_574.1 y_575.1).bind fun z => some (z, y_575.2))) w_569.1 w_569.2).bind fun z_570 => (fits z_570.1).bind fun ys => some (ys, z_570.2)).bind fun x_568 => (sjoin "" x_568.1).bind fun z => some (z, x_568.2)).bind fun b_558 => (((((some b_548.1).bind fun x => (some (3 : Int)).bind fun y => some (decide (x = y))).bind fun c => if c = true then (((some b_558.1).bind fun x => slen x).bind fun x => (some (90 : Int)).bind fun y => some (decide (x < y))) else some false).bind fun d => if d = true then (((some b_558.1).bind fun a => some (a, b_558.2)).bind fun x_586 => (((some (1 : Int)).bind fun a => some (a, x_586.2)).bind fun x_588 => (((some (3 : Int)).bind fun x => (some ()).bind fun y => some (x, y)).bind fun b_590 => (f__law_sip n x_588.2 b_590.1).bind fun r => some (r.1, r.2)).bind fun y_589 => (some (x_588.1 + y_589.1)).bind fun z => some (z, y_589.2)).bind fun y_587 => (smul x_586.1 y_587.1).bind fun z => some (z, y_587.2)) else ((some b_558.1).bind fun a => some (a, b_558.2))).bind fun z => some (.rt (z.1, z.2)))))
def f__law_word (n : Nat) (cup_542 : Cup) (most_543 : Int) : Option (Str × Cup) := (m__law_word n cup_542 most_543).bind Fl.ret
abbrev Sp__law_word (n : Nat) : Sp := MSpec isCup (fun a : Int × Unit => [isI a.1]) (fun c a => f__law_word n c a.1) isS
abbrev s__law_word : Stmt := topS 35
theorem sc__law_word : FnScope ["cup", "most", "habit", "word", "at"] ["cup", "most"] (defScope s__law_word) := ⟨rfl, rfl, rfl, by decide +kernel, rfl, by decide +kernel, by decide +kernel⟩
def m__law_plain (word_591 : Str) : Option (Fl Unit Empty Str) :=
  (((some []) : Option (List Str)).bind fun told_592 => ((((some word_591).map fun x => x.cps.toList.map fun c => (⟨#[c]⟩ : Str)).bind fun xs => foldO (fun x_594 g_595 => (((((some x_594).bind fun x => (some ("r" : Str)).bind fun y => some (decide (x = y))).bind fun c => if c = true then ((((some g_595).bind fun x => some (x.length : Int)).bind fun x => (some (0 : Int)).bind fun y => some (decide (y < x))).bind fun c => if c = true then (((some g_595).bind fun x => ((some (1 : Int)).bind fun i => some (-i)).bind fun y => atI x y).bind fun x => (some ("r" : Str)).bind fun y => some (decide (x = y))) else some false) else some false).bind fun d => if d = true then ((((lpop g_595 ()).bind fun z => some (z.1, z.2)).map (·.2)).bind fun s_601 => (some s_601)) else ((((((some x_594).bind fun x => (some ()).bind fun y => some (x, y)).bind fun a => some (a, g_595)).bind fun b_609 => (lapp b_609.2 b_609.1).bind fun z => some (z.1, z.2)).map (·.2)).bind fun s_606 => (some s_606))).bind fun b_597 => (some b_597))) xs told_592).bind fun g_596 => (((some g_596).bind fun ys => sjoin "" ys).bind fun a => some (.rt a))))
def f__law_plain (word_591 : Str) : Option Str := (m__law_plain word_591).bind Fl.ret
abbrev Sp__law_plain : Sp := FSpec (fun a : Str × Unit => [isS a.1]) (fun a => f__law_plain a.1) isS
abbrev s__law_plain : Stmt := topS 36
theorem sc__law_plain : FnScope ["word", "told", "letter"] ["word"] (defScope s__law_plain) := ⟨rfl, rfl, rfl, by decide +kernel, rfl, by decide +kernel, by decide +kernel⟩
def m__law_common (n : Nat) (solid_611 : (List (List Int))) : Option (Fl Unit Empty Int) :=
  (((some solid_611).bind fun xs => (compO (fun x_613 => (some true)) (fun x_613 => ((some x_613).bind fun x => some (x.length : Int))) xs).bind fits).bind fun sizes_612 => ((some (1 : Int)).bind fun number_614 => ((whileM (fun g_616 => ((((some sizes_612).bind fun xs => (compO (fun x_618 => ((((some g_616).bind fun x => some x).bind fun x => (some x_618).bind fun y => pmod x y).bind fun x => (some (0 : Int)).bind fun y => some (decide (y < x)))) (fun x_618 => (some x_618)) xs).bind fits).bind fun x => some (x.length : Int)).bind fun x => (some (0 : Int)).bind fun y => some (decide (y < x)))) (fun g_617 => (((some (1 : Int)).map fun k => g_617 + k).bind fun number_620 => (some number_620))) n number_614).bind fun g_619 => ((some g_619).bind fun a => some (.rt a)))))
def f__law_common (n : Nat) (solid_611 : (List (List Int))) : Option Int := (m__law_common n solid_611).bind Fl.ret
abbrev Sp__law_common (n : Nat) : Sp := FSpec (fun a : (List (List Int)) × Unit => [(isT (isT isI)) a.1]) (fun a => f__law_common n a.1) isI
abbrev s__law_common : Stmt := topS 37
theorem sc__law_common : FnScope ["solid", "sizes", "face", "number", "size"] ["solid"] (defScope s__law_common) := ⟨rfl, rfl, rfl, by decide +kernel, rfl, by decide +kernel, by decide +kernel⟩
def m__law_back (n : Nat) (solid_621 : (List (List Int))) (word_622 : Str) : Option (Fl Unit Empty Str) :=
  (((some ("t" : Str)).bind fun x => ((((some solid_621).bind fun x => (some ()).bind fun y => some (x, y)).bind fun b => f__law_common n b.1).bind fun x => (some (1 : Int)).bind fun y => some (x - y)).bind fun y => smul x y).bind fun laps_623 => ((((((some word_622).bind srev).map fun x => x.cps.toList.map fun c => (⟨#[c]⟩ : Str)).bind fun xs => (compO (fun x_624 => (some true)) (fun x_624 => (((some x_624).bind fun x => (some ("t" : Str)).bind fun y => some (decide (x = y))).bind fun d => if d = true then (some laps_623) else (some ("r" : Str)))) xs).bind fits).bind fun ys => sjoin "" ys).bind fun a => some (.rt a)))
def f__law_back (n : Nat) (solid_621 : (List (List Int))) (word_622 : Str) : Option Str := (m__law_back n solid_621 word_622).bind Fl.ret
abbrev Sp__law_back (n : Nat) : Sp := FSpec (fun a : (List (List Int)) × Str × Unit => [(isT (isT isI)) a.1, isS a.2.1]) (fun a => f__law_back n a.1 a.2.1) isS
abbrev s__law_back : Stmt := topS 38
theorem sc__law_back : FnScope ["solid", "word", "laps", "letter"] ["solid", "word"] (defScope s__law_back) := ⟨rfl, rfl, rfl, by decide +kernel, rfl, by decide +kernel, by decide +kernel⟩
def m__law_likes (n : Nat) (cup_625 : Cup) (solid_626 : (List (List Int))) (steps_627 : (List (Str × (List (Int × Int))))) : Option (Fl Unit Empty (Bool × Cup)) :=
  ((((some (12 : Int)).bind fun x => (some ()).bind fun y => some (x, y)).bind fun b_634 => (f__law_word n cup_625 b_634.1).bind fun r => some (r.1, r.2)).bind fun b_632 => ((((some solid_626).bind fun x => (some ()).bind fun y => some (x, y)).bind fun b => f__law_common n b.1).bind fun number_635 => ((((some number_635).bind fun x => (some (121 : Int)).bind fun y => some (decide (x < y))).bind fun d => if d = true then ((some ("t" : Str)).bind fun x => (some number_635).bind fun y => smul x y) else (some ("" : Str))).bind fun lap_636 => ((((((some b_632.1).bind fun x => slen x).bind fun x => (some (1 : Int)).bind fun y => some (x + y)).bind fun x => (some ()).bind fun y => some (x, y)).bind fun b_643 => (f__law_sip n b_632.2 b_643.1).bind fun r => some (r.1, r.2)).bind fun b_641 => ((((some b_632.1).bind fun a => some (a, b_641.2)).bind fun x_668 => (((((some b_632.1).bind fun x => (some ()).bind fun y => some (x, y)).bind fun b => f__law_plain b.1).bind fun a => some (a, x_668.2)).bind fun x_670 => ((((((some b_632.1).bind fun x => (some none).bind fun a => ((some b_641.1).map some).bind fun b => scut x a b).bind fun x => (some ("rr" : Str)).bind fun y => scat x y).bind fun x => ((some b_632.1).bind fun x => ((some b_641.1).map some).bind fun a => (some none).bind fun b => scut x a b).bind fun y => scat x y).bind fun a => some (a, x_670.2)).bind fun x_672 => ((((((some b_632.1).bind fun x => (some none).bind fun a => ((some b_641.1).map some).bind fun b => scut x a b).bind fun x => (some lap_636).bind fun y => scat x y).bind fun x => ((some b_632.1).bind fun x => ((some b_641.1).map some).bind fun a => (some none).bind fun b => scut x a b).bind fun y => scat x y).bind fun a => some (a, x_672.2)).bind fun x_674 => ((((some b_632.1).bind fun x => (some ("t" : Str)).bind fun y => scat x y).bind fun a => some (a, x_674.2)).bind fun x_676 => ((((some b_632.1).bind srev).bind fun a => some (a, x_676.2)).bind fun x_678 => ((((some (12 : Int)).bind fun x => (some ()).bind fun y => some (x, y)).bind fun b_682 => (f__law_word n x_678.2 b_682.1).bind fun r => some (r.1, r.2)).bind fun x_680 => ((((some b_632.1).bind fun x => (some ("r" : Str)).bind fun y => scat x y).bind fun a => some (a, x_680.2)).bind fun x_683 => ((((some ("t" : Str)).bind fun x => (some b_632.1).bind fun y => scat x y).bind fun a => some (a, x_683.2)).bind fun x_685 => (some ([], x_685.2)).bind fun y_686 => some (x_685.1 :: y_686.1, y_686.2)).bind fun y_684 => some (x_683.1 :: y_684.1, y_684.2)).bind fun y_681 => some (x_680.1 :: y_681.1, y_681.2)).bind fun y_679 => some (x_678.1 :: y_679.1, y_679.2)).bind fun y_677 => some (x_676.1 :: y_677.1, y_677.2)).bind fun y_675 => some (x_674.1 :: y_675.1, y_675.2)).bind fun y_673 => some (x_672.1 :: y_673.1, y_673.2)).bind fun y_671 => some (x_670.1 :: y_671.1, y_671.2)).bind fun y_669 => some (x_668.1 :: y_669.1, y_669.2)).bind fun b_648 => (((((some b_648.1).bind fun xs => foldX (fun x_688 g_689 => (((((some steps_627).bind fun x => ((some b_632.1).bind fun x => (some ()).bind fun y => some (x, y)).bind fun y => some (x, y)).bind fun b => f__law_map b.1 b.2.1).bind fun x => (((some steps_627).bind fun x => ((some x_688).bind fun x => (some ()).bind fun y => some (x, y)).bind fun y => some (x, y)).bind fun b => f__law_map b.1 b.2.1).bind fun y => some (decide (x = y))).bind fun due_691 => ((((((((((some solid_626).bind fun x => ((some b_632.1).bind fun x => ((some x_688).bind fun x => (some ()).bind fun y => some (x, y)).bind fun y => some (x, y)).bind fun y => some (x, y)).bind fun b => f_are_like_words b.1 b.2.1 b.2.2.1).map (Dt.enc (A := isB))).bind fun x => (((some due_691).map (Dt.enc (A := isB))).bind fun x => (some ()).bind fun y => some (x, y)).bind fun y => some (x, y)).bind fun b => f__law_same n b.1 b.2.1).map not).bind fun d => if d = true then ((some false).bind fun a => some (.rt (a, b_648.2))) else (some (.nx ()))) : Option (Fl (Unit) (Unit) (Bool × Cup))).bind fun f => f.bind fun b_692 => (some (.nx ()))))) xs ()).map Fl.ofE) : Option (Fl (Unit) (Empty) (Bool × Cup))).bind fun f => f.bind fun g_690 => (((((((((((some b_632.1).bind fun x => (some ()).bind fun y => some (x, y)).bind fun b => f_plain_word b.1).map (Dt.enc (A := isS))).bind fun x => (((((some b_632.1).bind fun x => (some ()).bind fun y => some (x, y)).bind fun b => f__law_plain b.1).map (Dt.enc (A := isS))).bind fun x => (some ()).bind fun y => some (x, y)).bind fun y => some (x, y)).bind fun b => f__law_same n b.1 b.2.1).map not).bind fun c => if c = true then some true else ((((((((((some b_632.1).bind fun x => (some none).bind fun a => ((some b_641.1).map some).bind fun b => scut x a b).bind fun x => ((some ("rr" : Str)).bind fun x => (some (5 : Int)).bind fun y => smul x y).bind fun y => scat x y).bind fun x => ((some b_632.1).bind fun x => ((some b_641.1).map some).bind fun a => (some none).bind fun b => scut x a b).bind fun y => scat x y).bind fun x => (some ()).bind fun y => some (x, y)).bind fun b => f_plain_word b.1).map (Dt.enc (A := isS))).bind fun x => (((((some b_632.1).bind fun x => (some ()).bind fun y => some (x, y)).bind fun b => f__law_plain b.1).map (Dt.enc (A := isS))).bind fun x => (some ()).bind fun y => some (x, y)).bind fun y => some (x, y)).bind fun b => f__law_same n b.1 b.2.1).map not)).bind fun d => if d = true then ((some false).bind fun a => some (.rt (a, b_648.2))) else (some (.nx ()))) : Option (Fl (Unit) (Empty) (Bool × Cup))).bind fun f => f.bind fun b_694 => (((((some number_635).bind fun x => (some (61 : Int)).bind fun y => some (decide (x < y))).bind fun d => if d = true then ((((some solid_626).bind fun x => ((some b_632.1).bind fun x => (some ()).bind fun y => some (x, y)).bind fun y => some (x, y)).bind fun b => f__law_back n b.1 b.2.1).bind fun back_697 => ((((((((((some solid_626).bind fun x => ((some b_632.1).bind fun x => (some ()).bind fun y => some (x, y)).bind fun y => some (x, y)).bind fun b => f_word_back b.1 b.2.1).map (Dt.enc (A := isS))).bind fun x => (((some back_697).map (Dt.enc (A := isS))).bind fun x => (some ()).bind fun y => some (x, y)).bind fun y => some (x, y)).bind fun b => f__law_same n b.1 b.2.1).map not).bind fun d => if d = true then ((some false).bind fun a => some (.rt (a, b_648.2))) else (some (.nx ()))) : Option (Fl (Unit) (Empty) (Bool × Cup))).bind fun f => f.bind fun b_698 => ((((((((some b_632.1).bind fun x => slen x).bind fun x => ((some back_697).bind fun x => slen x).bind fun y => some (x + y)).bind fun x => (some (301 : Int)).bind fun y => some (decide (x < y))).bind fun c => if c = true then ((((some solid_626).bind fun x => (((some b_632.1).bind fun x => (some back_697).bind fun y => scat x y).bind fun x => ((some ("" : Str)).bind fun x => (some ()).bind fun y => some (x, y)).bind fun y => some (x, y)).bind fun y => some (x, y)).bind fun b => f_are_like_words b.1 b.2.1 b.2.2.1).bind fun x => (some true).bind fun y => some (!decide (x = y))) else some false).bind fun d => if d = true then ((some false).bind fun a => some (.rt (a, b_648.2))) else (some (.nx ()))) : Option (Fl (Unit) (Empty) (Bool × Cup))).bind fun f => f.bind fun b_700 => (some (.nx ()))))) else (some (.nx ()))) : Option (Fl (Unit) (Empty) (Bool × Cup))).bind fun f => f.bind fun b_696 => ((some true).bind fun a => some (.rt (a, b_648.2)))))))))))
def f__law_likes (n : Nat) (cup_625 : Cup) (solid_626 : (List (List Int))) (steps_627 : (List (Str × (List (Int × Int))))) : Option (Bool × Cup) := (m__law_likes n cup_625 solid_626 steps_627).bind Fl.ret
abbrev Sp__law_likes (n : Nat) : Sp := MSpec isCup (fun a : (List (List Int)) × (List (Str × (List (Int × Int)))) × Unit => [(isT (isT isI)) a.1, (isD kS (isD kI isI)) a.2.1]) (fun c a => f__law_likes n c a.1 a.2.1) isB
abbrev s__law_likes : Stmt := topS 40
theorem sc__law_likes : FnScope ["cup", "solid", "steps", "word", "number", "lap", "at", "others", "other", "due", "back"] ["cup", "solid", "steps"] (defScope s__law_likes) := ⟨rfl, rfl, rfl, by decide +kernel, rfl, by decide +kernel, by decide +kernel⟩
def m__law_scene (n : Nat) (cup_703 : Cup) (solid_704 : (List (List Int))) : Option (Fl Unit Empty (Bool × Cup)) :=
  ((((some solid_704).bind fun x => (some ()).bind fun y => some (x, y)).bind fun b => f__law_steps b.1).bind fun steps_705 => ((((some steps_705).bind fun d => (some ("t" : Str)).bind fun k => dget d k).bind fun x => some (x.length : Int)).bind fun many_706 => ((((some many_706).bind fun x => (some ()).bind fun y => some (x, y)).bind fun b_713 => (f__law_sip n cup_703 b_713.1).bind fun r => some (r.1, r.2)).bind fun b_711 => ((some ([] : (List (Int × Str)))).bind fun met_714 => ((((((some (6 : Int)).bind fun x => (some ()).bind fun y => some (x, y)).bind fun b => f__law_all_words b.1).bind fun xs => foldX (fun x_716 g_717 => ((((some steps_705).bind fun x => ((some b_711.1).bind fun x => ((some x_716).bind fun x => (some ()).bind fun y => some (x, y)).bind fun y => some (x, y)).bind fun y => some (x, y)).bind fun b => f__law_lead b.1 b.2.1 b.2.2.1).bind fun due_719 => ((((some due_719).bind fun k => (some g_717).bind fun d => some (!dhas d k)).bind fun d => if d = true then (((some x_716).bind fun x => (some due_719).bind fun k => dputL g_717 k x).bind fun met_721 => (some met_721)) else (some g_717)).bind fun b_720 => ((((((((((some solid_704).bind fun x => ((some b_711.1).bind fun x => ((some x_716).bind fun x => (some ()).bind fun y => some (x, y)).bind fun y => some (x, y)).bind fun y => some (x, y)).bind fun b => f_word_side b.1 b.2.1 b.2.2.1).map (Dt.enc (A := isI))).bind fun x => (((some due_719).map (Dt.enc (A := isI))).bind fun x => (some ()).bind fun y => some (x, y)).bind fun y => some (x, y)).bind fun b => f__law_same n b.1 b.2.1).map not).bind fun d => if d = true then ((some false).bind fun a => some (.rt (a, b_711.2))) else (some (.nx ()))) : Option (Fl (Unit) ((List (Int × Str))) (Bool × Cup))).bind fun f => f.bind fun b_723 => (some (.nx b_720)))))) xs met_714) : Option (Fl ((List (Int × Str))) (Empty) (Bool × Cup))).bind fun f => f.bind fun g_718 => ((((some steps_705).bind fun x => ((some b_711.1).bind fun x => (some ()).bind fun y => some (x, y)).bind fun y => some (x, y)).bind fun b => f__law_firsts n b.1 b.2.1).bind fun found_725 => (((((some g_718).bind fun x => some (isort (x.map (·.1)))).bind fun xs => foldX (fun x_727 g_728 => ((((((some found_725).bind fun d => (some x_727).bind fun k => dget d k).bind fun x => ((some g_718).bind fun d => (some x_727).bind fun k => dget d k).bind fun y => some (decide (x ≠ y))).bind fun d => if d = true then ((some false).bind fun a => some (.rt (a, b_711.2))) else (some (.nx ()))) : Option (Fl (Unit) (Unit) (Bool × Cup))).bind fun f => f.bind fun b_730 => (some (.nx ())))) xs ()) : Option (Fl (Unit) (Empty) (Bool × Cup))).bind fun f => f.bind fun g_729 => ((((((((((some solid_704).bind fun x => ((some b_711.1).bind fun x => (some ()).bind fun y => some (x, y)).bind fun y => some (x, y)).bind fun b => f_word_steps n b.1 b.2.1).map (Dt.enc (A := (isT isI)))).bind fun x => ((((((some many_706).bind rng1).bind fun xs => (compO (fun x_732 => (some true)) (fun x_732 => (((some found_725).bind fun d => (some x_732).bind fun k => dget d k).bind fun x => slen x)) xs).bind fits).bind fun x => some x).map (Dt.enc (A := (isT isI)))).bind fun x => (some ()).bind fun y => some (x, y)).bind fun y => some (x, y)).bind fun b => f__law_same n b.1 b.2.1).map not).bind fun d => if d = true then ((some false).bind fun a => some (.rt (a, b_711.2))) else (some (.nx ()))) : Option (Fl (Unit) (Empty) (Bool × Cup))).bind fun f => f.bind fun b_733 => (((((some (6 : Int)).bind rng1).bind fun xs => foldX (fun x_736 g_737 => ((((some many_706).bind fun x => (some ()).bind fun y => some (x, y)).bind fun b_745 => (f__law_sip n g_737 b_745.1).bind fun r => some (r.1, r.2)).bind fun b_743 => ((((((((((some solid_704).bind fun x => ((some b_711.1).bind fun x => ((some b_743.1).bind fun x => (some ()).bind fun y => some (x, y)).bind fun y => some (x, y)).bind fun y => some (x, y)).bind fun b => f_first_word n b.1 b.2.1 b.2.2.1).map (Dt.enc (A := isS))).bind fun x => ((((some found_725).bind fun d => (some b_743.1).bind fun k => dget d k).map (Dt.enc (A := isS))).bind fun x => (some ()).bind fun y => some (x, y)).bind fun y => some (x, y)).bind fun b => f__law_same n b.1 b.2.1).map not).bind fun d => if d = true then ((some false).bind fun a => some (.rt (a, b_743.2))) else (some (.nx ()))) : Option (Fl (Unit) (Cup) (Bool × Cup))).bind fun f => f.bind fun b_746 => (some (.nx b_743.2))))) xs b_711.2) : Option (Fl (Cup) (Empty) (Bool × Cup))).bind fun f => f.bind fun g_738 => ((((some solid_704).bind fun x => ((some steps_705).bind fun x => (some ()).bind fun y => some (x, y)).bind fun y => some (x, y)).bind fun b_753 => (f__law_likes n g_738 b_753.1 b_753.2.1).bind fun r => some (r.1, r.2)).bind fun z => some (.rt (z.1, z.2))))))))))))
def f__law_scene (n : Nat) (cup_703 : Cup) (solid_704 : (List (List Int))) : Option (Bool × Cup) := (m__law_scene n cup_703 solid_704).bind Fl.ret
abbrev Sp__law_scene (n : Nat) : Sp := MSpec isCup (fun a : (List (List Int)) × Unit => [(isT (isT isI)) a.1]) (fun c a => f__law_scene n c a.1) isB
abbrev s__law_scene : Stmt := topS 39
theorem sc__law_scene : FnScope ["cup", "solid", "steps", "many", "start", "met", "word", "due", "found", "side", "lap", "other"] ["cup", "solid"] (defScope s__law_scene) := ⟨rfl, rfl, rfl, by decide +kernel, rfl, by decide +kernel, by decide +kernel⟩
def m_law (n : Nat) (script_754 : (List Int)) : Option (Fl Unit Empty Bool) :=
  ((((some script_754).bind fun x => (some ()).bind fun y => some (x, y)).bind fun b => f__law_cup b.1).bind fun cup_755 => (((((some (2 : Int)).bind rng1).bind fun xs => foldX (fun x_757 g_758 => (((((((((some (6 : Int)).bind fun x => (some ()).bind fun y => some (x, y)).bind fun b_780 => (f__law_solid n g_758 b_780.1).bind fun r => some (r.1, r.2)).bind fun a_778 => (some ((), a_778.2)).bind fun b_779 => some ((a_778.1, b_779.1), b_779.2)).bind fun b_777 => (f__law_scene n b_777.2 b_777.1.1).bind fun r => some (r.1, r.2)).map fun x => (!x.1, x.2)).bind fun d_776 => if d_776.1 = true then ((some false).bind fun a => some (.rt a)) else (some (.nx d_776.2))) : Option (Fl (Cup) (Cup) Bool)).bind fun f => f.bind fun b_766 => (some (.nx b_766)))) xs cup_755) : Option (Fl (Cup) (Empty) Bool)).bind fun f => f.bind fun g_759 => ((((some (4 : Int)).bind fun x => (some ()).bind fun y => some (x, y)).bind fun b_787 => (f__law_solid n g_759 b_787.1).bind fun r => some (r.1, r.2)).bind fun b_785 => ((((some b_785.1).bind fun x => (some ()).bind fun y => some (x, y)).bind fun b => f__law_steps b.1).bind fun steps_788 => (((((some (301 : Int)).bind fun x => (some ()).bind fun y => some (x, y)).bind fun b_797 => (f__law_word n b_785.2 b_797.1).bind fun r => some (r.1, r.2)).bind fun x_796 => (some none).bind fun a => ((some (300 : Int)).map some).bind fun b => (scut x_796.1 a b).bind fun z => some (z, x_796.2)).bind fun b_793 => ((((((some steps_788).bind fun d => (some ("t" : Str)).bind fun k => dget d k).bind fun x => some (x.length : Int)).bind fun x => (some ()).bind fun y => some (x, y)).bind fun b_804 => (f__law_sip n b_793.2 b_804.1).bind fun r => some (r.1, r.2)).bind fun b_802 => (((((((((((some b_793.1).bind fun x => ((some b_802.1).bind fun x => ((some b_785.1).bind fun x => (some ()).bind fun y => some (x, y)).bind fun y => some (x, y)).bind fun y => some (x, y)).bind fun b => f_word_side b.2.2.1 b.2.1 b.1).map (Dt.enc (A := isI))).bind fun x => (((((some steps_788).bind fun x => ((some b_802.1).bind fun x => ((some b_793.1).bind fun x => (some ()).bind fun y => some (x, y)).bind fun y => some (x, y)).bind fun y => some (x, y)).bind fun b => f__law_lead b.1 b.2.1 b.2.2.1).map (Dt.enc (A := isI))).bind fun x => (some ()).bind fun y => some (x, y)).bind fun y => some (x, y)).bind fun b => f__law_same n b.1 b.2.1).map not).bind fun c => if c = true then some true else (((((((some b_793.1).bind fun x => (some ()).bind fun y => some (x, y)).bind fun b => f_plain_word b.1).map (Dt.enc (A := isS))).bind fun x => (((((some b_793.1).bind fun x => (some ()).bind fun y => some (x, y)).bind fun b => f__law_plain b.1).map (Dt.enc (A := isS))).bind fun x => (some ()).bind fun y => some (x, y)).bind fun y => some (x, y)).bind fun b => f__law_same n b.1 b.2.1).map not)).bind fun d => if d = true then ((some false).bind fun a => some (.rt a)) else (some (.nx ()))) : Option (Fl (Unit) (Empty) Bool)).bind fun f => f.bind fun b_805 => ((((((((some b_785.1).bind fun x => (some ()).bind fun y => some (x, y)).bind fun b => f__law_common n b.1).bind fun x => (some (61 : Int)).bind fun y => some (decide (x < y))).bind fun c => if c = true then (((((((some b_785.1).bind fun x => (((some b_793.1).bind fun x => (some none).bind fun a => ((some (4 : Int)).map some).bind fun b => scut x a b).bind fun x => (some ()).bind fun y => some (x, y)).bind fun y => some (x, y)).bind fun b => f_word_back b.1 b.2.1).map (Dt.enc (A := isS))).bind fun x => (((((some b_785.1).bind fun x => (((some b_793.1).bind fun x => (some none).bind fun a => ((some (4 : Int)).map some).bind fun b => scut x a b).bind fun x => (some ()).bind fun y => some (x, y)).bind fun y => some (x, y)).bind fun b => f__law_back n b.1 b.2.1).map (Dt.enc (A := isS))).bind fun x => (some ()).bind fun y => some (x, y)).bind fun y => some (x, y)).bind fun b => f__law_same n b.1 b.2.1).map not) else some false).bind fun d => if d = true then ((some false).bind fun a => some (.rt a)) else (some (.nx ()))) : Option (Fl (Unit) (Empty) Bool)).bind fun f => f.bind fun b_807 => ((some ([[0, 2, 4], [1, 6, 8], [3, 9, 10], [5, 11, 7]] : List (List Int))).bind fun tetra_809 => (((((((((((some tetra_809).bind fun x => ((some (0 : Int)).bind fun x => ((some (9 : Int)).bind fun x => (some ()).bind fun y => some (x, y)).bind fun y => some (x, y)).bind fun y => some (x, y)).bind fun b => f_first_word n b.1 b.2.1 b.2.2.1).map (Dt.enc (A := isS))).bind fun x => (((some ("trt" : Str)).map (Dt.enc (A := isS))).bind fun x => (some ()).bind fun y => some (x, y)).bind fun y => some (x, y)).bind fun b => f__law_same n b.1 b.2.1).map not).bind fun c => if c = true then some true else (((((((some tetra_809).bind fun x => ((some (0 : Int)).bind fun x => (some ()).bind fun y => some (x, y)).bind fun y => some (x, y)).bind fun b => f_word_steps n b.1 b.2.1).map (Dt.enc (A := (isT isI)))).bind fun x => (((some ([0, 1, 1, 2, 2, 3, 2, 3, 3, 3, 4, 4] : List Int)).map (Dt.enc (A := (isT isI)))).bind fun x => (some ()).bind fun y => some (x, y)).bind fun y => some (x, y)).bind fun b => f__law_same n b.1 b.2.1).map not)).bind fun d => if d = true then ((some false).bind fun a => some (.rt a)) else (some (.nx ()))) : Option (Fl (Unit) (Empty) Bool)).bind fun f => f.bind fun b_810 => ((((((((some tetra_809).bind fun x => ((some ("trtrtr" : Str)).bind fun x => ((some ("" : Str)).bind fun x => (some ()).bind fun y => some (x, y)).bind fun y => some (x, y)).bind fun y => some (x, y)).bind fun b => f_are_like_words b.1 b.2.1 b.2.2.1).bind fun x => (some true).bind fun y => some (!decide (x = y))).bind fun c => if c = true then some true else ((((some tetra_809).bind fun x => ((some ("trtr" : Str)).bind fun x => ((some ("" : Str)).bind fun x => (some ()).bind fun y => some (x, y)).bind fun y => some (x, y)).bind fun y => some (x, y)).bind fun b => f_are_like_words b.1 b.2.1 b.2.2.1).bind fun x => (some false).bind fun y => some (!decide (x = y)))).bind fun d => if d = true then ((some false).bind fun a => some (.rt a)) else (some (.nx ()))) : Option (Fl (Unit) (Empty) Bool)).bind fun f => f.bind fun b_812 => (((((((((((some tetra_809).bind fun x => ((some ("tr" : Str)).bind fun x => (some ()).bind fun y => some (x, y)).bind fun y => some (x, y)).bind fun b => f_word_back b.1 b.2.1).map (Dt.enc (A := isS))).bind fun x => (((some ("rtt" : Str)).map (Dt.enc (A := isS))).bind fun x => (some ()).bind fun y => some (x, y)).bind fun y => some (x, y)).bind fun b => f__law_same n b.1 b.2.1).map not).bind fun c => if c = true then some true else (((((((((some ("rttrrttr" : Str)).bind fun x => ((some ("r" : Str)).bind fun x => (some (2 : Int)).bind fun y => smul x y).bind fun y => scat x y).bind fun x => (some ()).bind fun y => some (x, y)).bind fun b => f_plain_word b.1).map (Dt.enc (A := isS))).bind fun x => (((some ("rttttr" : Str)).map (Dt.enc (A := isS))).bind fun x => (some ()).bind fun y => some (x, y)).bind fun y => some (x, y)).bind fun b => f__law_same n b.1 b.2.1).map not).bind fun c => if c = true then some true else (((((((some ("" : Str)).bind fun x => (some ()).bind fun y => some (x, y)).bind fun b => f_plain_word b.1).map (Dt.enc (A := isS))).bind fun x => (((some ("" : Str)).map (Dt.enc (A := isS))).bind fun x => (some ()).bind fun y => some (x, y)).bind fun y => some (x, y)).bind fun b => f__law_same n b.1 b.2.1).map not))).bind fun d => if d = true then ((some false).bind fun a => some (.rt a)) else (some (.nx ()))) : Option (Fl (Unit) (Empty) Bool)).bind fun f => f.bind fun b_814 => (((((((some (13 : Int)).bind fun x => (some ()).bind fun y => some (x, y)).bind fun b_831 => (f__law_sip n b_802.2 b_831.1).bind fun r => some (r.1, r.2)).bind fun x_829 => ((some (2 : Int)).bind fun a => some (a, x_829.2)).bind fun y_830 => (some (decide (x_829.1 ≠ y_830.1))).bind fun z => some (z, y_830.2)).bind fun d_828 => if d_828.1 = true then ((some true).bind fun a => some (.rt a)) else (some (.nx d_828.2))) : Option (Fl (Cup) (Empty) Bool)).bind fun f => f.bind fun b_820 => (((((((((some (30 : Int)).bind rng1).bind fun xs => some (xs, b_820)).bind fun w_860 => (compS (fun x_836 s_862 => (((some (3 : Int)).bind fun a => some (a, s_862)).bind fun x_863 => (((some (2 : Int)).bind fun x => (some ()).bind fun y => some (x, y)).bind fun b_865 => (f__law_sip n x_863.2 b_865.1).bind fun r => some (r.1, r.2)).bind fun y_864 => (some (x_863.1 + y_864.1)).bind fun z => some (z, y_864.2))) w_860.1 w_860.2).bind fun z_861 => (fits z_861.1).bind fun ys => some (ys, z_861.2)).bind fun a_858 => (((some (0 : Int)).bind fun a => some (a, a_858.2)).bind fun a_866 => (some ((), a_866.2)).bind fun b_867 => some ((a_866.1, b_867.1), b_867.2)).bind fun b_859 => some ((a_858.1, b_859.1), b_859.2)).bind fun b_857 => (f__law_glue n b_857.2 b_857.1.1 b_857.1.2.1).bind fun r => some (r.1, r.2)).bind fun a_855 => (some ((), a_855.2)).bind fun b_856 => some ((a_855.1, b_856.1), b_856.2)).bind fun b_854 => (f__law_scene n b_854.2 b_854.1.1).bind fun r => some (r.1, r.2)).bind fun z => some (.rt z.1)))))))))))))))
def f_law (n : Nat) (script_754 : (List Int)) : Option Bool := (m_law n script_754).bind Fl.ret
abbrev Sp_law (K : PySem.W.Frag) (n : Nat) : Sp := FSpec (fun a : (List Int) × Unit => [(isScr K) a.1]) (fun a => f_law n a.1) isB
abbrev s_law : Stmt := topS 41
theorem sc_law : FnScope ["script", "cup", "lap", "solid", "steps", "word", "side", "tetra", "face"] ["script"] (defScope s_law) := ⟨rfl, rfl, rfl, by decide +kernel, rfl, by decide +kernel, by decide +kernel⟩
end K83
set_option maxHeartbeats 1000000
namespace K83
open PySem PySem.Spec L2 Rf
variable {P : Program} {w : World} {K : PySem.W.Frag} {mg : Str → Option Value} {base : Heap}

theorem fo_behind_table {f : Addr} {fd : FuncData} (F : Fun K "behind_table" "behind_table" s_behind_table f fd) (hb : Binds K fd ["sheet"] []) (hm : mg "behind_table" = some (.ref f)) (h_enumerate : mg "enumerate" = none) (h_len : mg "len" = none) : Fo P w K mg base 1 "behind_table" ["sheet"] (Sp_behind_table ) := by
  refine fo_pure F sc_behind_table hb hm rfl (by decide) (fun _ => rfl) (L := fun e => nomatch e) fun cdv A_ outer_ s_ H_ E_ hr a => ?_
  obtain ⟨sheet_1, _⟩ := a
  have nd := sc_behind_table.nd
  refine bx_cons (sn_st 1 nd (pu_dnew kI isI)) fun told_2 => ?_
  refine bx_cons (Sn.ent (.same (.same (.dead (.dead (.dead .nil))))) (sn_fr (fun g_3 : (List (Int × Int)) => [.lnt ((isT (isT isI)) sheet_1), .own none ((isD kI isI) g_3), .dead, .dead, .dead]) told_2 (wa_tup (al (A := (isT (isT isI))) (a := sheet_1) 0)) (tn 2 nd) (fun x_4 g_5 => ?_))) fun g_6 => ?_
  · refine bn_cons (Sn.ent (.same (.same (.same (.dead (.dead .nil))))) (sn_fr (fun g_7 : (List (Int × Int)) => [.lnt ((isT (isT isI)) sheet_1), .own none ((isD kI isI) g_7), .lnt ((isT isI) x_4), .dead, .dead]) g_5 (wa_enumT (al (A := (isT isI)) (a := x_4) 2) h_enumerate) (tg2 3 4 nd) (fun x_8 g_9 => ?_))) fun g_10 => ?_
    · refine bn_cons (sn_dput (K := kI) 1 rfl (room1 hr) (al_ix ix_tup (o_ixT (A := isI)) (al (A := (isT isI)) (a := x_4) 2) (Pu.al (pu_bin op_mod o_mod (Pu.al (pu_bin op_add o_int0 (al (A := isI) (a := x_8.1) 3) (Pu.al (pu_int)))) (Pu.al (pu_b1 call_len (c_lenT (A := isI)) (al (A := (isT isI)) (a := x_4) 2) h_len bt_len))))) (al (A := isI) (a := x_8.2) 4)) fun told_11 => ?_
      exact bn_nil (.same (.same (.same (.dead (.dead .nil)))))
    · exact bn_nil (.same (.same (.dead (.dead (.dead .nil)))))
  · exact bx_last (sx_retMv (A := (isD kI isI)) 1 g_6 rfl rfl (.dead (.dead (.dead (.dead (.dead .nil))))))
end K83
set_option maxHeartbeats 1000000
namespace K83
open PySem PySem.Spec L2 Rf
variable {P : Program} {w : World} {K : PySem.W.Frag} {mg : Str → Option Value} {base : Heap}

theorem fo_face_table {f : Addr} {fd : FuncData} (F : Fun K "face_table" "face_table" s_face_table f fd) (hb : Binds K fd ["sheet"] []) (hm : mg "face_table" = some (.ref f)) (h_enumerate : mg "enumerate" = none) : Fo P w K mg base 1 "face_table" ["sheet"] (Sp_face_table ) := by
  refine fo_pure F sc_face_table hb hm rfl (by decide) (fun _ => rfl) (L := fun e => nomatch e) fun cdv A_ outer_ s_ H_ E_ hr a => ?_
  obtain ⟨sheet_12, _⟩ := a
  have nd := sc_face_table.nd
  refine bx_cons (sn_st 1 nd (pu_dnew kI isI)) fun told_13 => ?_
  refine bx_cons (Sn.ent (.same (.same (.dead (.dead (.dead .nil))))) (sn_fr (fun g_14 : (List (Int × Int)) => [.lnt ((isT (isT isI)) sheet_12), .own none ((isD kI isI) g_14), .dead, .dead, .dead]) told_13 (wa_enumT (al (A := (isT (isT isI))) (a := sheet_12) 0) h_enumerate) (tg2 2 3 nd) (fun x_15 g_16 => ?_))) fun g_17 => ?_
  · refine bn_cons (Sn.ent (.same (.same (.same (.same (.dead .nil))))) (sn_fr (fun g_18 : (List (Int × Int)) => [.lnt ((isT (isT isI)) sheet_12), .own none ((isD kI isI) g_18), .lnt (isI x_15.1), .lnt ((isT isI) x_15.2), .dead]) g_16 (wa_tup (al (A := (isT isI)) (a := x_15.2) 3)) (tn 4 nd) (fun x_19 g_20 => ?_))) fun g_21 => ?_
    · refine bn_cons (sn_dput (K := kI) 1 rfl (room1 hr) (al (A := isI) (a := x_15.1) 2) (al (A := isI) (a := x_19) 4)) fun told_22 => ?_
      exact bn_nil (.same (.same (.same (.same (.dead .nil)))))
    · exact bn_nil (.same (.same (.dead (.dead (.dead .nil)))))
  · exact bx_last (sx_retMv (A := (isD kI isI)) 1 g_17 rfl rfl (.dead (.dead (.dead (.dead (.dead .nil))))))
end K83
set_option maxHeartbeats 1000000
namespace K83
open PySem PySem.Spec L2 Rf
variable {P : Program} {w : World} {K : PySem.W.Frag} {mg : Str → Option Value} {base : Heap}

theorem fo_sides_of {f : Addr} {fd : FuncData} (F : Fun K "sides_of" "sides_of" s_sides_of f fd) (hb : Binds K fd ["sheet"] []) (hm : mg "sides_of" = some (.ref f)) (h_sorted : mg "sorted" = none) (h_tuple : mg "tuple" = none) (G_face_table : Fo P w K mg base 1 "face_table" ["sheet"] (Sp_face_table )) : Fo P w K mg base 2 "sides_of" ["sheet"] (Sp_sides_of ) := by
  refine fo_pure F sc_sides_of hb hm rfl (by decide) (fun _ => rfl) (L := fun e => nomatch e) fun cdv A_ outer_ s_ H_ E_ hr a => ?_
  obtain ⟨sheet_23, _⟩ := a
  have nd := sc_sides_of.nd
  refine bx_last ?_
  refine sx_ret (A := (isT isI)) (p := (((((some sheet_23).bind fun x => (some ()).bind fun y => some (x, y)).bind fun b => f_face_table b.1).bind fun x => some (isort (x.map (·.1)))).bind fun x => some x)) ?_ (fun a => a) ?_ ?_
  · exact Pu.eq (pu_t1 call_tuple_of c_tupleL (Pu.al (pu_b1 (Rf.call_sortedDI rfl) c_sortedDI (Pu.al (pu_callI (m := fun (a : (List (List Int)) × Unit) => f_face_table a.1) (G_face_table.mono (k := 1) (by decide)) hr (ag_cons (al (A := (isT (isT isI))) (a := sheet_23) 0) ag_nil))) h_sorted bt_sorted)) h_tuple bt_tuple) rfl
  · exact fun _ => rfl
  · exact fun _ => (.dead .nil)
end K83
set_option maxHeartbeats 1000000
namespace K83
open PySem PySem.Spec L2 Rf
variable {P : Program} {w : World} {K : PySem.W.Frag} {mg : Str → Option Value} {base : Heap}

theorem fo_least_multiple {f : Addr} {fd : FuncData} (F : Fun K "least_multiple" "least_multiple" s_least_multiple f fd) (hb : Binds K fd ["one", "other"] []) (hm : mg "least_multiple" = some (.ref f)) (h_gcd : mg "gcd" = some (.builtin "math.gcd")) : Fo P w K mg base 1 "least_multiple" ["one", "other"] (Sp_least_multiple ) := by
  refine fo_pure F sc_least_multiple hb hm rfl (by decide) (fun _ => rfl) (L := fun e => nomatch e) fun cdv A_ outer_ s_ H_ E_ hr a => ?_
  obtain ⟨one_24, other_25, _⟩ := a
  have nd := sc_least_multiple.nd
  refine bx_last ?_
  refine sx_ret (A := isI) (p := (((some one_24).bind fun x => (some other_25).bind fun y => pmul x y).bind fun x => ((some one_24).bind fun x => (some other_25).bind fun y => some (pgcd x y)).bind fun y => pdiv x y)) ?_ (fun a => a) ?_ ?_
  · exact Pu.eq (pu_bin op_fdiv o_div (Pu.al (pu_bin op_mul o_mul (al (A := isI) (a := one_24) 0) (al (A := isI) (a := other_25) 1))) (Pu.al (pu_bf2 cr_gcd c_gcd (al (A := isI) (a := one_24) 0) (al (A := isI) (a := other_25) 1) h_gcd))) rfl
  · exact fun _ => rfl
  · exact fun _ => (.dead (.dead .nil))
end K83
set_option maxHeartbeats 1000000
namespace K83
open PySem PySem.Spec L2 Rf
variable {P : Program} {w : World} {K : PySem.W.Frag} {mg : Str → Option Value} {base : Heap}

theorem fo_least_of_sizes {f : Addr} {fd : FuncData} (F : Fun K "least_of_sizes" "least_of_sizes" s_least_of_sizes f fd) (hb : Binds K fd ["sheet"] []) (hm : mg "least_of_sizes" = some (.ref f)) (h_len : mg "len" = none) (G_least_multiple : Fo P w K mg base 1 "least_multiple" ["one", "other"] (Sp_least_multiple )) : Fo P w K mg base 2 "least_of_sizes" ["sheet"] (Sp_least_of_sizes ) := by
  refine fo_pure F sc_least_of_sizes hb hm rfl (by decide) (fun _ => rfl) (L := fun e => nomatch e) fun cdv A_ outer_ s_ H_ E_ hr a => ?_
  obtain ⟨sheet_26, _⟩ := a
  have nd := sc_least_of_sizes.nd
  refine bx_cons (sn_st 1 nd (pu_int)) fun told_27 => ?_
  refine bx_cons (Sn.ent (.same (.same (.dead .nil))) (sn_fr (fun g_28 : Int => [.lnt ((isT (isT isI)) sheet_26), .own none (isI g_28), .dead]) told_27 (wa_tup (al (A := (isT (isT isI))) (a := sheet_26) 0)) (tn 2 nd) (fun x_29 g_30 => ?_))) fun g_31 => ?_
  · refine bn_cons (sn_st 1 nd (pu_callI (m := fun (a : Int × Int × Unit) => f_least_multiple a.1 a.2.1) (G_least_multiple.mono (k := 1) (by decide)) hr (ag_cons (av (A := isI) (a := g_30) 1) (ag_cons (Pu.al (pu_b1 call_len (c_lenT (A := isI)) (al (A := (isT isI)) (a := x_29) 2) h_len bt_len)) ag_nil)))) fun told_32 => ?_
    exact bn_nil (.same (.same (.dead .nil)))
  · refine bx_last ?_
    refine sx_ret (A := isI) (p := (some g_31)) ?_ (fun a => a) ?_ ?_
    · exact Pu.eq (Al.pu (A := isI) (av (A := isI) (a := g_31) 1)) rfl
    · exact fun _ => rfl
    · exact fun _ => (.dead (.dead (.dead .nil)))
end K83
set_option maxHeartbeats 1000000
namespace K83
open PySem PySem.Spec L2 Rf
variable {P : Program} {w : World} {K : PySem.W.Frag} {mg : Str → Option Value} {base : Heap}

theorem fo_led_side {f : Addr} {fd : FuncData} (F : Fun K "led_side" "led_side" s_led_side f fd) (hb : Binds K fd ["behind", "side", "word"] []) (hm : mg "led_side" = some (.ref f)) : Fo P w K mg base 1 "led_side" ["behind", "side", "word"] (Sp_led_side ) := by
  refine fo_pure F sc_led_side hb hm rfl (by decide) (fun _ => rfl) (L := fun e => nomatch e) fun cdv A_ outer_ s_ H_ E_ hr a => ?_
  obtain ⟨behind_33, side_34, word_35, _⟩ := a
  have nd := sc_led_side.nd
  refine bx_cons (sn_st 3 nd (Al.pu (A := isI) (al (A := isI) (a := side_34) 1))) fun here_36 => ?_
  refine bx_cons (Sn.ent (.same (.dead (.same (.same (.dead .nil))))) (sn_fr (fun g_37 : Int => [.lnt ((isD kI isI) behind_33), .dead, .lnt (isS word_35), .own none (isI g_37), .dead]) here_36 (wa_str (al (A := isS) (a := word_35) 2)) (tn 4 nd) (fun x_38 g_39 => ?_))) fun g_40 => ?_
  · refine bn_cons (sn_st 3 nd (pu_if (te_cmp op_eq o_eqS (al (A := isS) (a := x_38) 4) (Pu.al (pu_str))) (Al.pu (A := isI) (al_dget (K := kI) (room1 hr) (al (A := (isD kI isI)) (a := behind_33) 0) (av (A := isI) (a := g_39) 3))) (pu_bin op_xor o_int0 (av (A := isI) (a := g_39) 3) (Pu.al (pu_int))))) fun here_41 => ?_
    exact bn_nil (.same (.dead (.same (.same (.dead .nil)))))
  · refine bx_last ?_
    refine sx_ret (A := isI) (p := (some g_40)) ?_ (fun a => a) ?_ ?_
    · exact Pu.eq (Al.pu (A := isI) (av (A := isI) (a := g_40) 3)) rfl
    · exact fun _ => rfl
    · exact fun _ => (.dead (.dead (.dead (.dead (.dead .nil)))))
end K83
set_option maxHeartbeats 1000000
namespace K83
open PySem PySem.Spec L2 Rf
variable {P : Program} {w : World} {K : PySem.W.Frag} {mg : Str → Option Value} {base : Heap}

theorem fo_word_side {f : Addr} {fd : FuncData} (F : Fun K "word_side" "word_side" s_word_side f fd) (hb : Binds K fd ["solid", "side", "word"] []) (hm : mg "word_side" = some (.ref f)) (G_led_side : Fo P w K mg base 1 "led_side" ["behind", "side", "word"] (Sp_led_side )) (G_behind_table : Fo P w K mg base 1 "behind_table" ["sheet"] (Sp_behind_table )) : Fo P w K mg base 2 "word_side" ["solid", "side", "word"] (Sp_word_side ) := by
  refine fo_pure F sc_word_side hb hm rfl (by decide) (fun _ => rfl) (L := fun e => nomatch e) fun cdv A_ outer_ s_ H_ E_ hr a => ?_
  obtain ⟨solid_42, side_43, word_44, _⟩ := a
  have nd := sc_word_side.nd
  refine bx_last ?_
  refine sx_ret (A := isI) (p := (((((some solid_42).bind fun x => (some ()).bind fun y => some (x, y)).bind fun b => f_behind_table b.1).bind fun x => ((some side_43).bind fun x => ((some word_44).bind fun x => (some ()).bind fun y => some (x, y)).bind fun y => some (x, y)).bind fun y => some (x, y)).bind fun b => f_led_side b.1 b.2.1 b.2.2.1)) ?_ (fun a => a) ?_ ?_
  · exact Pu.eq (pu_callI (m := fun (a : (List (Int × Int)) × Int × Str × Unit) => f_led_side a.1 a.2.1 a.2.2.1) (G_led_side.mono (k := 1) (by decide)) hr (ag_cons (Pu.al (pu_callI (m := fun (a : (List (List Int)) × Unit) => f_behind_table a.1) (G_behind_table.mono (k := 1) (by decide)) hr (ag_cons (al (A := (isT (isT isI))) (a := solid_42) 0) ag_nil))) (ag_cons (al (A := isI) (a := side_43) 1) (ag_cons (al (A := isS) (a := word_44) 2) ag_nil)))) rfl
  · exact fun _ => rfl
  · exact fun _ => (.dead (.dead (.dead .nil)))
end K83
set_option maxHeartbeats 1000000
namespace K83
open PySem PySem.Spec L2 Rf
variable {P : Program} {w : World} {K : PySem.W.Frag} {mg : Str → Option Value} {base : Heap}

theorem fo_word_map {f : Addr} {fd : FuncData} (F : Fun K "word_map" "word_map" s_word_map f fd) (hb : Binds K fd ["solid", "word"] []) (hm : mg "word_map" = some (.ref f)) (h_tuple : mg "tuple" = none) (G_behind_table : Fo P w K mg base 1 "behind_table" ["sheet"] (Sp_behind_table )) (G_sides_of : Fo P w K mg base 2 "sides_of" ["sheet"] (Sp_sides_of )) (G_led_side : Fo P w K mg base 1 "led_side" ["behind", "side", "word"] (Sp_led_side )) : Fo P w K mg base 3 "word_map" ["solid", "word"] (Sp_word_map ) := by
  refine fo_pure F sc_word_map hb hm rfl (by decide) (fun _ => rfl) (L := fun e => nomatch e) fun cdv A_ outer_ s_ H_ E_ hr a => ?_
  obtain ⟨solid_45, word_46, _⟩ := a
  have nd := sc_word_map.nd
  refine bx_cons (sn_st 2 nd (pu_callI (m := fun (a : (List (List Int)) × Unit) => f_behind_table a.1) (G_behind_table.mono (k := 2) (by decide)) hr (ag_cons (al (A := (isT (isT isI))) (a := solid_45) 0) ag_nil))) fun behind_47 => ?_
  refine bx_last ?_
  refine sx_ret (A := (isT isI)) (p := (((((some solid_45).bind fun x => (some ()).bind fun y => some (x, y)).bind fun b => f_sides_of b.1).bind fun xs => (compO (fun x_48 => (some true)) (fun x_48 => (((some behind_47).bind fun x => ((some x_48).bind fun x => ((some word_46).bind fun x => (some ()).bind fun y => some (x, y)).bind fun y => some (x, y)).bind fun y => some (x, y)).bind fun b => f_led_side b.1 b.2.1 b.2.2.1)) xs).bind fits).bind fun x => some x)) ?_ (fun a => a) ?_ ?_
  · exact Pu.eq (pu_t1 call_tuple_of c_tupleL (Pu.al (lc [("side", 3)] nd (wa_tup (Pu.al (pu_callI (m := fun (a : (List (List Int)) × Unit) => f_sides_of a.1) (G_sides_of.mono (k := 2) (by decide)) hr (ag_cons (al (A := (isT (isT isI))) (a := solid_45) 0) ag_nil)))) (fun s_ H_ C_ cl_ fp_ => lcg1 3 nd) (tgs_name 3) (fun x_48 s_ H_ C_ cl_ fp_ => tc_nil) (fun x_48 s_ H_ C_ cl_ fp_ => (pu_callI (m := fun (a : (List (Int × Int)) × Int × Str × Unit) => f_led_side a.1 a.2.1 a.2.2.1) (G_led_side.mono (k := 2) (by decide)) hr (ag_cons (av (A := (isD kI isI)) (a := behind_47) 2) (ag_cons (al (A := isI) (a := x_48) 3) (ag_cons (al (A := isS) (a := word_46) 1) ag_nil))))))) h_tuple bt_tuple) rfl
  · exact fun _ => rfl
  · exact fun _ => (.dead (.dead (.dead (.dead .nil))))
end K83
set_option maxHeartbeats 1000000
namespace K83
open PySem PySem.Spec L2 Rf
variable {P : Program} {w : World} {K : PySem.W.Frag} {mg : Str → Option Value} {base : Heap}

theorem fo_first_words (n : Nat) {f : Addr} {fd : FuncData} (F : Fun K "first_words" "first_words" s_first_words f fd) (hb : Binds K fd ["solid", "side"] []) (hm : mg "first_words" = some (.ref f)) (h_sorted : mg "sorted" = none) (G_behind_table : Fo P w K mg base 1 "behind_table" ["sheet"] (Sp_behind_table )) : Fo P w K mg base 2 "first_words" ["solid", "side"] (Sp_first_words n) := by
  refine fo_pure F sc_first_words hb hm rfl (by decide) (fun _ => rfl) (L := fun e => nomatch e) fun cdv A_ outer_ s_ H_ E_ hr a => ?_
  obtain ⟨solid_49, side_50, _⟩ := a
  have nd := sc_first_words.nd
  refine bx_cons (sn_st 2 nd (pu_callI (m := fun (a : (List (List Int)) × Unit) => f_behind_table a.1) (G_behind_table.mono (k := 1) (by decide)) hr (ag_cons (al (A := (isT (isT isI))) (a := solid_49) 0) ag_nil))) fun behind_51 => ?_
  refine bx_cons (sn_st 3 nd (pu_disp1I (al (A := isI) (a := side_50) 1) (pu_str))) fun told_52 => ?_
  refine bx_cons (sn_st 4 nd (pu_lst (A := isI) (ak_cons (Al.pu (A := isI) (al (A := isI) (a := side_50) 1)) ak_nil) (by decide) (akl_cons akl_nil))) fun rank_53 => ?_
  refine bx_cons (Sn.ent (.dead (.dead (.same (.same (.same (.dead (.dead (.dead (.dead (.dead .nil)))))))))) (sn_while (Γ := (fun g_54 : (List (Int × Str)) × (List Int) => [.dead, .dead, .own none ((isD kI isI) behind_51), .own none ((isD kI isS) g_54.1), .own none ((isL isI) g_54.2), .dead, .dead, .dead, .dead, .dead])) (g0 := (told_52, rank_53)) n (fun g_55 => (te_tru t_L (av (A := (isL isI)) (a := g_55.2) 4))) (fun g_56 => ?_))) fun g_57 => ?_
  · refine bn_cons (sn_st 5 nd (pu_dnew kI isS)) fun found_58 => ?_
    refine bn_cons (sn_lend 4 rfl (Sn.ent (.dead (.dead (.same (.same (.same (.same (.dead (.dead (.dead (.dead .nil)))))))))) (sn_fr (fun g_59 : (List (Int × Str)) => [.dead, .dead, .own none ((isD kI isI) behind_51), .own none ((isD kI isS) g_56.1), .lnt ((isL isI) g_56.2), .own none ((isD kI isS) g_59), .dead, .dead, .dead, .dead]) found_58 (wa_list (.dead (.dead (.dead (.dead (.same (.dead (.dead (.dead (.dead (.dead .nil)))))))))) rfl (al (A := (isL isI)) (a := g_56.2) 4)) (tn 6 nd) (fun x_60 g_61 => ?_))) (fun _ => rfl)) fun g_62 => ?_
    · refine bn_cons (Sn.ent (.dead (.dead (.same (.same (.same (.same (.same (.dead (.dead (.dead .nil)))))))))) (sn_fr (fun g_63 : (List (Int × Str)) => [.dead, .dead, .own none ((isD kI isI) behind_51), .own none ((isD kI isS) g_56.1), .lnt ((isL isI) g_56.2), .own none ((isD kI isS) g_63), .lnt (isI x_60), .dead, .dead, .dead]) g_61 (wa_tup (Pu.al (pu_tup (ak_cons (pu_pair (pu_str) (pu_bin op_xor o_int0 (al (A := isI) (a := x_60) 6) (Pu.al (pu_int)))) (ak_cons (pu_pair (pu_str) (Al.pu (A := isI) (al_dget (K := kI) (room1 hr) (av (A := (isD kI isI)) (a := behind_51) 2) (al (A := isI) (a := x_60) 6)))) ak_nil)) (by decide) (akl_cons (akl_cons akl_nil))))) (tg2 7 8 nd) (fun x_64 g_65 => ?_))) fun g_66 => ?_
      · refine bn_cons (sn_st 9 nd (pu_bin op_add_str o_addS (al_dget (K := kI) (room1 hr) (av (A := (isD kI isS)) (a := g_56.1) 3) (al (A := isI) (a := x_60) 6)) (al (A := isS) (a := x_64.1) 7))) fun word_67 => ?_
        refine bn_cons (sn_if (N := (fun b_70 : (List (Int × Str)) => [.dead, .dead, .own none ((isD kI isI) behind_51), .own none ((isD kI isS) g_56.1), .lnt ((isL isI) g_56.2), .own none ((isD kI isS) b_70), .lnt (isI x_60), .dead, .dead, .dead])) (Tw.te (tw_and (te_dnotin (K := kI) (room1 hr) (al (A := isI) (a := x_64.2) 8) (av (A := (isD kI isS)) (a := g_56.1) 3)) (tw_and1 (Tw.te (tw_or (te_dnotin (K := kI) (room1 hr) (al (A := isI) (a := x_64.2) 8) (av (A := (isD kI isS)) (a := g_65) 5)) (tw_or1 (te_cmp op_lt_str o_ltS (av (A := isS) (a := word_67) 9) (al_dget (K := kI) (room1 hr) (av (A := (isD kI isS)) (a := g_65) 5) (al (A := isI) (a := x_64.2) 8))))))))) ?_ ?_) fun b_68 => ?_
        · refine bn_cons (sn_dput (K := kI) 5 rfl (room1 hr) (av (A := isS) (a := word_67) 9) (al (A := isI) (a := x_64.2) 8)) fun found_69 => ?_
          exact bn_nil (.dead (.dead (.same (.same (.same (.same (.same (.dead (.dead (.dead .nil))))))))))
        · exact bn_nil (.dead (.dead (.same (.same (.same (.same (.same (.dead (.dead (.dead .nil))))))))))
        · exact bn_nil (.dead (.dead (.same (.same (.same (.same (.same (.dead (.dead (.dead .nil))))))))))
      · exact bn_nil (.dead (.dead (.same (.same (.same (.same (.dead (.dead (.dead (.dead .nil))))))))))
    · refine bn_cons (sn_update 3 rfl (av (A := (isD kI isS)) (a := g_62) 5)) fun told_71 => ?_
      refine bn_cons (sn_st 4 nd (pu_b1 (Rf.call_sortedDI rfl) c_sortedDI (av (A := (isD kI isS)) (a := g_62) 5) h_sorted bt_sorted)) fun rank_72 => ?_
      exact bn_nil (.dead (.dead (.same (.same (.same (.dead (.dead (.dead (.dead (.dead .nil))))))))))
  · exact bx_last (sx_retMv (A := (isD kI isS)) 3 g_57.1 rfl rfl (.dead (.dead (.dead (.dead (.dead (.dead (.dead (.dead (.dead (.dead .nil)))))))))))
end K83
set_option maxHeartbeats 1000000
namespace K83
open PySem PySem.Spec L2 Rf
variable {P : Program} {w : World} {K : PySem.W.Frag} {mg : Str → Option Value} {base : Heap}

theorem fo_first_word (n : Nat) {f : Addr} {fd : FuncData} (F : Fun K "first_word" "first_word" s_first_word f fd) (hb : Binds K fd ["solid", "one", "other"] []) (hm : mg "first_word" = some (.ref f)) (G_first_words : Fo P w K mg base 2 "first_words" ["solid", "side"] (Sp_first_words n)) : Fo P w K mg base 3 "first_word" ["solid", "one", "other"] (Sp_first_word n) := by
  refine fo_pure F sc_first_word hb hm rfl (by decide) (fun _ => rfl) (L := fun e => nomatch e) fun cdv A_ outer_ s_ H_ E_ hr a => ?_
  obtain ⟨solid_73, one_74, other_75, _⟩ := a
  have nd := sc_first_word.nd
  refine bx_last ?_
  refine sx_ret (A := isS) (p := ((((some solid_73).bind fun x => ((some one_74).bind fun x => (some ()).bind fun y => some (x, y)).bind fun y => some (x, y)).bind fun b => f_first_words n b.1 b.2.1).bind fun d => (some other_75).bind fun k => dget d k)) ?_ (fun a => a) ?_ ?_
  · exact Pu.eq (Al.pu (A := isS) (al_dget (K := kI) (room1 hr) (Pu.al (pu_callI (m := fun (a : (List (List Int)) × Int × Unit) => f_first_words n a.1 a.2.1) (G_first_words.mono (k := 2) (by decide)) hr (ag_cons (al (A := (isT (isT isI))) (a := solid_73) 0) (ag_cons (al (A := isI) (a := one_74) 1) ag_nil)))) (al (A := isI) (a := other_75) 2))) rfl
  · exact fun _ => rfl
  · exact fun _ => (.dead (.dead (.dead .nil)))
end K83
set_option maxHeartbeats 1000000
namespace K83
open PySem PySem.Spec L2 Rf
variable {P : Program} {w : World} {K : PySem.W.Frag} {mg : Str → Option Value} {base : Heap}

theorem fo_word_steps (n : Nat) {f : Addr} {fd : FuncData} (F : Fun K "word_steps" "word_steps" s_word_steps f fd) (hb : Binds K fd ["solid", "side"] []) (hm : mg "word_steps" = some (.ref f)) (h_len : mg "len" = none) (h_tuple : mg "tuple" = none) (G_first_words : Fo P w K mg base 2 "first_words" ["solid", "side"] (Sp_first_words n)) (G_sides_of : Fo P w K mg base 2 "sides_of" ["sheet"] (Sp_sides_of )) : Fo P w K mg base 3 "word_steps" ["solid", "side"] (Sp_word_steps n) := by
  refine fo_pure F sc_word_steps hb hm rfl (by decide) (fun _ => rfl) (L := fun e => nomatch e) fun cdv A_ outer_ s_ H_ E_ hr a => ?_
  obtain ⟨solid_76, side_77, _⟩ := a
  have nd := sc_word_steps.nd
  refine bx_cons (sn_st 2 nd (pu_callI (m := fun (a : (List (List Int)) × Int × Unit) => f_first_words n a.1 a.2.1) (G_first_words.mono (k := 2) (by decide)) hr (ag_cons (al (A := (isT (isT isI))) (a := solid_76) 0) (ag_cons (al (A := isI) (a := side_77) 1) ag_nil)))) fun found_78 => ?_
  refine bx_last ?_
  refine sx_ret (A := (isT isI)) (p := (((((some solid_76).bind fun x => (some ()).bind fun y => some (x, y)).bind fun b => f_sides_of b.1).bind fun xs => (compO (fun x_79 => (some true)) (fun x_79 => (((some found_78).bind fun d => (some x_79).bind fun k => dget d k).bind fun x => slen x)) xs).bind fits).bind fun x => some x)) ?_ (fun a => a) ?_ ?_
  · exact Pu.eq (pu_t1 call_tuple_of c_tupleL (Pu.al (lc [("other", 3)] nd (wa_tup (Pu.al (pu_callI (m := fun (a : (List (List Int)) × Unit) => f_sides_of a.1) (G_sides_of.mono (k := 2) (by decide)) hr (ag_cons (al (A := (isT (isT isI))) (a := solid_76) 0) ag_nil)))) (fun s_ H_ C_ cl_ fp_ => lcg1 3 nd) (tgs_name 3) (fun x_79 s_ H_ C_ cl_ fp_ => tc_nil) (fun x_79 s_ H_ C_ cl_ fp_ => (pu_b1 call_len c_lenS (al_dget (K := kI) (room1 hr) (av (A := (isD kI isS)) (a := found_78) 2) (al (A := isI) (a := x_79) 3)) h_len bt_len)))) h_tuple bt_tuple) rfl
  · exact fun _ => rfl
  · exact fun _ => (.dead (.dead (.dead (.dead .nil))))
end K83
set_option maxHeartbeats 1000000
namespace K83
open PySem PySem.Spec L2 Rf
variable {P : Program} {w : World} {K : PySem.W.Frag} {mg : Str → Option Value} {base : Heap}

theorem fo_are_like_words {f : Addr} {fd : FuncData} (F : Fun K "are_like_words" "are_like_words" s_are_like_words f fd) (hb : Binds K fd ["solid", "one", "other"] []) (hm : mg "are_like_words" = some (.ref f)) (G_word_map : Fo P w K mg base 3 "word_map" ["solid", "word"] (Sp_word_map )) : Fo P w K mg base 4 "are_like_words" ["solid", "one", "other"] (Sp_are_like_words ) := by
  refine fo_pure F sc_are_like_words hb hm rfl (by decide) (fun _ => rfl) (L := fun e => nomatch e) fun cdv A_ outer_ s_ H_ E_ hr a => ?_
  obtain ⟨solid_80, one_81, other_82, _⟩ := a
  have nd := sc_are_like_words.nd
  refine bx_last ?_
  refine sx_ret (A := isB) (p := ((((some solid_80).bind fun x => ((some one_81).bind fun x => (some ()).bind fun y => some (x, y)).bind fun y => some (x, y)).bind fun b => f_word_map b.1 b.2.1).bind fun x => (((some solid_80).bind fun x => ((some other_82).bind fun x => (some ()).bind fun y => some (x, y)).bind fun y => some (x, y)).bind fun b => f_word_map b.1 b.2.1).bind fun y => some (decide (x = y)))) ?_ (fun a => a) ?_ ?_
  · exact Pu.eq (pu_cmp (op_eqD hr.units) (o_eqD (by decide)) (Pu.al (pu_callI (m := fun (a : (List (List Int)) × Str × Unit) => f_word_map a.1 a.2.1) (G_word_map.mono (k := 3) (by decide)) hr (ag_cons (al (A := (isT (isT isI))) (a := solid_80) 0) (ag_cons (al (A := isS) (a := one_81) 1) ag_nil)))) (Pu.al (pu_callI (m := fun (a : (List (List Int)) × Str × Unit) => f_word_map a.1 a.2.1) (G_word_map.mono (k := 3) (by decide)) hr (ag_cons (al (A := (isT (isT isI))) (a := solid_80) 0) (ag_cons (al (A := isS) (a := other_82) 2) ag_nil))))) rfl
  · exact fun _ => rfl
  · exact fun _ => (.dead (.dead (.dead .nil)))
end K83
set_option maxHeartbeats 1000000
namespace K83
open PySem PySem.Spec L2 Rf
variable {P : Program} {w : World} {K : PySem.W.Frag} {mg : Str → Option Value} {base : Heap}

theorem fo_plain_word {f : Addr} {fd : FuncData} (F : Fun K "plain_word" "plain_word" s_plain_word f fd) (hb : Binds K fd ["word"] []) (hm : mg "plain_word" = some (.ref f)) : Fo P w K mg base 1 "plain_word" ["word"] (Sp_plain_word ) := by
  refine fo_pure F sc_plain_word hb hm rfl (by decide) (fun _ => rfl) (L := fun e => nomatch e) fun cdv A_ outer_ s_ H_ E_ hr a => ?_
  obtain ⟨word_83, _⟩ := a
  have nd := sc_plain_word.nd
  refine bx_cons (sn_st 1 nd (pu_lst (A := isS) ak_nil (by decide) akl_nil)) fun told_84 => ?_
  refine bx_cons (Sn.ent (.same (.same (.dead .nil))) (sn_fr (fun g_85 : (List Str) => [.lnt (isS word_83), .own none ((isL isS) g_85), .dead]) told_84 (wa_str (al (A := isS) (a := word_83) 0)) (tn 2 nd) (fun x_86 g_87 => ?_))) fun g_88 => ?_
  · refine bn_cons (sn_if (N := (fun b_102 : (List Str) => [.lnt (isS word_83), .own none ((isL isS) b_102), .dead])) (Tw.te (tw_and (te_cmp op_eq o_eqS (al (A := isS) (a := x_86) 2) (Pu.al (pu_str))) (tw_and (te_tru t_L (av (A := (isL isS)) (a := g_87) 1)) (tw_and1 (te_cmp op_eq o_eqS (al_ix ix_list (o_ixL (A := isS)) (av (A := (isL isS)) (a := g_87) 1) (Pu.al (pu_un un_neg o_neg (Pu.al (pu_int))))) (Pu.al (pu_str))))))) ?_ ?_) fun b_89 => ?_
    · refine bn_cons (Sn.ent (.same (.same (.same .nil))) (sn_exprE (Γ := (fun s_94 : (List Str) => [.lnt (isS word_83), .own none ((isL isS) s_94), .lnt (isS x_86)])) (s0 := g_87) (A := isS) (m := ((lpop g_87 ()).bind fun z => some (z.1, z.2))) (Ef.eq (ef_meth0 (i := 1) (C := (isL isS)) (f := lpop) (get := fun s_91 => s_91) (put := fun s_91 c_92 => c_92) ⟨fun _ => ⟨_, rfl, fun _ => rfl⟩⟩ PySem.F.plainAttrs_list PySem.F.slot_list_pop PySem.F.type_list_pop mt_pop mo_pop ty_L) rfl))) fun s_93 => ?_
      exact bn_nil (.same (.same (.dead .nil)))
    · refine bn_cons (Sn.ent (.same (.same (.same .nil))) (sn_exprE (Γ := (fun s_99 : (List Str) => [.lnt (isS word_83), .own none ((isL isS) s_99), .lnt (isS x_86)])) (s0 := g_87) (A := isN) (m := ((((some x_86).bind fun x => (some ()).bind fun y => some (x, y)).bind fun a => some (a, g_87)).bind fun b_100 => (lapp b_100.2 b_100.1).bind fun z => some (z.1, z.2))) (Ef.eq (ef_meth (i := 1) (C := (isL isS)) (f := lapp) (get := fun s_96 => s_96) (put := fun s_96 c_97 => c_97) ⟨fun _ => ⟨_, rfl, fun _ => rfl⟩⟩ PySem.F.plainAttrs_list PySem.F.slot_list_append PySem.F.type_list_append mt_append mo_append ty_L (ae_pu (ah_cons (Al.pu (A := isS) (al (A := isS) (a := x_86) 2)) ah_nil))) rfl))) fun s_98 => ?_
      exact bn_nil (.same (.same (.dead .nil)))
    · exact bn_nil (.same (.same (.dead .nil)))
  · refine bx_last ?_
    refine sx_ret (A := isS) (p := ((some g_88).bind fun ys => sjoin "" ys)) ?_ (fun a => a) ?_ ?_
    · exact Pu.eq (pu_join (av (A := (isL isS)) (a := g_88) 1)) rfl
    · exact fun _ => rfl
    · exact fun _ => (.dead (.dead (.dead .nil)))
end K83
set_option maxHeartbeats 1000000
namespace K83
open PySem PySem.Spec L2 Rf
variable {P : Program} {w : World} {K : PySem.W.Frag} {mg : Str → Option Value} {base : Heap}

theorem fo_word_back {f : Addr} {fd : FuncData} (F : Fun K "word_back" "word_back" s_word_back f fd) (hb : Binds K fd ["solid", "word"] []) (hm : mg "word_back" = some (.ref f)) (G_least_of_sizes : Fo P w K mg base 2 "least_of_sizes" ["sheet"] (Sp_least_of_sizes )) : Fo P w K mg base 3 "word_back" ["solid", "word"] (Sp_word_back ) := by
  refine fo_pure F sc_word_back hb hm rfl (by decide) (fun _ => rfl) (L := fun e => nomatch e) fun cdv A_ outer_ s_ H_ E_ hr a => ?_
  obtain ⟨solid_103, word_104, _⟩ := a
  have nd := sc_word_back.nd
  refine bx_cons (sn_st 2 nd (pu_bin op_mulS o_mulS (Pu.al (pu_str)) (Pu.al (pu_bin op_sub o_int0 (Pu.al (pu_callI (m := fun (a : (List (List Int)) × Unit) => f_least_of_sizes a.1) (G_least_of_sizes.mono (k := 2) (by decide)) hr (ag_cons (al (A := (isT (isT isI))) (a := solid_103) 0) ag_nil))) (Pu.al (pu_int)))))) fun back_105 => ?_
  refine bx_last ?_
  refine sx_ret (A := isS) (p := (((((some word_104).bind srev).map fun x => x.cps.toList.map fun c => (⟨#[c]⟩ : Str)).bind fun xs => (compO (fun x_106 => (some true)) (fun x_106 => (((some x_106).bind fun x => (some ("r" : Str)).bind fun y => some (decide (x = y))).bind fun d => if d = true then (some ("r" : Str)) else (some back_105))) xs).bind fits).bind fun ys => sjoin "" ys)) ?_ (fun a => a) ?_ ?_
  · exact Pu.eq (pu_join (Pu.al (lc [("letter", 3)] nd (wa_str (Pu.al (pu_revS (al (A := isS) (a := word_104) 1)))) (fun s_ H_ C_ cl_ fp_ => lcg1 3 nd) (tgs_name 3) (fun x_106 s_ H_ C_ cl_ fp_ => tc_nil) (fun x_106 s_ H_ C_ cl_ fp_ => (pu_if (te_cmp op_eq o_eqS (al (A := isS) (a := x_106) 3) (Pu.al (pu_str))) (pu_str) (Al.pu (A := isS) (av (A := isS) (a := back_105) 2))))))) rfl
  · exact fun _ => rfl
  · exact fun _ => (.dead (.dead (.dead (.dead .nil))))
end K83
set_option maxHeartbeats 1000000
namespace K83
open PySem PySem.Spec L2 Rf
variable {P : Program} {w : World} {K : PySem.W.Frag} {mg : Str → Option Value} {base : Heap}

theorem fo__law_cup {f : Addr} {fd : FuncData} (F : Fun K "_law_cup" "_law_cup" s__law_cup f fd) (hb : Binds K fd ["script"] []) (hm : mg "_law_cup" = some (.ref f)) (h_abs : mg "abs" = none) (h_int : mg "int" = none) (h_len : mg "len" = none) (h_min : mg "min" = none) (h_range : mg "range" = none) : Fo P w K mg base 1 "_law_cup" ["script"] (Sp__law_cup K ) := by
  refine fo_pure F sc__law_cup hb hm rfl (by decide) (fun _ => rfl) (L := fun e => nomatch e) fun cdv A_ outer_ s_ H_ E_ hr a => ?_
  obtain ⟨script_107, _⟩ := a
  have nd := sc__law_cup.nd
  refine bx_cons (sn_st 1 nd (pu_lst (A := isI) ak_nil (by decide) akl_nil)) fun great_108 => ?_
  refine bx_cons (sn_st 2 nd (pu_int)) fun mixed_109 => ?_
  refine bx_cons (Sn.ent (.same (.same (.same (.dead (.dead .nil))))) (sn_fr (fun g_110 : (List Int) × Int => [.lnt ((isScr K) script_107), .own none ((isL isI) g_110.1), .own none (isI g_110.2), .dead, .dead]) (great_108, mixed_109) (wa_rng1 (Pu.al (pu_b2 (call_min2 rfl) c_min2 (Pu.al (pu_b1 call_len c_lenScr (al (A := (isScr K)) (a := script_107) 0) h_len bt_len)) (Pu.al (pu_int)) h_min bt_min)) h_range) (tn 3 nd) (fun x_111 g_112 => ?_))) fun g_113 => ?_
  · refine bn_cons (sn_st 4 nd (pu_b1 call_abs c_abs (Pu.al (pu_t1 call_int1 c_int (al_ix ix_list o_ixScr (al (A := (isScr K)) (a := script_107) 0) (al (A := isI) (a := x_111) 3)) h_int bt_int)) h_abs bt_abs)) fun cell_114 => ?_
    refine bn_cons (sn_st 2 nd (pu_bin op_mod o_mod (Pu.al (pu_t1 call_int1 c_int (Pu.al (pu_bin op_add o_int0 (Pu.al (pu_bin op_add o_int0 (Pu.al (pu_bin op_mulW o_mulW (av (A := isI) (a := g_112.2) 2) (Pu.al (pu_int)))) (Pu.al (pu_bin op_mulW o_mulW (Pu.al (pu_bin op_mod o_mod (av (A := isI) (a := cell_114) 4) (Pu.al (pu_int)))) (Pu.al (pu_int)))))) (Pu.al (pu_bin op_mulW o_mulW (Pu.al (pu_int)) (al (A := isI) (a := x_111) 3))))) h_int bt_int)) (Pu.al (pu_int)))) fun mixed_115 => ?_
    refine bn_cons (sn_if (N := (fun b_124 : (List Int) => [.lnt ((isScr K) script_107), .own none ((isL isI) b_124), .own none (isI mixed_115), .dead, .dead])) (te_cmp op_ge (o_intB (g := fun x y => decide (y ≤ x))) (av (A := isI) (a := cell_114) 4) (Pu.al (pu_bin op_pow o_pow (Pu.al (pu_int)) (Pu.al (pu_int))))) ?_ ?_) fun b_116 => ?_
    · refine bn_cons (Sn.ent (.same (.same (.same (.same (.same .nil))))) (sn_exprE (Γ := (fun s_121 : (List Int) => [.lnt ((isScr K) script_107), .own none ((isL isI) s_121), .own none (isI mixed_115), .lnt (isI x_111), .own none (isI cell_114)])) (s0 := g_112.1) (A := isN) (m := (((((some cell_114).bind fun x => (((((some (10 : Int)).bind fun x => (some (60 : Int)).bind fun y => ppow x y).bind fun x => ((some (10 : Int)).bind fun x => (some (60 : Int)).bind fun y => ppow x y).bind fun y => pmulW x y).bind fun x => ((some (10 : Int)).bind fun x => (some (60 : Int)).bind fun y => ppow x y).bind fun y => pmulW x y).bind fun x => ((some (10 : Int)).bind fun x => (some (60 : Int)).bind fun y => ppow x y).bind fun y => pmulW x y).bind fun y => pmod x y).bind fun x => (some ()).bind fun y => some (x, y)).bind fun a => some (a, g_112.1)).bind fun b_122 => (lapp b_122.2 b_122.1).bind fun z => some (z.1, z.2))) (Ef.eq (ef_meth (i := 1) (C := (isL isI)) (f := lapp) (get := fun s_118 => s_118) (put := fun s_118 c_119 => c_119) ⟨fun _ => ⟨_, rfl, fun _ => rfl⟩⟩ PySem.F.plainAttrs_list PySem.F.slot_list_append PySem.F.type_list_append mt_append mo_append ty_L (ae_pu (ah_cons (pu_bin op_mod o_mod (av (A := isI) (a := cell_114) 4) (Pu.al (pu_bin op_mulW o_mulW (Pu.al (pu_bin op_mulW o_mulW (Pu.al (pu_bin op_mulW o_mulW (Pu.al (pu_bin op_pow o_pow (Pu.al (pu_int)) (Pu.al (pu_int)))) (Pu.al (pu_bin op_pow o_pow (Pu.al (pu_int)) (Pu.al (pu_int)))))) (Pu.al (pu_bin op_pow o_pow (Pu.al (pu_int)) (Pu.al (pu_int)))))) (Pu.al (pu_bin op_pow o_pow (Pu.al (pu_int)) (Pu.al (pu_int))))))) ah_nil))) rfl))) fun s_120 => ?_
      exact bn_nil (.same (.same (.same (.dead (.dead .nil)))))
    · exact bn_nil (.same (.same (.same (.dead (.dead .nil)))))
    · exact bn_nil (.same (.same (.same (.dead (.dead .nil)))))
  · exact bx_last (sx_retCup 1 (fun a => a) rfl (Pu.al (pu_bin op_add o_int0 (av (A := isI) (a := g_113.2) 2) (Pu.al (pu_int)))) (fun _ => rfl) (fun _ => (.dead (.dead (.dead (.dead (.dead .nil)))))))
end K83
set_option maxHeartbeats 1000000
namespace K83
open PySem PySem.Spec L2 Rf
variable {P : Program} {w : World} {K : PySem.W.Frag} {mg : Str → Option Value} {base : Heap}

theorem fo__law_sip (n : Nat) {f : Addr} {fd : FuncData} (F : Fun K "_law_sip" "_law_sip" s__law_sip f fd) (hb : Binds K fd ["cup", "many"] []) (hm : mg "_law_sip" = some (.ref f)) (h_int : mg "int" = none) (h_len : mg "len" = none) : Fo P w K mg base 1 "_law_sip" ["cup", "many"] (Sp__law_sip n) := by
  refine fo_mut F sc__law_sip hb hm rfl (by decide) (fun _ => rfl) (L := fun e => nomatch e) fun cdv A_ outer_ s_ H_ E_ hr v0 c a => ?_
  obtain ⟨many_126, _⟩ := a
  revert c; intro cup_125
  have nd := sc__law_sip.nd
  refine bx_cons (Sn.ent (.same (.same (.dead .nil))) (sn_while (Γ := (fun g_127 : Cup => [.own (some v0) (isCup g_127), .lnt (isI many_126), .dead])) (g0 := cup_125) n (fun g_128 => (Tw.te (tw_and (te_cmp op_gt (o_intB (g := fun x y => decide (y < x))) (Pu.al (pu_b1 call_len (c_lenL (A := isI)) (al_ix ix_list o_cup0 (av (A := isCup) (a := g_128) 0) (Pu.al (pu_int))) h_len bt_len)) (Pu.al (pu_int))) (tw_and1 (te_cmp op_eq o_eqI (al_ix ix_list (o_ixL (A := isI)) (al_ix ix_list o_cup0 (av (A := isCup) (a := g_128) 0) (Pu.al (pu_int))) (Pu.al (pu_int))) (Pu.al (pu_int))))))) (fun g_129 => ?_))) fun g_130 => ?_
  · refine bn_cons (sn_cpop 0 rfl) fun cup_131 => ?_
    exact bn_nil (.same (.same (.dead .nil)))
  · refine bx_consx (sx_if (N := (fun b_135 : Cup => [.own (some v0) (isCup b_135), .lnt (isI many_126), .dead])) (te_cmp op_gt (o_intB (g := fun x y => decide (y < x))) (Pu.al (pu_b1 call_len (c_lenL (A := isI)) (al_ix ix_list o_cup0 (av (A := isCup) (a := g_130) 0) (Pu.al (pu_int))) h_len bt_len)) (Pu.al (pu_int))) ?_ ?_) fun b_132 => ?_
    · refine bx_cons (sn_st 2 nd (pu_t1 call_int1 c_int (al_ix ix_list (o_ixL (A := isI)) (al_ix ix_list o_cup0 (av (A := isCup) (a := g_130) 0) (Pu.al (pu_int))) (Pu.al (pu_int))) h_int bt_int)) fun cell_133 => ?_
      refine bx_cons (sn_cset 0 rfl (Pu.al (pu_bin op_fdiv o_div (av (A := isI) (a := cell_133) 2) (al (A := isI) (a := many_126) 1)))) fun cup_134 => ?_
      refine bx_last ?_
      refine sx_ret (A := isI) (p := ((some cell_133).bind fun x => (some many_126).bind fun y => pmod x y)) ?_ (fun a : Int => ((a, cup_134) : (Int × Cup))) ?_ ?_
      · exact Pu.eq (pu_bin op_mod o_mod (av (A := isI) (a := cell_133) 2) (al (A := isI) (a := many_126) 1)) rfl
      · exact fun _ => rfl
      · exact fun _ => (.same (.dead (.dead .nil)))
    · exact bx_nil (.same (.same (.dead .nil)))
    · refine bx_cons (sn_cset1 0 rfl (Pu.al (pu_bin op_mod o_mod (Pu.al (pu_t1 call_int1 c_int (Pu.al (pu_bin op_add o_int0 (Pu.al (pu_bin op_mul o_mul (al_ix ix_list o_cup1 (av (A := isCup) (a := b_132) 0) (Pu.al (pu_int))) (Pu.al (pu_int)))) (Pu.al (pu_int)))) h_int bt_int)) (Pu.al (pu_int))))) fun cup_136 => ?_
      refine bx_last ?_
      refine sx_ret (A := isI) (p := (((((some cup_136).bind fun x => (some (1 : Int)).bind fun y => (if y = 1 then some x.2 else none)).bind fun x => (some (227 : Int)).bind fun y => pdiv x y).bind fun x => some x).bind fun x => (some many_126).bind fun y => pmod x y)) ?_ (fun a : Int => ((a, cup_136) : (Int × Cup))) ?_ ?_
      · exact Pu.eq (pu_bin op_mod o_mod (Pu.al (pu_t1 call_int1 c_int (Pu.al (pu_bin op_fdiv o_div (al_ix ix_list o_cup1 (av (A := isCup) (a := cup_136) 0) (Pu.al (pu_int))) (Pu.al (pu_int)))) h_int bt_int)) (al (A := isI) (a := many_126) 1)) rfl
      · exact fun _ => rfl
      · exact fun _ => (.same (.dead (.dead .nil)))
end K83
set_option maxHeartbeats 1000000
namespace K83
open PySem PySem.Spec L2 Rf
variable {P : Program} {w : World} {K : PySem.W.Frag} {mg : Str → Option Value} {base : Heap}

theorem fo__law_mixed (α : Type) (A : α → Ass) [Imm A] (n : Nat) {f : Addr} {fd : FuncData} (F : Fun K "_law_mixed" "_law_mixed" s__law_mixed f fd) (hb : Binds K fd ["cup", "things"] []) (hm : mg "_law_mixed" = some (.ref f)) (h_len : mg "len" = none) (h_list : mg "list" = none) (G__law_sip : Fo P w K mg base 1 "_law_sip" ["cup", "many"] (Sp__law_sip n)) : Fo P w K mg base 2 "_law_mixed" ["cup", "things"] (Sp__law_mixed A n) := by
  refine fo_mut F sc__law_mixed hb hm rfl (by decide) (fun _ => rfl) (L := fun e => nomatch e) fun cdv A_ outer_ s_ H_ E_ hr v0 c a => ?_
  obtain ⟨things_138, _⟩ := a
  revert c; intro cup_137
  have nd := sc__law_mixed.nd
  refine bx_cons (sn_st 2 nd (pu_t1 call_list_of c_listL (al (A := (isL A)) (a := things_138) 1) h_list bt_list)) fun left_139 => ?_
  refine bx_cons (sn_st 3 nd (pu_lst (A := A) ak_nil (by decide) akl_nil)) fun out_140 => ?_
  refine bx_cons (Sn.ent (.same (.dead (.same (.same .nil)))) (sn_while (Γ := (fun g_141 : Cup × (List α) × (List α) => [.own (some v0) (isCup g_141.1), .dead, .own none ((isL A) g_141.2.1), .own none ((isL A) g_141.2.2)])) (g0 := (cup_137, left_139, out_140)) n (fun g_142 => (te_cmp op_gt (o_intB (g := fun x y => decide (y < x))) (Pu.al (pu_b1 call_len (c_lenL (A := A)) (av (A := (isL A)) (a := g_142.2.1) 2) h_len bt_len)) (Pu.al (pu_int)))) (fun g_143 => ?_))) fun g_144 => ?_
  · refine bn_cons (Sn.ent (.same (.dead (.same (.same .nil)))) (sn_exprE (Γ := (fun s_153 : Cup × (List α) × (List α) => [.own (some v0) (isCup s_153.1), .dead, .own none ((isL A) s_153.2.1), .own none ((isL A) s_153.2.2)])) (s0 := (g_143.1, g_143.2.1, g_143.2.2)) (A := isN) (m := ((((((((some (g_143.1, g_143.2.1, g_143.2.2).2.1).bind fun x => some (x.length : Int)).bind fun x => (some ()).bind fun y => some (x, y)).bind fun b_158 => (f__law_sip n (g_143.1, g_143.2.1, g_143.2.2).1 b_158.1).bind fun r => some (r.1, (r.2, (g_143.1, g_143.2.1, g_143.2.2).2.1, (g_143.1, g_143.2.1, g_143.2.2).2.2))).bind fun a_157 => (some ((), a_157.2)).bind fun b => some ((a_157.1, b.1), b.2)).bind fun b_156 => (lpopAt b_156.2.2.1 b_156.1).bind fun z => some (z.1, (b_156.2.1, z.2, b_156.2.2.2))).bind fun a_155 => (some ((), a_155.2)).bind fun b => some ((a_155.1, b.1), b.2)).bind fun b_154 => (lapp b_154.2.2.2 b_154.1).bind fun z => some (z.1, (b_154.2.1, b_154.2.2.1, z.2)))) (Ef.eq (ef_meth (i := 3) (C := (isL A)) (f := lapp) (get := fun s_146 => s_146.2.2) (put := fun s_146 c_147 => (s_146.1, s_146.2.1, c_147)) ⟨fun _ => ⟨_, rfl, fun _ => rfl⟩⟩ PySem.F.plainAttrs_list PySem.F.slot_list_append PySem.F.type_list_append mt_append mo_append ty_L (ae_cons (ef_meth (i := 2) (C := (isL A)) (f := lpopAt) (get := fun s_148 => s_148.2.1) (put := fun s_148 c_149 => (s_148.1, c_149, s_148.2.2)) ⟨fun _ => ⟨_, rfl, fun _ => rfl⟩⟩ PySem.F.plainAttrs_list PySem.F.slot_list_pop PySem.F.type_list_pop mt_popAt mo_popAt ty_L (ae_cons (ef_callMI (i := 0) (m := fun (c : Cup) (a : Int × Unit) => f__law_sip n c a.1) (As := fun (a : Int × Unit) => [isI a.1]) (get := fun s_150 => s_150.1) (put := fun s_150 c_151 => (c_151, s_150.2.1, s_150.2.2)) ⟨fun _ => ⟨_, rfl, fun _ => rfl⟩⟩ (G__law_sip.mono (k := 1) (by decide)) hr (ag_cons (Pu.al (pu_b1 call_len (c_lenL (A := A)) (av (A := (isL A)) 2) h_len bt_len)) ag_nil)) fun _ _ => ae_nil)) fun _ _ => ae_nil)) rfl))) fun s_152 => ?_
    exact bn_nil (.same (.dead (.same (.same .nil))))
  · exact bx_last (sx_retMv (A := (isL A)) 3 (g_144.2.2, g_144.1) rfl rfl (.same (.dead (.dead (.dead .nil)))))
end K83
set_option maxHeartbeats 1000000
namespace K83
open PySem PySem.Spec L2 Rf
variable {P : Program} {w : World} {K : PySem.W.Frag} {mg : Str → Option Value} {base : Heap}

theorem fo__law_ordered {f : Addr} {fd : FuncData} (F : Fun K "_law_ordered" "_law_ordered" s__law_ordered f fd) (hb : Binds K fd ["faces"] []) (hm : mg "_law_ordered" = some (.ref f)) (h_min : mg "min" = none) (h_sorted : mg "sorted" = none) (h_tuple : mg "tuple" = none) : Fo P w K mg base 1 "_law_ordered" ["faces"] (Sp__law_ordered ) := by
  refine fo_pure F sc__law_ordered hb hm rfl (by decide) (fun _ => rfl) (L := fun e => nomatch e) fun cdv A_ outer_ s_ H_ E_ hr a => ?_
  obtain ⟨faces_164, _⟩ := a
  have nd := sc__law_ordered.nd
  refine bx_cons (sn_st 1 nd (pu_lst (A := (isT isI)) ak_nil (by decide) akl_nil)) fun told_165 => ?_
  refine bx_cons (Sn.ent (.same (.same (.dead (.dead .nil)))) (sn_fr (fun g_166 : (List (List Int)) => [.lnt ((isL (isL isI)) faces_164), .own none ((isL (isT isI)) g_166), .dead, .dead]) told_165 (wa_list (.same (.dead (.dead (.dead .nil)))) rfl (al (A := (isL (isL isI))) (a := faces_164) 0)) (tn 2 nd) (fun x_167 g_168 => ?_))) fun g_169 => ?_
  · refine bn_cons (sn_st 3 nd (pu_index (al (A := (isL isI)) (a := x_167) 2) (Pu.al (pu_b1 (cr_min rfl) c_minL (al (A := (isL isI)) (a := x_167) 2) h_min bt_min)))) fun at_170 => ?_
    refine bn_cons (Sn.ent (.same (.same (.same (.same .nil)))) (sn_exprE (Γ := (fun s_175 : (List (List Int)) => [.lnt ((isL (isL isI)) faces_164), .own none ((isL (isT isI)) s_175), .lnt ((isL isI) x_167), .own none (isI at_170)])) (s0 := g_168) (A := isN) (m := (((((((some x_167).bind fun x => ((some at_170).map some).bind fun a => (some none).bind fun b => some (cutL x a b)).bind fun x => ((some x_167).bind fun x => (some none).bind fun a => ((some at_170).map some).bind fun b => some (cutL x a b)).bind fun y => lcat x y).bind fun x => some x).bind fun x => (some ()).bind fun y => some (x, y)).bind fun a => some (a, g_168)).bind fun b_176 => (lapp b_176.2 b_176.1).bind fun z => some (z.1, z.2))) (Ef.eq (ef_meth (i := 1) (C := (isL (isT isI))) (f := lapp) (get := fun s_172 => s_172) (put := fun s_172 c_173 => c_173) ⟨fun _ => ⟨_, rfl, fun _ => rfl⟩⟩ PySem.F.plainAttrs_list PySem.F.slot_list_append PySem.F.type_list_append mt_append mo_append ty_L (ae_pu (ah_cons (pu_t1 call_tuple_of c_tupleL (Pu.al (pu_bin op_cat o_catL (Pu.al (pu_sl sl_list s_list (al (A := (isL isI)) (a := x_167) 2) (so_some (av (A := isI) (a := at_170) 3)) so_none)) (Pu.al (pu_sl sl_list s_list (al (A := (isL isI)) (a := x_167) 2) so_none (so_some (av (A := isI) (a := at_170) 3)))))) h_tuple bt_tuple) ah_nil))) rfl))) fun s_174 => ?_
    exact bn_nil (.same (.same (.dead (.dead .nil))))
  · refine bx_last ?_
    refine sx_ret (A := (isT (isT isI))) (p := (((some g_169).bind fun x => tsort (A := isI) x).bind fun x => some x)) ?_ (fun a => a) ?_ ?_
    · exact Pu.eq (pu_t1 call_tuple_of c_tupleL (Pu.al (pu_b1 (call_sortedE (A := (isT isI)) (by decide) hr.units) (c_sortedT (A := isI)) (av (A := (isL (isT isI))) (a := g_169) 1) h_sorted bt_sorted)) h_tuple bt_tuple) rfl
    · exact fun _ => rfl
    · exact fun _ => (.dead (.dead (.dead (.dead .nil))))
end K83
set_option maxHeartbeats 1000000
namespace K83
open PySem PySem.Spec L2 Rf
variable {P : Program} {w : World} {K : PySem.W.Frag} {mg : Str → Option Value} {base : Heap}

theorem fo__law_glue (n : Nat) {f : Addr} {fd : FuncData} (F : Fun K "_law_glue" "_law_glue" s__law_glue f fd) (hb : Binds K fd ["cup", "sizes", "rims"] []) (hm : mg "_law_glue" = some (.ref f)) (h_int : mg "int" = none) (h_len : mg "len" = none) (h_list : mg "list" = none) (h_min : mg "min" = none) (h_range : mg "range" = none) (h_sum : mg "sum" = none) (G__law_mixed : ∀ (α : Type) (A : α → Ass) [Imm A], Fo P w K mg base 2 "_law_mixed" ["cup", "things"] (Sp__law_mixed A n)) (G__law_sip : Fo P w K mg base 1 "_law_sip" ["cup", "many"] (Sp__law_sip n)) (G__law_ordered : Fo P w K mg base 1 "_law_ordered" ["faces"] (Sp__law_ordered )) : Fo P w K mg base 3 "_law_glue" ["cup", "sizes", "rims"] (Sp__law_glue n) := by
  refine fo_mut F sc__law_glue hb hm rfl (by decide) (fun _ => rfl) (L := fun e => nomatch e) fun cdv A_ outer_ s_ H_ E_ hr v0 c a => ?_
  obtain ⟨sizes_179, rims_180, _⟩ := a
  revert c; intro cup_178
  have nd := sc__law_glue.nd
  refine Bx.imm (A := isI) 2 rfl ?_
  refine bx_cons (sn_st 1 nd (pu_t1 call_list_of c_listL (al (A := (isL isI)) (a := sizes_179) 1) h_list bt_list)) fun sizes_181 => ?_
  refine bx_cons (sn_if (N := (fun b_184 : (List Int) => [.own (some v0) (isCup cup_178), .own none ((isL isI) b_184), .own none (isI rims_180), .dead, .dead, .dead, .dead, .dead, .dead, .dead, .dead])) (te_cmp op_eq o_eqI (Pu.al (pu_bin op_mod o_mod (Pu.al (pu_t1 call_int1 c_int (Pu.al (pu_bin op_sub o_int0 (Pu.al (pu_b1 (cr_sum rfl) c_sumL (av (A := (isL isI)) (a := sizes_181) 1) h_sum bt_sum)) (av (A := isI) (a := rims_180) 2))) h_int bt_int)) (Pu.al (pu_int)))) (Pu.al (pu_int))) ?_ ?_) fun b_182 => ?_
  · refine bn_cons (sn_augL 1 rfl (Pu.al (pu_un un_neg o_neg (Pu.al (pu_int)))) (Pu.al (pu_int))) fun sizes_183 => ?_
    exact bn_nil (.same (.same (.same (.dead (.dead (.dead (.dead (.dead (.dead (.dead (.dead .nil)))))))))))
  · exact bn_nil (.same (.same (.same (.dead (.dead (.dead (.dead (.dead (.dead (.dead (.dead .nil)))))))))))
  · refine bx_cons (sn_st 3 nd (pu_lst (A := (isP isI isI)) ak_nil (by decide) akl_nil)) fun free_185 => ?_
    refine bx_cons (sn_st 4 nd (pu_lst (A := (isP (isP isI isI) (isP isI isI))) ak_nil (by decide) akl_nil)) fun pairs_186 => ?_
    refine bx_cons (Sn.ent (.same (.same (.same (.same (.same (.dead (.dead (.dead (.dead (.dead (.dead .nil))))))))))) (sn_fr (fun g_187 : Cup × (List (Int × Int)) × (List ((Int × Int) × (Int × Int))) => [.own (some v0) (isCup g_187.1), .own none ((isL isI) b_182), .own none (isI rims_180), .own none ((isL (isP isI isI)) g_187.2.1), .own none ((isL (isP (isP isI isI) (isP isI isI))) g_187.2.2), .dead, .dead, .dead, .dead, .dead, .dead]) (cup_178, free_185, pairs_186) (wa_rng1 (Pu.al (pu_b1 call_len (c_lenL (A := isI)) (av (A := (isL isI)) (a := b_182) 1) h_len bt_len)) h_range) (tn 5 nd) (fun x_188 g_189 => ?_))) fun g_190 => ?_
    · refine bn_cons (Sn.ent (.same (.same (.same (.same (.same (.same (.dead (.dead (.dead (.dead (.dead .nil))))))))))) (sn_stE 6 (Γ := (fun s_195 : Cup => [.own (some v0) (isCup s_195), .own none ((isL isI) b_182), .own none (isI rims_180), .own none ((isL (isP isI isI)) g_189.2.1), .own none ((isL (isP (isP isI isI) (isP isI isI))) g_189.2.2), .lnt (isI x_188), .dead, .dead, .dead, .dead, .dead])) (s0 := g_189.1) (A := (isL (isP isI isI))) (m := ((((((some b_182).bind fun x => (some x_188).bind fun y => atI x y).bind rng1).bind fun xs => (compO (fun x_197 => (some true)) (fun x_197 => ((some x_188).bind fun x => (some x_197).bind fun y => some (x, y))) xs).bind fits).bind fun x => (some ()).bind fun y => some (x, y)).bind fun b_198 => (f__law_mixed n g_189.1 b_198.1).bind fun r => some (r.1, r.2))) nd (Ef.eq (ef_callMI (i := 0) (m := fun (c : Cup) (a : (List (Int × Int)) × Unit) => f__law_mixed n c a.1) (As := fun (a : (List (Int × Int)) × Unit) => [(isL (isP isI isI)) a.1]) (get := fun s_192 => s_192) (put := fun s_192 c_193 => c_193) ⟨fun _ => ⟨_, rfl, fun _ => rfl⟩⟩ ((G__law_mixed _ (isP isI isI)).mono (k := 2) (by decide)) hr (ag_cons (Pu.al (lc [("at", 7)] nd (wa_rng1 (al_ix ix_list (o_ixL (A := isI)) (av (A := (isL isI)) (a := b_182) 1) (al (A := isI) (a := x_188) 5)) h_range) (fun s_ H_ C_ cl_ fp_ => lcg1 7 nd) (tgs_name 7) (fun x_194 s_ H_ C_ cl_ fp_ => tc_nil) (fun x_194 s_ H_ C_ cl_ fp_ => (pu_pair (Al.pu (A := isI) (al (A := isI) (a := x_188) 5)) (Al.pu (A := isI) (al (A := isI) (a := x_194) 7)))))) ag_nil)) rfl))) fun b_196 => ?_
      refine bn_cons (sn_if (N := (fun b_227 : Cup × (List (Int × Int)) × (List ((Int × Int) × (Int × Int))) × (List (Int × Int)) => [.own (some v0) (isCup b_227.1), .own none ((isL isI) b_182), .own none (isI rims_180), .own none ((isL (isP isI isI)) b_227.2.1), .own none ((isL (isP (isP isI isI) (isP isI isI))) b_227.2.2.1), .lnt (isI x_188), .own none ((isL (isP isI isI)) b_227.2.2.2), .dead, .dead, .dead, .dead])) (te_cmp op_gt (o_intB (g := fun x y => decide (y < x))) (al (A := isI) (a := x_188) 5) (Pu.al (pu_int))) ?_ ?_) fun b_201 => ?_
      · refine bn_cons (Sn.ent (.same (.same (.same (.same (.same (.same (.same (.dead (.dead (.dead (.dead .nil))))))))))) (sn_exprE (Γ := (fun s_212 : Cup × (List (Int × Int)) × (List ((Int × Int) × (Int × Int))) × (List (Int × Int)) => [.own (some v0) (isCup s_212.1), .own none ((isL isI) b_182), .own none (isI rims_180), .own none ((isL (isP isI isI)) s_212.2.1), .own none ((isL (isP (isP isI isI) (isP isI isI))) s_212.2.2.1), .lnt (isI x_188), .own none ((isL (isP isI isI)) s_212.2.2.2), .dead, .dead, .dead, .dead])) (s0 := (b_196.2, g_189.2.1, g_189.2.2, b_196.1)) (A := isN) (m := (((((((((some (b_196.2, g_189.2.1, g_189.2.2, b_196.1).2.1).bind fun x => some (x.length : Int)).bind fun x => (some ()).bind fun y => some (x, y)).bind fun b_219 => (f__law_sip n (b_196.2, g_189.2.1, g_189.2.2, b_196.1).1 b_219.1).bind fun r => some (r.1, (r.2, (b_196.2, g_189.2.1, g_189.2.2, b_196.1).2.1, (b_196.2, g_189.2.1, g_189.2.2, b_196.1).2.2.1, (b_196.2, g_189.2.1, g_189.2.2, b_196.1).2.2.2))).bind fun a_218 => (some ((), a_218.2)).bind fun b => some ((a_218.1, b.1), b.2)).bind fun b_217 => (lpopAt b_217.2.2.1 b_217.1).bind fun z => some (z.1, (b_217.2.1, z.2, b_217.2.2.2.1, b_217.2.2.2.2))).bind fun x_215 => ((lpop x_215.2.2.2.2 ()).bind fun z => some (z.1, (x_215.2.1, x_215.2.2.1, x_215.2.2.2.1, z.2))).bind fun y_216 => some ((x_215.1, y_216.1), y_216.2)).bind fun a_214 => (some ((), a_214.2)).bind fun b => some ((a_214.1, b.1), b.2)).bind fun b_213 => (lapp b_213.2.2.2.1 b_213.1).bind fun z => some (z.1, (b_213.2.1, b_213.2.2.1, z.2, b_213.2.2.2.2)))) (Ef.eq (ef_meth (i := 4) (C := (isL (isP (isP isI isI) (isP isI isI)))) (f := lapp) (get := fun s_203 => s_203.2.2.1) (put := fun s_203 c_204 => (s_203.1, s_203.2.1, c_204, s_203.2.2.2)) ⟨fun _ => ⟨_, rfl, fun _ => rfl⟩⟩ PySem.F.plainAttrs_list PySem.F.slot_list_append PySem.F.type_list_append mt_append mo_append ty_L (ae_cons (ef_pair (ef_meth (i := 3) (C := (isL (isP isI isI))) (f := lpopAt) (get := fun s_205 => s_205.2.1) (put := fun s_205 c_206 => (s_205.1, c_206, s_205.2.2.1, s_205.2.2.2)) ⟨fun _ => ⟨_, rfl, fun _ => rfl⟩⟩ PySem.F.plainAttrs_list PySem.F.slot_list_pop PySem.F.type_list_pop mt_popAt mo_popAt ty_L (ae_cons (ef_callMI (i := 0) (m := fun (c : Cup) (a : Int × Unit) => f__law_sip n c a.1) (As := fun (a : Int × Unit) => [isI a.1]) (get := fun s_207 => s_207.1) (put := fun s_207 c_208 => (c_208, s_207.2.1, s_207.2.2.1, s_207.2.2.2)) ⟨fun _ => ⟨_, rfl, fun _ => rfl⟩⟩ (G__law_sip.mono (k := 2) (by decide)) hr (ag_cons (Pu.al (pu_b1 call_len (c_lenL (A := (isP isI isI))) (av (A := (isL (isP isI isI))) 3) h_len bt_len)) ag_nil)) fun _ _ => ae_nil)) (fun _ _ => ef_meth0 (i := 6) (C := (isL (isP isI isI))) (f := lpop) (get := fun s_209 => s_209.2.2.2) (put := fun s_209 c_210 => (s_209.1, s_209.2.1, s_209.2.2.1, c_210)) ⟨fun _ => ⟨_, rfl, fun _ => rfl⟩⟩ PySem.F.plainAttrs_list PySem.F.slot_list_pop PySem.F.type_list_pop mt_pop mo_pop ty_L)) fun _ _ => ae_nil)) rfl))) fun s_211 => ?_
        exact bn_nil (.same (.same (.same (.same (.same (.same (.same (.dead (.dead (.dead (.dead .nil)))))))))))
      · exact bn_nil (.same (.same (.same (.same (.same (.same (.same (.dead (.dead (.dead (.dead .nil)))))))))))
      · refine bn_cons (sn_st 3 nd (pu_bin op_cat o_catL (av (A := (isL (isP isI isI))) (a := b_201.2.1) 3) (av (A := (isL (isP isI isI))) (a := b_201.2.2.2) 6))) fun free_228 => ?_
        exact bn_nil (.same (.same (.same (.same (.same (.dead (.dead (.dead (.dead (.dead (.dead .nil)))))))))))
    · refine bx_cons (Sn.ent (.same (.same (.same (.same (.same (.dead (.dead (.dead (.dead (.dead (.dead .nil))))))))))) (sn_stE 3 (Γ := (fun s_232 : Cup => [.own (some v0) (isCup s_232), .own none ((isL isI) b_182), .own none (isI rims_180), .own none ((isL (isP isI isI)) g_190.2.1), .own none ((isL (isP (isP isI isI) (isP isI isI))) g_190.2.2), .dead, .dead, .dead, .dead, .dead, .dead])) (s0 := g_190.1) (A := (isL (isP isI isI))) (m := (((some g_190.2.1).bind fun x => (some ()).bind fun y => some (x, y)).bind fun b_234 => (f__law_mixed n g_190.1 b_234.1).bind fun r => some (r.1, r.2))) nd (Ef.eq (ef_callMI (i := 0) (m := fun (c : Cup) (a : (List (Int × Int)) × Unit) => f__law_mixed n c a.1) (As := fun (a : (List (Int × Int)) × Unit) => [(isL (isP isI isI)) a.1]) (get := fun s_230 => s_230) (put := fun s_230 c_231 => c_231) ⟨fun _ => ⟨_, rfl, fun _ => rfl⟩⟩ ((G__law_mixed _ (isP isI isI)).mono (k := 2) (by decide)) hr (ag_cons (av (A := (isL (isP isI isI))) (a := g_190.2.1) 3) ag_nil)) rfl))) fun b_233 => ?_
      refine bx_cons (sn_st 2 nd (pu_b2 (call_min2 rfl) c_min2 (av (A := isI) (a := rims_180) 2) (Pu.al (pu_bin op_sub o_int0 (Pu.al (pu_b1 call_len (c_lenL (A := (isP isI isI))) (av (A := (isL (isP isI isI))) (a := b_233.1) 3) h_len bt_len)) (Pu.al (pu_bin op_mod o_mod (Pu.al (pu_t1 call_int1 c_int (Pu.al (pu_bin op_sub o_int0 (Pu.al (pu_b1 call_len (c_lenL (A := (isP isI isI))) (av (A := (isL (isP isI isI))) (a := b_233.1) 3) h_len bt_len)) (av (A := isI) (a := rims_180) 2))) h_int bt_int)) (Pu.al (pu_int)))))) h_min bt_min)) fun rims_236 => ?_
      refine bx_cons (Sn.ent (.same (.same (.same (.same (.same (.dead (.dead (.dead (.dead (.dead (.dead .nil))))))))))) (sn_fr (fun g_237 : (List (Int × Int)) => [.own (some v0) (isCup b_233.2), .own none ((isL isI) b_182), .own none (isI rims_236), .own none ((isL (isP isI isI)) g_237), .own none ((isL (isP (isP isI isI) (isP isI isI))) g_190.2.2), .dead, .dead, .dead, .dead, .dead, .dead]) b_233.1 (wa_rng1 (av (A := isI) (a := rims_236) 2) h_range) (tn 7 nd) (fun x_238 g_239 => ?_))) fun g_240 => ?_
      · refine bn_cons (sn_fail (β := Unit) (N := fun _ => [.own (some v0) (isCup b_233.2), .own none ((isL isI) b_182), .own none (isI rims_236), .own none ((isL (isP isI isI)) g_239), .own none ((isL (isP (isP isI isI) (isP isI isI))) g_190.2.2), .dead, .dead, .lnt (isI x_238), .dead, .dead, .dead])) fun _ => ?_
        exact bn_nil (.same (.same (.same (.same (.same (.dead (.dead (.dead (.dead (.dead (.dead .nil)))))))))))
      · refine bx_cons (Sn.ent (.same (.same (.same (.same (.same (.dead (.dead (.dead (.dead (.dead (.dead .nil))))))))))) (sn_while (Γ := (fun g_241 : (List (Int × Int)) × (List ((Int × Int) × (Int × Int))) => [.own (some v0) (isCup b_233.2), .own none ((isL isI) b_182), .own none (isI rims_236), .own none ((isL (isP isI isI)) g_241.1), .own none ((isL (isP (isP isI isI) (isP isI isI))) g_241.2), .dead, .dead, .dead, .dead, .dead, .dead])) (g0 := (g_240, g_190.2.2)) n (fun g_242 => (te_cmp op_gt (o_intB (g := fun x y => decide (y < x))) (Pu.al (pu_b1 call_len (c_lenL (A := (isP isI isI))) (av (A := (isL (isP isI isI))) (a := g_242.1) 3) h_len bt_len)) (Pu.al (pu_int)))) (fun g_243 => ?_))) fun g_244 => ?_
        · refine bn_cons (Sn.ent (.same (.same (.same (.same (.same (.dead (.dead (.dead (.dead (.dead (.dead .nil))))))))))) (sn_exprE (Γ := (fun s_253 : (List (Int × Int)) × (List ((Int × Int) × (Int × Int))) => [.own (some v0) (isCup b_233.2), .own none ((isL isI) b_182), .own none (isI rims_236), .own none ((isL (isP isI isI)) s_253.1), .own none ((isL (isP (isP isI isI) (isP isI isI))) s_253.2), .dead, .dead, .dead, .dead, .dead, .dead])) (s0 := (g_243.1, g_243.2)) (A := isN) (m := (((((lpop (g_243.1, g_243.2).1 ()).bind fun z => some (z.1, (z.2, (g_243.1, g_243.2).2))).bind fun x_256 => ((lpop x_256.2.1 ()).bind fun z => some (z.1, (z.2, x_256.2.2))).bind fun y_257 => some ((x_256.1, y_257.1), y_257.2)).bind fun a_255 => (some ((), a_255.2)).bind fun b => some ((a_255.1, b.1), b.2)).bind fun b_254 => (lapp b_254.2.2 b_254.1).bind fun z => some (z.1, (b_254.2.1, z.2)))) (Ef.eq (ef_meth (i := 4) (C := (isL (isP (isP isI isI) (isP isI isI)))) (f := lapp) (get := fun s_246 => s_246.2) (put := fun s_246 c_247 => (s_246.1, c_247)) ⟨fun _ => ⟨_, rfl, fun _ => rfl⟩⟩ PySem.F.plainAttrs_list PySem.F.slot_list_append PySem.F.type_list_append mt_append mo_append ty_L (ae_cons (ef_pair (ef_meth0 (i := 3) (C := (isL (isP isI isI))) (f := lpop) (get := fun s_248 => s_248.1) (put := fun s_248 c_249 => (c_249, s_248.2)) ⟨fun _ => ⟨_, rfl, fun _ => rfl⟩⟩ PySem.F.plainAttrs_list PySem.F.slot_list_pop PySem.F.type_list_pop mt_pop mo_pop ty_L) (fun _ _ => ef_meth0 (i := 3) (C := (isL (isP isI isI))) (f := lpop) (get := fun s_250 => s_250.1) (put := fun s_250 c_251 => (c_251, s_250.2)) ⟨fun _ => ⟨_, rfl, fun _ => rfl⟩⟩ PySem.F.plainAttrs_list PySem.F.slot_list_pop PySem.F.type_list_pop mt_pop mo_pop ty_L)) fun _ _ => ae_nil)) rfl))) fun s_252 => ?_
          exact bn_nil (.same (.same (.same (.same (.same (.dead (.dead (.dead (.dead (.dead (.dead .nil)))))))))))
        · refine bx_cons (sn_st 8 nd (pu_if (te_cmp op_eq o_eqI (av (A := isI) (a := rims_236) 2) (Pu.al (pu_int))) (pu_int) (pu_fail))) fun step_262 => ?_
          refine bx_cons (sn_st 9 nd (pu_dnew kP isI)) fun number_263 => ?_
          refine bx_cons (Sn.ent (.same (.same (.same (.same (.same (.dead (.dead (.dead (.same (.same (.dead .nil))))))))))) (sn_stE 4 (Γ := (fun s_267 : Cup => [.own (some v0) (isCup s_267), .own none ((isL isI) b_182), .own none (isI rims_236), .own none ((isL (isP isI isI)) g_244.1), .own none ((isL (isP (isP isI isI) (isP isI isI))) g_244.2), .dead, .dead, .dead, .own none (isI step_262), .own none ((isD kP isI) number_263), .dead])) (s0 := b_233.2) (A := (isL (isP (isP isI isI) (isP isI isI)))) (m := (((some g_244.2).bind fun x => (some ()).bind fun y => some (x, y)).bind fun b_269 => (f__law_mixed n b_233.2 b_269.1).bind fun r => some (r.1, r.2))) nd (Ef.eq (ef_callMI (i := 0) (m := fun (c : Cup) (a : (List ((Int × Int) × (Int × Int))) × Unit) => f__law_mixed n c a.1) (As := fun (a : (List ((Int × Int) × (Int × Int))) × Unit) => [(isL (isP (isP isI isI) (isP isI isI))) a.1]) (get := fun s_265 => s_265) (put := fun s_265 c_266 => c_266) ⟨fun _ => ⟨_, rfl, fun _ => rfl⟩⟩ ((G__law_mixed _ (isP (isP isI isI) (isP isI isI))).mono (k := 2) (by decide)) hr (ag_cons (av (A := (isL (isP (isP isI isI) (isP isI isI)))) (a := g_244.2) 4) ag_nil)) rfl))) fun b_268 => ?_
          refine bx_cons (Sn.ent (.same (.same (.dead (.dead (.same (.dead (.dead (.dead (.same (.same (.dead .nil))))))))))) (sn_fr (fun g_271 : Cup × (List ((Int × Int) × Int)) => [.own (some v0) (isCup g_271.1), .own none ((isL isI) b_182), .dead, .dead, .own none ((isL (isP (isP isI isI) (isP isI isI))) b_268.1), .dead, .dead, .dead, .own none (isI step_262), .own none ((isD kP isI) g_271.2), .dead]) (b_268.2, number_263) (wa_rng1 (Pu.al (pu_b1 call_len (c_lenL (A := (isP (isP isI isI) (isP isI isI)))) (av (A := (isL (isP (isP isI isI) (isP isI isI)))) (a := b_268.1) 4) h_len bt_len)) h_range) (tn 7 nd) (fun x_272 g_273 => ?_))) fun g_274 => ?_
          · refine bn_cons (Sn.ent (.same (.same (.dead (.dead (.same (.dead (.dead (.same (.same (.same (.dead .nil))))))))))) (sn_stE 10 (Γ := (fun s_278 : Cup => [.own (some v0) (isCup s_278), .own none ((isL isI) b_182), .dead, .dead, .own none ((isL (isP (isP isI isI) (isP isI isI))) b_268.1), .dead, .dead, .lnt (isI x_272), .own none (isI step_262), .own none ((isD kP isI) g_273.2), .dead])) (s0 := g_273.1) (A := isI) (m := (((some (2 : Int)).bind fun x => (some ()).bind fun y => some (x, y)).bind fun b_280 => (f__law_sip n g_273.1 b_280.1).bind fun r => some (r.1, r.2))) nd (Ef.eq (ef_callMI (i := 0) (m := fun (c : Cup) (a : Int × Unit) => f__law_sip n c a.1) (As := fun (a : Int × Unit) => [isI a.1]) (get := fun s_276 => s_276) (put := fun s_276 c_277 => c_277) ⟨fun _ => ⟨_, rfl, fun _ => rfl⟩⟩ (G__law_sip.mono (k := 2) (by decide)) hr (ag_cons (Pu.al (pu_int)) ag_nil)) rfl))) fun b_279 => ?_
            refine bn_cons (sn_dput (K := kP) 9 rfl (room1 hr) (Pu.al (pu_bin op_add o_int0 (Pu.al (pu_bin op_mul o_mul (Pu.al (pu_bin op_mul o_mul (Pu.al (pu_int)) (av (A := isI) (a := step_262) 8))) (al (A := isI) (a := x_272) 7))) (av (A := isI) (a := b_279.1) 10))) (al_ix ix_tup o_ixP0 (al_ix ix_list (o_ixL (A := (isP (isP isI isI) (isP isI isI)))) (av (A := (isL (isP (isP isI isI) (isP isI isI)))) (a := b_268.1) 4) (al (A := isI) (a := x_272) 7)) (Pu.al (pu_int)))) fun number_282 => ?_
            refine bn_cons (sn_dput (K := kP) 9 rfl (room1 hr) (Pu.al (pu_bin op_sub o_int0 (Pu.al (pu_bin op_add o_int0 (Pu.al (pu_bin op_mul o_mul (Pu.al (pu_bin op_mul o_mul (Pu.al (pu_int)) (av (A := isI) (a := step_262) 8))) (al (A := isI) (a := x_272) 7))) (Pu.al (pu_int)))) (av (A := isI) (a := b_279.1) 10))) (al_ix ix_tup o_ixP1 (al_ix ix_list (o_ixL (A := (isP (isP isI isI) (isP isI isI)))) (av (A := (isL (isP (isP isI isI) (isP isI isI)))) (a := b_268.1) 4) (al (A := isI) (a := x_272) 7)) (Pu.al (pu_int)))) fun number_283 => ?_
            exact bn_nil (.same (.same (.dead (.dead (.same (.dead (.dead (.dead (.same (.same (.dead .nil)))))))))))
          · refine bx_last ?_
            refine sx_ret (A := (isT (isT isI))) (p := ((((((some b_182).bind fun x => some (x.length : Int)).bind rng1).bind fun xs => (compO (fun x_284 => (some true)) (fun x_284 => ((((some b_182).bind fun x => (some x_284).bind fun y => atI x y).bind rng1).bind fun xs => (compO (fun x_285 => (some true)) (fun x_285 => ((some g_274.2).bind fun d => ((some x_284).bind fun x => (some x_285).bind fun y => some (x, y)).bind fun k => dget d k)) xs).bind fits)) xs).bind fits).bind fun x => (some ()).bind fun y => some (x, y)).bind fun b => f__law_ordered b.1)) ?_ (fun a : (List (List Int)) => ((a, g_274.1) : ((List (List Int)) × Cup))) ?_ ?_
            · exact Pu.eq (pu_callI (m := fun (a : (List (List Int)) × Unit) => f__law_ordered a.1) (G__law_ordered.mono (k := 2) (by decide)) hr (ag_cons (Pu.al (lc [("face", 5)] nd (wa_rng1 (Pu.al (pu_b1 call_len (c_lenL (A := isI)) (av (A := (isL isI)) (a := b_182) 1) h_len bt_len)) h_range) (fun s_ H_ C_ cl_ fp_ => lcg1 5 nd) (tgs_name 5) (fun x_284 s_ H_ C_ cl_ fp_ => tc_nil) (fun x_284 s_ H_ C_ cl_ fp_ => (lc [("at", 7)] nd (wa_rng1 (al_ix ix_list (o_ixL (A := isI)) (av (A := (isL isI)) (a := b_182) 1) (al (A := isI) (a := x_284) 5)) h_range) (fun s_ H_ C_ cl_ fp_ => lcg1 7 nd) (tgs_name 7) (fun x_285 s_ H_ C_ cl_ fp_ => tc_nil) (fun x_285 s_ H_ C_ cl_ fp_ => (Al.pu (A := isI) (al_dget (K := kP) (room1 hr) (av (A := (isD kP isI)) (a := g_274.2) 9) (Pu.al (pu_pair (Al.pu (A := isI) (al (A := isI) (a := x_284) 5)) (Al.pu (A := isI) (al (A := isI) (a := x_285) 7))))))))))) ag_nil)) rfl
            · exact fun _ => rfl
            · exact fun _ => (.same (.dead (.dead (.dead (.dead (.dead (.dead (.dead (.dead (.dead (.dead .nil)))))))))))
end K83
set_option maxHeartbeats 1000000
namespace K83
open PySem PySem.Spec L2 Rf
variable {P : Program} {w : World} {K : PySem.W.Frag} {mg : Str → Option Value} {base : Heap}

theorem fo__law_same (n : Nat) {f : Addr} {fd : FuncData} (F : Fun K "_law_same" "_law_same" s__law_same f fd) (hb : Binds K fd ["told", "due"] []) (hm : mg "_law_same" = some (.ref f)) (h_bool : mg "bool" = none) (h_int : mg "int" = none) (h_isinstance : mg "isinstance" = none) (h_len : mg "len" = none) (h_list : mg "list" = none) (h_range : mg "range" = none) (h_str : mg "str" = none) (h_tuple : mg "tuple" = none) : Fo P w K mg base 1 "_law_same" ["told", "due"] (Sp__law_same n) := by
  refine fo_pure F sc__law_same hb hm rfl (by decide) (fun _ => rfl) (L := fun e => nomatch e) fun cdv A_ outer_ s_ H_ E_ hr a => ?_
  obtain ⟨told_286, due_287, _⟩ := a
  have nd := sc__law_same.nd
  refine bx_cons (sn_st 2 nd (pu_lst (A := (isP isX isX)) (ak_cons (pu_pair (Al.pu (A := isX) (al (A := isX) (a := told_286) 0)) (Al.pu (A := isX) (al (A := isX) (a := due_287) 1))) ak_nil) (by decide) (akl_cons akl_nil))) fun rest_288 => ?_
  refine bx_consx (Sx.ent (.dead (.dead (.same (.dead (.dead (.dead .nil)))))) (sx_while (Γ := (fun g_289 : (List (Dat × Dat)) => [.dead, .dead, .own none ((isL (isP isX isX)) g_289), .dead, .dead, .dead])) (g0 := rest_288) n (fun g_290 => (te_cmp op_gt (o_intB (g := fun x y => decide (y < x))) (Pu.al (pu_b1 call_len (c_lenL (A := (isP isX isX))) (av (A := (isL (isP isX isX))) (a := g_290) 2) h_len bt_len)) (Pu.al (pu_int)))) (fun g_291 => ?_))) fun g_292 => ?_
  · refine bx_cons (Sn.ent (.dead (.dead (.same (.dead (.dead (.dead .nil)))))) (sn_st2E (A := isX) (B := isX) 3 4 (Γ := (fun s_295 : (List (Dat × Dat)) => [.dead, .dead, .own none ((isL (isP isX isX)) s_295), .dead, .dead, .dead])) (s0 := g_291) (m := ((lpop g_291 ()).bind fun z => some (z.1, z.2))) nd (Ef.eq (ef_meth0 (i := 2) (C := (isL (isP isX isX))) (f := lpop) (get := fun s_293 => s_293) (put := fun s_293 c_294 => c_294) ⟨fun _ => ⟨_, rfl, fun _ => rfl⟩⟩ PySem.F.plainAttrs_list PySem.F.slot_list_pop PySem.F.type_list_pop mt_pop mo_pop ty_L) rfl))) fun b_296 => ?_
    refine bx_consx (sx_if (N := (fun b_322 : (List (Dat × Dat)) => [.dead, .dead, .own none ((isL (isP isX isX)) b_322), .dead, .dead, .dead])) (te_val (Pu.al (pu_isi (av (A := isX) (a := b_296.1.2) 4) bt_tuple (by decide +kernel) h_isinstance h_tuple))) ?_ ?_) fun b_297 => ?_
    · refine bx_consx (sx_if (N := (fun b_299 : Unit => [.dead, .dead, .own none ((isL (isP isX isX)) b_296.2), .own none (isX b_296.1.1), .own none (isX b_296.1.2), .dead])) (Tw.te (tw_or (te_not (te_val (Pu.al (pu_isi (av (A := isX) (a := b_296.1.1) 3) bt_tuple (by decide +kernel) h_isinstance h_tuple)))) (tw_or1 (te_cmp op_ne o_neI (Pu.al (pu_b1 call_len c_lenX (av (A := isX) (a := b_296.1.1) 3) h_len bt_len)) (Pu.al (pu_b1 call_len c_lenX (av (A := isX) (a := b_296.1.2) 4) h_len bt_len)))))) ?_ ?_) fun b_298 => ?_
      · refine bx_last ?_
        refine sx_ret (A := isB) (p := (some false)) ?_ (fun a => a) ?_ ?_
        · exact Pu.eq (pu_bl) rfl
        · exact fun _ => rfl
        · exact fun _ => (.dead (.dead (.dead (.dead (.dead (.dead .nil))))))
      · exact bx_nil (.dead (.dead (.same (.same (.same (.dead .nil))))))
      · refine bx_cons (sn_st 2 nd (pu_bin op_cat o_catL (av (A := (isL (isP isX isX))) (a := b_296.2) 2) (Pu.al (lc [("at", 5)] nd (wa_rng1 (Pu.al (pu_b1 call_len c_lenX (av (A := isX) (a := b_296.1.2) 4) h_len bt_len)) h_range) (fun s_ H_ C_ cl_ fp_ => lcg1 5 nd) (tgs_name 5) (fun x_301 s_ H_ C_ cl_ fp_ => tc_nil) (fun x_301 s_ H_ C_ cl_ fp_ => (pu_pair (Al.pu (A := isX) (al_ix ix_tup o_ixX (av (A := isX) (a := b_296.1.1) 3) (al (A := isI) (a := x_301) 5))) (Al.pu (A := isX) (al_ix ix_tup o_ixX (av (A := isX) (a := b_296.1.2) 4) (al (A := isI) (a := x_301) 5))))))))) fun rest_300 => ?_
        exact bx_nil (.dead (.dead (.same (.dead (.dead (.dead .nil))))))
    · refine bx_consx (sx_if (N := (fun b_321 : (List (Dat × Dat)) => [.dead, .dead, .own none ((isL (isP isX isX)) b_321), .dead, .dead, .dead])) (te_val (Pu.al (pu_isi (av (A := isX) (a := b_296.1.2) 4) bt_list (by decide +kernel) h_isinstance h_list))) ?_ ?_) fun b_302 => ?_
      · refine bx_consx (sx_if (N := (fun b_304 : Unit => [.dead, .dead, .own none ((isL (isP isX isX)) b_296.2), .own none (isX b_296.1.1), .own none (isX b_296.1.2), .dead])) (Tw.te (tw_or (te_not (te_val (Pu.al (pu_isi (av (A := isX) (a := b_296.1.1) 3) bt_list (by decide +kernel) h_isinstance h_list)))) (tw_or1 (te_cmp op_ne o_neI (Pu.al (pu_b1 call_len c_lenX (av (A := isX) (a := b_296.1.1) 3) h_len bt_len)) (Pu.al (pu_b1 call_len c_lenX (av (A := isX) (a := b_296.1.2) 4) h_len bt_len)))))) ?_ ?_) fun b_303 => ?_
        · refine bx_last ?_
          refine sx_ret (A := isB) (p := (some false)) ?_ (fun a => a) ?_ ?_
          · exact Pu.eq (pu_bl) rfl
          · exact fun _ => rfl
          · exact fun _ => (.dead (.dead (.dead (.dead (.dead (.dead .nil))))))
        · exact bx_nil (.dead (.dead (.same (.same (.same (.dead .nil))))))
        · refine bx_cons (sn_st 2 nd (pu_bin op_cat o_catL (av (A := (isL (isP isX isX))) (a := b_296.2) 2) (Pu.al (lc [("at", 5)] nd (wa_rng1 (Pu.al (pu_b1 call_len c_lenX (av (A := isX) (a := b_296.1.2) 4) h_len bt_len)) h_range) (fun s_ H_ C_ cl_ fp_ => lcg1 5 nd) (tgs_name 5) (fun x_306 s_ H_ C_ cl_ fp_ => tc_nil) (fun x_306 s_ H_ C_ cl_ fp_ => (pu_pair (Al.pu (A := isX) (al_ix ix_tup o_ixX (av (A := isX) (a := b_296.1.1) 3) (al (A := isI) (a := x_306) 5))) (Al.pu (A := isX) (al_ix ix_tup o_ixX (av (A := isX) (a := b_296.1.2) 4) (al (A := isI) (a := x_306) 5))))))))) fun rest_305 => ?_
          exact bx_nil (.dead (.dead (.same (.dead (.dead (.dead .nil))))))
      · refine bx_consx (sx_if (N := (fun b_320 : Unit => [.dead, .dead, .own none ((isL (isP isX isX)) b_296.2), .dead, .dead, .dead])) (te_cmp op_isN' o_isNX (av (A := isX) (a := b_296.1.2) 4) (Pu.al (pu_non))) ?_ ?_) fun b_307 => ?_
        · refine bx_consx (sx_if (N := (fun b_309 : Unit => [.dead, .dead, .own none ((isL (isP isX isX)) b_296.2), .dead, .dead, .dead])) (te_cmp op_notN' o_notNX (av (A := isX) (a := b_296.1.1) 3) (Pu.al (pu_non))) ?_ ?_) fun b_308 => ?_
          · refine bx_last ?_
            refine sx_ret (A := isB) (p := (some false)) ?_ (fun a => a) ?_ ?_
            · exact Pu.eq (pu_bl) rfl
            · exact fun _ => rfl
            · exact fun _ => (.dead (.dead (.dead (.dead (.dead (.dead .nil))))))
          · exact bx_nil (.dead (.dead (.same (.dead (.dead (.dead .nil))))))
          · exact bx_nil (.dead (.dead (.same (.dead (.dead (.dead .nil))))))
        · refine bx_consx (sx_if (N := (fun b_319 : Unit => [.dead, .dead, .own none ((isL (isP isX isX)) b_296.2), .dead, .dead, .dead])) (te_val (Pu.al (pu_isi (av (A := isX) (a := b_296.1.2) 4) bt_bool (by decide +kernel) h_isinstance h_bool))) ?_ ?_) fun b_310 => ?_
          · refine bx_consx (sx_if (N := (fun b_312 : Unit => [.dead, .dead, .own none ((isL (isP isX isX)) b_296.2), .dead, .dead, .dead])) (Tw.te (tw_or (te_not (te_val (Pu.al (pu_isi (av (A := isX) (a := b_296.1.1) 3) bt_bool (by decide +kernel) h_isinstance h_bool)))) (tw_or1 (te_cmp op_ne o_neX (av (A := isX) (a := b_296.1.1) 3) (av (A := isX) (a := b_296.1.2) 4))))) ?_ ?_) fun b_311 => ?_
            · refine bx_last ?_
              refine sx_ret (A := isB) (p := (some false)) ?_ (fun a => a) ?_ ?_
              · exact Pu.eq (pu_bl) rfl
              · exact fun _ => rfl
              · exact fun _ => (.dead (.dead (.dead (.dead (.dead (.dead .nil))))))
            · exact bx_nil (.dead (.dead (.same (.dead (.dead (.dead .nil))))))
            · exact bx_nil (.dead (.dead (.same (.dead (.dead (.dead .nil))))))
          · refine bx_consx (sx_if (N := (fun b_318 : Unit => [.dead, .dead, .own none ((isL (isP isX isX)) b_296.2), .dead, .dead, .dead])) (te_val (Pu.al (pu_isi (av (A := isX) (a := b_296.1.2) 4) bt_int (by decide +kernel) h_isinstance h_int))) ?_ ?_) fun b_313 => ?_
            · refine bx_consx (sx_if (N := (fun b_315 : Unit => [.dead, .dead, .own none ((isL (isP isX isX)) b_296.2), .dead, .dead, .dead])) (Tw.te (tw_or (te_not (te_val (Pu.al (pu_isi (av (A := isX) (a := b_296.1.1) 3) bt_int (by decide +kernel) h_isinstance h_int)))) (tw_or (te_val (Pu.al (pu_isi (av (A := isX) (a := b_296.1.1) 3) bt_bool (by decide +kernel) h_isinstance h_bool))) (tw_or1 (te_cmp op_ne o_neX (av (A := isX) (a := b_296.1.1) 3) (av (A := isX) (a := b_296.1.2) 4)))))) ?_ ?_) fun b_314 => ?_
              · refine bx_last ?_
                refine sx_ret (A := isB) (p := (some false)) ?_ (fun a => a) ?_ ?_
                · exact Pu.eq (pu_bl) rfl
                · exact fun _ => rfl
                · exact fun _ => (.dead (.dead (.dead (.dead (.dead (.dead .nil))))))
              · exact bx_nil (.dead (.dead (.same (.dead (.dead (.dead .nil))))))
              · exact bx_nil (.dead (.dead (.same (.dead (.dead (.dead .nil))))))
            · refine bx_consx (sx_if (N := (fun b_317 : Unit => [.dead, .dead, .own none ((isL (isP isX isX)) b_296.2), .dead, .dead, .dead])) (Tw.te (tw_or (te_not (te_val (Pu.al (pu_isi (av (A := isX) (a := b_296.1.2) 4) bt_str (by decide +kernel) h_isinstance h_str)))) (tw_or (te_not (te_val (Pu.al (pu_isi (av (A := isX) (a := b_296.1.1) 3) bt_str (by decide +kernel) h_isinstance h_str)))) (tw_or1 (te_cmp op_ne o_neX (av (A := isX) (a := b_296.1.1) 3) (av (A := isX) (a := b_296.1.2) 4)))))) ?_ ?_) fun b_316 => ?_
              · refine bx_last ?_
                refine sx_ret (A := isB) (p := (some false)) ?_ (fun a => a) ?_ ?_
                · exact Pu.eq (pu_bl) rfl
                · exact fun _ => rfl
                · exact fun _ => (.dead (.dead (.dead (.dead (.dead (.dead .nil))))))
              · exact bx_nil (.dead (.dead (.same (.dead (.dead (.dead .nil))))))
              · exact bx_nil (.dead (.dead (.same (.dead (.dead (.dead .nil))))))
            · exact bx_nil (.dead (.dead (.same (.dead (.dead (.dead .nil))))))
          · exact bx_nil (.dead (.dead (.same (.dead (.dead (.dead .nil))))))
        · exact bx_nil (.dead (.dead (.same (.dead (.dead (.dead .nil))))))
      · exact bx_nil (.dead (.dead (.same (.dead (.dead (.dead .nil))))))
    · exact bx_nil (.dead (.dead (.same (.dead (.dead (.dead .nil))))))
  · refine bx_last ?_
    refine sx_ret (A := isB) (p := (some true)) ?_ (fun a => a) ?_ ?_
    · exact Pu.eq (pu_bl) rfl
    · exact fun _ => rfl
    · exact fun _ => (.dead (.dead (.dead (.dead (.dead (.dead .nil))))))
end K83
set_option maxHeartbeats 1000000
namespace K83
open PySem PySem.Spec L2 Rf
variable {P : Program} {w : World} {K : PySem.W.Frag} {mg : Str → Option Value} {base : Heap}

theorem fo__law_torus {f : Addr} {fd : FuncData} (F : Fun K "_law_torus" "_law_torus" s__law_torus f fd) (hb : Binds K fd ["columns", "rows", "shift"] []) (hm : mg "_law_torus" = some (.ref f)) (h_int : mg "int" = none) (h_range : mg "range" = none) (G__law_ordered : Fo P w K mg base 1 "_law_ordered" ["faces"] (Sp__law_ordered )) : Fo P w K mg base 2 "_law_torus" ["columns", "rows", "shift"] (Sp__law_torus ) := by
  refine fo_pure F sc__law_torus hb hm rfl (by decide) (fun _ => rfl) (L := fun e => nomatch e) fun cdv A_ outer_ s_ H_ E_ hr a => ?_
  obtain ⟨columns_323, rows_324, shift_325, _⟩ := a
  have nd := sc__law_torus.nd
  refine bx_cons (sn_st 3 nd (pu_lst (A := (isL isI)) ak_nil (by decide) akl_nil)) fun cells_326 => ?_
  refine bx_cons (Sn.ent (.same (.same (.same (.same (.dead (.dead (.dead (.dead (.dead .nil))))))))) (sn_fr (fun g_327 : (List (List Int)) => [.lnt (isI columns_323), .lnt (isI rows_324), .lnt (isI shift_325), .own none ((isL (isL isI)) g_327), .dead, .dead, .dead, .dead, .dead]) cells_326 (wa_rng1 (Pu.al (pu_bin op_mul o_mul (al (A := isI) (a := columns_323) 0) (al (A := isI) (a := rows_324) 1))) h_range) (tn 4 nd) (fun x_328 g_329 => ?_))) fun g_330 => ?_
  · refine bn_cons (sn_st 5 nd (pu_bin op_mod o_mod (Pu.al (pu_t1 call_int1 c_int (al (A := isI) (a := x_328) 4) h_int bt_int)) (al (A := isI) (a := columns_323) 0))) fun x_331 => ?_
    refine bn_cons (sn_st 6 nd (pu_bin op_fdiv o_div (al (A := isI) (a := x_328) 4) (al (A := isI) (a := columns_323) 0))) fun y_332 => ?_
    refine bn_cons (sn_st 7 nd (pu_bin op_add o_int0 (Pu.al (pu_bin op_mul o_mul (av (A := isI) (a := y_332) 6) (al (A := isI) (a := columns_323) 0))) (Pu.al (pu_bin op_mod o_mod (Pu.al (pu_t1 call_int1 c_int (Pu.al (pu_bin op_sub o_int0 (av (A := isI) (a := x_331) 5) (Pu.al (pu_int)))) h_int bt_int)) (al (A := isI) (a := columns_323) 0))))) fun west_333 => ?_
    refine bn_cons (sn_st 8 nd (pu_if (te_cmp op_gt (o_intB (g := fun x y => decide (y < x))) (av (A := isI) (a := y_332) 6) (Pu.al (pu_int))) (pu_bin op_add o_int0 (Pu.al (pu_bin op_mul o_mul (Pu.al (pu_bin op_sub o_int0 (av (A := isI) (a := y_332) 6) (Pu.al (pu_int)))) (al (A := isI) (a := columns_323) 0))) (av (A := isI) (a := x_331) 5)) (pu_bin op_add o_int0 (Pu.al (pu_bin op_mul o_mul (Pu.al (pu_bin op_sub o_int0 (al (A := isI) (a := rows_324) 1) (Pu.al (pu_int)))) (al (A := isI) (a := columns_323) 0))) (Pu.al (pu_bin op_mod o_mod (Pu.al (pu_t1 call_int1 c_int (Pu.al (pu_bin op_sub o_int0 (av (A := isI) (a := x_331) 5) (al (A := isI) (a := shift_325) 2))) h_int bt_int)) (al (A := isI) (a := columns_323) 0)))))) fun south_334 => ?_
    refine bn_cons (Sn.ent (.same (.same (.same (.same (.same (.same (.same (.same (.same .nil))))))))) (sn_exprE (Γ := (fun s_339 : (List (List Int)) => [.lnt (isI columns_323), .lnt (isI rows_324), .lnt (isI shift_325), .own none ((isL (isL isI)) s_339), .lnt (isI x_328), .own none (isI x_331), .own none (isI y_332), .own none (isI west_333), .own none (isI south_334)])) (s0 := g_329) (A := isN) (m := (((((((some (4 : Int)).bind fun x => (some x_328).bind fun y => pmul x y).bind fun x => ((((some (4 : Int)).bind fun x => (some x_328).bind fun y => pmul x y).bind fun x => (some (2 : Int)).bind fun y => some (x + y)).bind fun x => ((((some (4 : Int)).bind fun x => (some west_333).bind fun y => pmul x y).bind fun x => (some (1 : Int)).bind fun y => some (x + y)).bind fun x => ((((some (4 : Int)).bind fun x => (some south_334).bind fun y => pmul x y).bind fun x => (some (3 : Int)).bind fun y => some (x + y)).bind fun x => (some []).bind fun xs => some (x :: xs)).bind fun xs => some (x :: xs)).bind fun xs => some (x :: xs)).bind fun xs => some (x :: xs)) : Option (List Int)).bind fun x => (some ()).bind fun y => some (x, y)).bind fun a => some (a, g_329)).bind fun b_340 => (lapp b_340.2 b_340.1).bind fun z => some (z.1, z.2))) (Ef.eq (ef_meth (i := 3) (C := (isL (isL isI))) (f := lapp) (get := fun s_336 => s_336) (put := fun s_336 c_337 => c_337) ⟨fun _ => ⟨_, rfl, fun _ => rfl⟩⟩ PySem.F.plainAttrs_list PySem.F.slot_list_append PySem.F.type_list_append mt_append mo_append ty_L (ae_pu (ah_cons (pu_lst (A := isI) (ak_cons (pu_bin op_mul o_mul (Pu.al (pu_int)) (al (A := isI) (a := x_328) 4)) (ak_cons (pu_bin op_add o_int0 (Pu.al (pu_bin op_mul o_mul (Pu.al (pu_int)) (al (A := isI) (a := x_328) 4))) (Pu.al (pu_int))) (ak_cons (pu_bin op_add o_int0 (Pu.al (pu_bin op_mul o_mul (Pu.al (pu_int)) (av (A := isI) (a := west_333) 7))) (Pu.al (pu_int))) (ak_cons (pu_bin op_add o_int0 (Pu.al (pu_bin op_mul o_mul (Pu.al (pu_int)) (av (A := isI) (a := south_334) 8))) (Pu.al (pu_int))) ak_nil)))) (by decide) (akl_cons (akl_cons (akl_cons (akl_cons akl_nil))))) ah_nil))) rfl))) fun s_338 => ?_
    exact bn_nil (.same (.same (.same (.same (.dead (.dead (.dead (.dead (.dead .nil)))))))))
  · refine bx_last ?_
    refine sx_ret (A := (isT (isT isI))) (p := (((some g_330).bind fun x => (some ()).bind fun y => some (x, y)).bind fun b => f__law_ordered b.1)) ?_ (fun a => a) ?_ ?_
    · exact Pu.eq (pu_callI (m := fun (a : (List (List Int)) × Unit) => f__law_ordered a.1) (G__law_ordered.mono (k := 1) (by decide)) hr (ag_cons (av (A := (isL (isL isI))) (a := g_330) 3) ag_nil)) rfl
    · exact fun _ => rfl
    · exact fun _ => (.dead (.dead (.dead (.dead (.dead (.dead (.dead (.dead (.dead .nil)))))))))
end K83
set_option maxHeartbeats 1000000
namespace K83
open PySem PySem.Spec L2 Rf
variable {P : Program} {w : World} {K : PySem.W.Frag} {mg : Str → Option Value} {base : Heap}

theorem fo__law_solid (n : Nat) {f : Addr} {fd : FuncData} (F : Fun K "_law_solid" "_law_solid" s__law_solid f fd) (hb : Binds K fd ["cup", "many"] []) (hm : mg "_law_solid" = some (.ref f)) (h_range : mg "range" = none) (G__law_sip : Fo P w K mg base 1 "_law_sip" ["cup", "many"] (Sp__law_sip n)) (G__law_torus : Fo P w K mg base 2 "_law_torus" ["columns", "rows", "shift"] (Sp__law_torus )) (G__law_ordered : Fo P w K mg base 1 "_law_ordered" ["faces"] (Sp__law_ordered )) (G__law_glue : Fo P w K mg base 3 "_law_glue" ["cup", "sizes", "rims"] (Sp__law_glue n)) : Fo P w K mg base 4 "_law_solid" ["cup", "many"] (Sp__law_solid n) := by
  refine fo_mut F sc__law_solid hb hm rfl (by decide) (fun _ => rfl) (L := fun e => nomatch e) fun cdv A_ outer_ s_ H_ E_ hr v0 c a => ?_
  obtain ⟨many_343, _⟩ := a
  revert c; intro cup_342
  have nd := sc__law_solid.nd
  refine bx_cons (Sn.ent (.same (.same (.dead (.dead (.dead (.dead (.dead .nil))))))) (sn_stE 2 (Γ := (fun s_347 : Cup => [.own (some v0) (isCup s_347), .lnt (isI many_343), .dead, .dead, .dead, .dead, .dead])) (s0 := cup_342) (A := isI) (m := (((some (7 : Int)).bind fun x => (some ()).bind fun y => some (x, y)).bind fun b_349 => (f__law_sip n cup_342 b_349.1).bind fun r => some (r.1, r.2))) nd (Ef.eq (ef_callMI (i := 0) (m := fun (c : Cup) (a : Int × Unit) => f__law_sip n c a.1) (As := fun (a : Int × Unit) => [isI a.1]) (get := fun s_345 => s_345) (put := fun s_345 c_346 => c_346) ⟨fun _ => ⟨_, rfl, fun _ => rfl⟩⟩ (G__law_sip.mono (k := 3) (by decide)) hr (ag_cons (Pu.al (pu_int)) ag_nil)) rfl))) fun b_348 => ?_
  refine bx_consx (sx_if (N := (fun b_352 : Unit => [.own (some v0) (isCup b_348.2), .lnt (isI many_343), .own none (isI b_348.1), .dead, .dead, .dead, .dead])) (te_cmp op_eq o_eqI (av (A := isI) (a := b_348.1) 2) (Pu.al (pu_int))) ?_ ?_) fun b_351 => ?_
  · refine bx_last ?_
    refine sx_ret (A := (isT (isT isI))) (p := (some ([[0, 2, 4], [1, 6, 8], [3, 9, 10], [5, 11, 7]] : List (List Int)))) ?_ (fun a : (List (List Int)) => ((a, b_348.2) : ((List (List Int)) × Cup))) ?_ ?_
    · exact Pu.eq (pu_cti ([[0, 2, 4], [1, 6, 8], [3, 9, 10], [5, 11, 7]] : List (List Int))) rfl
    · exact fun _ => rfl
    · exact fun _ => (.same (.dead (.dead (.dead (.dead (.dead (.dead .nil)))))))
  · exact bx_nil (.same (.same (.same (.dead (.dead (.dead (.dead .nil)))))))
  · refine bx_consx (sx_if (N := (fun b_354 : Unit => [.own (some v0) (isCup b_348.2), .lnt (isI many_343), .own none (isI b_348.1), .dead, .dead, .dead, .dead])) (te_cmp op_eq o_eqI (av (A := isI) (a := b_348.1) 2) (Pu.al (pu_int))) ?_ ?_) fun b_353 => ?_
    · refine bx_last ?_
      refine sx_ret (A := (isT (isT isI))) (p := (some ([[0, 2, 4, 6], [1, 8, 10, 12], [3, 13, 14, 16], [5, 17, 18, 20], [7, 21, 22, 9], [11, 23, 19, 15]] : List (List Int)))) ?_ (fun a : (List (List Int)) => ((a, b_348.2) : ((List (List Int)) × Cup))) ?_ ?_
      · exact Pu.eq (pu_cti ([[0, 2, 4, 6], [1, 8, 10, 12], [3, 13, 14, 16], [5, 17, 18, 20], [7, 21, 22, 9], [11, 23, 19, 15]] : List (List Int))) rfl
      · exact fun _ => rfl
      · exact fun _ => (.same (.dead (.dead (.dead (.dead (.dead (.dead .nil)))))))
    · exact bx_nil (.same (.same (.same (.dead (.dead (.dead (.dead .nil)))))))
    · refine bx_consx (sx_if (N := (fun b_395 : Cup => [.own (some v0) (isCup b_395), .lnt (isI many_343), .own none (isI b_348.1), .dead, .dead, .dead, .dead])) (te_cmp op_eq o_eqI (av (A := isI) (a := b_348.1) 2) (Pu.al (pu_int))) ?_ ?_) fun b_355 => ?_
      · refine bx_cons (Sn.ent (.same (.same (.same (.dead (.dead (.dead (.dead .nil))))))) (sn_stE 3 (Γ := (fun s_359 : Cup => [.own (some v0) (isCup s_359), .lnt (isI many_343), .own none (isI b_348.1), .dead, .dead, .dead, .dead])) (s0 := b_348.2) (A := isI) (m := (((some (1 : Int)).bind fun a => some (a, b_348.2)).bind fun x_361 => (((some (3 : Int)).bind fun x => (some ()).bind fun y => some (x, y)).bind fun b_363 => (f__law_sip n x_361.2 b_363.1).bind fun r => some (r.1, r.2)).bind fun y_362 => (some (x_361.1 + y_362.1)).bind fun z => some (z, y_362.2))) nd (Ef.eq (ef_bin op_add o_int0 (Pu.ef (pu_int)) (fun _ _ => ef_callMI (i := 0) (m := fun (c : Cup) (a : Int × Unit) => f__law_sip n c a.1) (As := fun (a : Int × Unit) => [isI a.1]) (get := fun s_357 => s_357) (put := fun s_357 c_358 => c_358) ⟨fun _ => ⟨_, rfl, fun _ => rfl⟩⟩ (G__law_sip.mono (k := 3) (by decide)) hr (ag_cons (Pu.al (pu_int)) ag_nil))) rfl))) fun b_360 => ?_
        refine bx_last ?_
        refine sx_retE (Γ := (fun s_371 : Cup => [.own (some v0) (isCup s_371), .lnt (isI many_343), .own none (isI b_348.1), .own none (isI b_360.1), .dead, .dead, .dead])) (s0 := b_360.2) (A := (isT (isT isI))) (m := ((((some b_360.1).bind fun a => some (a, b_360.2)).bind fun a_374 => ((((some (1 : Int)).bind fun a => some (a, a_374.2)).bind fun x_378 => (((some (3 : Int)).bind fun x => (some ()).bind fun y => some (x, y)).bind fun b_380 => (f__law_sip n x_378.2 b_380.1).bind fun r => some (r.1, r.2)).bind fun y_379 => (some (x_378.1 + y_379.1)).bind fun z => some (z, y_379.2)).bind fun a_376 => ((((some b_360.1).bind fun x => (some ()).bind fun y => some (x, y)).bind fun b_383 => (f__law_sip n a_376.2 b_383.1).bind fun r => some (r.1, r.2)).bind fun a_381 => (some ((), a_381.2)).bind fun b_382 => some ((a_381.1, b_382.1), b_382.2)).bind fun b_377 => some ((a_376.1, b_377.1), b_377.2)).bind fun b_375 => some ((a_374.1, b_375.1), b_375.2)).bind fun b_373 => (f__law_torus b_373.1.1 b_373.1.2.1 b_373.1.2.2.1).bind fun r => some (r, b_373.2))) ?_ (fun a s_372 => ((a, s_372) : ((List (List Int)) × Cup))) ?_ ?_
        · exact Ef.eq (ef_callI (m := fun (a : Int × Int × Int × Unit) => f__law_torus a.1 a.2.1 a.2.2.1) (As := fun (a : Int × Int × Int × Unit) => [isI a.1, isI a.2.1, isI a.2.2.1]) (G__law_torus.mono (k := 3) (by decide)) hr (ae_cons (Pu.ef (Al.pu (A := isI) (av (A := isI) (a := b_360.1) 3))) fun _ _ => (ae_cons (ef_bin op_add o_int0 (Pu.ef (pu_int)) (fun _ _ => ef_callMI (i := 0) (m := fun (c : Cup) (a : Int × Unit) => f__law_sip n c a.1) (As := fun (a : Int × Unit) => [isI a.1]) (get := fun s_367 => s_367) (put := fun s_367 c_368 => c_368) ⟨fun _ => ⟨_, rfl, fun _ => rfl⟩⟩ (G__law_sip.mono (k := 3) (by decide)) hr (ag_cons (Pu.al (pu_int)) ag_nil))) fun _ _ => (ae_cons (ef_callMI (i := 0) (m := fun (c : Cup) (a : Int × Unit) => f__law_sip n c a.1) (As := fun (a : Int × Unit) => [isI a.1]) (get := fun s_369 => s_369) (put := fun s_369 c_370 => c_370) ⟨fun _ => ⟨_, rfl, fun _ => rfl⟩⟩ (G__law_sip.mono (k := 3) (by decide)) hr (ag_cons (av (A := isI) (a := b_360.1) 3) ag_nil)) fun _ _ => ae_nil))) (fun b _ _ _ => (cl_cons (cl_cons (cl_cons cl_nil))))) rfl
        · exact fun _ _ => rfl
        · exact fun _ _ => (.same (.dead (.dead (.dead (.dead (.dead (.dead .nil)))))))
      · exact bx_nil (.same (.same (.same (.dead (.dead (.dead (.dead .nil)))))))
      · refine bx_consx (sx_if (N := (fun b_410 : Cup => [.own (some v0) (isCup b_410), .lnt (isI many_343), .own none (isI b_348.1), .dead, .dead, .dead, .dead])) (te_cmp op_eq o_eqI (av (A := isI) (a := b_348.1) 2) (Pu.al (pu_int))) ?_ ?_) fun b_396 => ?_
        · refine bx_cons (Sn.ent (.same (.same (.same (.dead (.dead (.dead (.dead .nil))))))) (sn_stE 4 (Γ := (fun s_400 : Cup => [.own (some v0) (isCup s_400), .lnt (isI many_343), .own none (isI b_348.1), .dead, .dead, .dead, .dead])) (s0 := b_355) (A := isI) (m := (((some (1 : Int)).bind fun a => some (a, b_355)).bind fun x_402 => (((some (6 : Int)).bind fun x => (some ()).bind fun y => some (x, y)).bind fun b_404 => (f__law_sip n x_402.2 b_404.1).bind fun r => some (r.1, r.2)).bind fun y_403 => (some (x_402.1 + y_403.1)).bind fun z => some (z, y_403.2))) nd (Ef.eq (ef_bin op_add o_int0 (Pu.ef (pu_int)) (fun _ _ => ef_callMI (i := 0) (m := fun (c : Cup) (a : Int × Unit) => f__law_sip n c a.1) (As := fun (a : Int × Unit) => [isI a.1]) (get := fun s_398 => s_398) (put := fun s_398 c_399 => c_399) ⟨fun _ => ⟨_, rfl, fun _ => rfl⟩⟩ (G__law_sip.mono (k := 3) (by decide)) hr (ag_cons (Pu.al (pu_int)) ag_nil))) rfl))) fun b_401 => ?_
          refine bx_last ?_
          refine sx_ret (A := (isT (isT isI))) (p := (((((((some b_401.1).bind rng1).bind fun xs => (compO (fun x_408 => (some true)) (fun x_408 => ((some (2 : Int)).bind fun x => (some x_408).bind fun y => pmul x y)) xs).bind fits).bind fun x => (((((some b_401.1).bind rng1).bind fun xs => (compO (fun x_409 => (some true)) (fun x_409 => (((some (2 : Int)).bind fun x => (some x_409).bind fun y => pmul x y).bind fun x => (some (1 : Int)).bind fun y => some (x + y))) xs).bind fits).map List.reverse).bind fun x => (some []).bind fun xs => some (x :: xs)).bind fun xs => some (x :: xs)) : Option (List (List Int))).bind fun x => (some ()).bind fun y => some (x, y)).bind fun b => f__law_ordered b.1)) ?_ (fun a : (List (List Int)) => ((a, b_401.2) : ((List (List Int)) × Cup))) ?_ ?_
          · exact Pu.eq (pu_callI (m := fun (a : (List (List Int)) × Unit) => f__law_ordered a.1) (G__law_ordered.mono (k := 3) (by decide)) hr (ag_cons (Pu.al (pu_lst (A := (isL isI)) (ak_cons (lc [("k", 5)] nd (wa_rng1 (av (A := isI) (a := b_401.1) 4) h_range) (fun s_ H_ C_ cl_ fp_ => lcg1 5 nd) (tgs_name 5) (fun x_408 s_ H_ C_ cl_ fp_ => tc_nil) (fun x_408 s_ H_ C_ cl_ fp_ => (pu_bin op_mul o_mul (Pu.al (pu_int)) (al (A := isI) (a := x_408) 5)))) (ak_cons (pu_rev (Pu.al (lc [("k", 5)] nd (wa_rng1 (av (A := isI) (a := b_401.1) 4) h_range) (fun s_ H_ C_ cl_ fp_ => lcg1 5 nd) (tgs_name 5) (fun x_409 s_ H_ C_ cl_ fp_ => tc_nil) (fun x_409 s_ H_ C_ cl_ fp_ => (pu_bin op_add o_int0 (Pu.al (pu_bin op_mul o_mul (Pu.al (pu_int)) (al (A := isI) (a := x_409) 5))) (Pu.al (pu_int))))))) ak_nil)) (by decide) (akl_cons (akl_cons akl_nil)))) ag_nil)) rfl
          · exact fun _ => rfl
          · exact fun _ => (.same (.dead (.dead (.dead (.dead (.dead (.dead .nil)))))))
        · exact bx_nil (.same (.same (.same (.dead (.dead (.dead (.dead .nil)))))))
        · refine bx_consx (sx_if (N := (fun b_438 : Cup => [.own (some v0) (isCup b_438), .lnt (isI many_343), .dead, .dead, .dead, .dead, .dead])) (te_cmp op_eq o_eqI (av (A := isI) (a := b_348.1) 2) (Pu.al (pu_int))) ?_ ?_) fun b_411 => ?_
          · refine bx_last ?_
            refine sx_retE (Γ := (fun s_416 : Cup => [.own (some v0) (isCup s_416), .lnt (isI many_343), .own none (isI b_348.1), .dead, .dead, .dead, .dead])) (s0 := b_396) (A := (isT (isT isI))) (m := ((((((some (2 : Int)).bind fun a => some (a, b_396)).bind fun x_423 => (((some (9 : Int)).bind fun x => (some ()).bind fun y => some (x, y)).bind fun b_425 => (f__law_sip n x_423.2 b_425.1).bind fun r => some (r.1, r.2)).bind fun y_424 => (some (x_423.1 + y_424.1)).bind fun z => some (z, y_424.2)).bind fun x_421 => (some ([], x_421.2)).bind fun y_422 => some (x_421.1 :: y_422.1, y_422.2)).bind fun a_419 => (((some (0 : Int)).bind fun a => some (a, a_419.2)).bind fun a_426 => (some ((), a_426.2)).bind fun b_427 => some ((a_426.1, b_427.1), b_427.2)).bind fun b_420 => some ((a_419.1, b_420.1), b_420.2)).bind fun b_418 => (f__law_glue n b_418.2 b_418.1.1 b_418.1.2.1).bind fun r => some (r.1, r.2))) ?_ (fun a s_417 => ((a, s_417) : ((List (List Int)) × Cup))) ?_ ?_
            · exact Ef.eq (ef_callMeI (i := 0) (m := fun (c : Cup) (a : (List Int) × Int × Unit) => f__law_glue n c a.1 a.2.1) (As := fun (a : (List Int) × Int × Unit) => [(isL isI) a.1, isI a.2.1]) (get := fun s_412 => s_412) (put := fun s_412 c_413 => c_413) ⟨fun _ => ⟨_, rfl, fun _ => rfl⟩⟩ (G__law_glue.mono (k := 3) (by decide)) hr (ae_cons (ef_lstL (A := isI) (akL_cons (ef_bin op_add o_int0 (Pu.ef (pu_int)) (fun _ _ => ef_callMI (i := 0) (m := fun (c : Cup) (a : Int × Unit) => f__law_sip n c a.1) (As := fun (a : Int × Unit) => [isI a.1]) (get := fun s_414 => s_414) (put := fun s_414 c_415 => c_415) ⟨fun _ => ⟨_, rfl, fun _ => rfl⟩⟩ (G__law_sip.mono (k := 3) (by decide)) hr (ag_cons (Pu.al (pu_int)) ag_nil))) fun _ _ => akL_nil) (by decide)) fun _ _ => (ae_cons (Pu.ef (pu_int)) fun _ _ => ae_nil)) (fun b _ _ _ => (cl_cons (cl_cons cl_nil)))) rfl
            · exact fun _ _ => rfl
            · exact fun _ _ => (.same (.dead (.dead (.dead (.dead (.dead (.dead .nil)))))))
          · exact bx_nil (.same (.same (.dead (.dead (.dead (.dead (.dead .nil)))))))
          · refine bx_last ?_
            refine sx_retE (Γ := (fun s_446 : Cup => [.own (some v0) (isCup s_446), .lnt (isI many_343), .dead, .dead, .dead, .dead, .dead])) (s0 := b_411) (A := (isT (isT isI))) (m := (((((((some (1 : Int)).bind fun a => some (a, b_411)).bind fun x_455 => (((some many_343).bind fun x => (some ()).bind fun y => some (x, y)).bind fun b_457 => (f__law_sip n x_455.2 b_457.1).bind fun r => some (r.1, r.2)).bind fun y_456 => (some (x_455.1 + y_456.1)).bind fun z => some (z, y_456.2)).bind fun x_454 => (rng1 x_454.1).bind fun xs => some (xs, x_454.2)).bind fun w_451 => (compS (fun x_443 s_453 => (((some ([2, 3, 4, 5, 6] : List Int)).bind fun a => some (a, s_453)).bind fun x_458 => (((some (5 : Int)).bind fun x => (some ()).bind fun y => some (x, y)).bind fun b_460 => (f__law_sip n x_458.2 b_460.1).bind fun r => some (r.1, r.2)).bind fun y_459 => (atI x_458.1 y_459.1).bind fun z => some (z, y_459.2))) w_451.1 w_451.2).bind fun z_452 => (fits z_452.1).bind fun ys => some (ys, z_452.2)).bind fun a_449 => (((some (0 : Int)).bind fun a => some (a, a_449.2)).bind fun a_461 => (some ((), a_461.2)).bind fun b_462 => some ((a_461.1, b_462.1), b_462.2)).bind fun b_450 => some ((a_449.1, b_450.1), b_450.2)).bind fun b_448 => (f__law_glue n b_448.2 b_448.1.1 b_448.1.2.1).bind fun r => some (r.1, r.2))) ?_ (fun a s_447 => ((a, s_447) : ((List (List Int)) × Cup))) ?_ ?_
            · exact Ef.eq (ef_callMeI (i := 0) (m := fun (c : Cup) (a : (List Int) × Int × Unit) => f__law_glue n c a.1 a.2.1) (As := fun (a : (List Int) × Int × Unit) => [(isL isI) a.1, isI a.2.1]) (get := fun s_439 => s_439) (put := fun s_439 c_440 => c_440) ⟨fun _ => ⟨_, rfl, fun _ => rfl⟩⟩ (G__law_glue.mono (k := 3) (by decide)) hr (ae_cons (ef_lc (A := isI) [("face", 6)] nd (we_rng1 (ef_bin op_add o_int0 (Pu.ef (pu_int)) (fun _ _ => ef_callMI (i := 0) (m := fun (c : Cup) (a : Int × Unit) => f__law_sip n c a.1) (As := fun (a : Int × Unit) => [isI a.1]) (get := fun s_441 => s_441) (put := fun s_441 c_442 => c_442) ⟨fun _ => ⟨_, rfl, fun _ => rfl⟩⟩ (G__law_sip.mono (k := 3) (by decide)) hr (ag_cons (al (A := isI) (a := many_343) 1) ag_nil))) h_range) (fun s_ H_ C_ cl_ fp_ => lcg1 6 nd) (tgs_name 6) (fun _ _ => (.same (.same (.same (.same (.same (.same (.dead .nil)))))))) (fun x_443 _ s_ H_ C_ cl_ fp_ => ef_ix (C := isI) ix_tup (o_ixT (A := isI)) (Pu.ef (pu_ci ([2, 3, 4, 5, 6] : List Int))) (fun _ _ => ef_callMI (i := 0) (m := fun (c : Cup) (a : Int × Unit) => f__law_sip n c a.1) (As := fun (a : Int × Unit) => [isI a.1]) (get := fun s_444 => s_444) (put := fun s_444 c_445 => c_445) ⟨fun _ => ⟨_, rfl, fun _ => rfl⟩⟩ (G__law_sip.mono (k := 3) (by decide)) hr (ag_cons (Pu.al (pu_int)) ag_nil)))) fun _ _ => (ae_cons (Pu.ef (pu_int)) fun _ _ => ae_nil)) (fun b _ _ _ => (cl_cons (cl_cons cl_nil)))) rfl
            · exact fun _ _ => rfl
            · exact fun _ _ => (.same (.dead (.dead (.dead (.dead (.dead (.dead .nil)))))))
end K83
set_option maxHeartbeats 1000000
namespace K83
open PySem PySem.Spec L2 Rf
variable {P : Program} {w : World} {K : PySem.W.Frag} {mg : Str → Option Value} {base : Heap}

theorem fo__law_steps {f : Addr} {fd : FuncData} (F : Fun K "_law_steps" "_law_steps" s__law_steps f fd) (hb : Binds K fd ["solid"] []) (hm : mg "_law_steps" = some (.ref f)) (h_dict : mg "dict" = none) (h_int : mg "int" = none) (h_len : mg "len" = none) (h_range : mg "range" = none) : Fo P w K mg base 1 "_law_steps" ["solid"] (Sp__law_steps ) := by
  refine fo_pure F sc__law_steps hb hm rfl (by decide) (fun _ => rfl) (L := fun e => nomatch e) fun cdv A_ outer_ s_ H_ E_ hr a => ?_
  obtain ⟨solid_478, _⟩ := a
  have nd := sc__law_steps.nd
  refine bx_cons (sn_st 1 nd (pu_dnew kI isI)) fun behind_479 => ?_
  refine bx_cons (Sn.ent (.same (.same (.dead (.dead (.dead .nil))))) (sn_fr (fun g_480 : (List (Int × Int)) => [.lnt ((isT (isT isI)) solid_478), .own none ((isD kI isI) g_480), .dead, .dead, .dead]) behind_479 (wa_tup (al (A := (isT (isT isI))) (a := solid_478) 0)) (tn 2 nd) (fun x_481 g_482 => ?_))) fun g_483 => ?_
  · refine bn_cons (Sn.ent (.same (.same (.same (.dead (.dead .nil))))) (sn_fr (fun g_484 : (List (Int × Int)) => [.lnt ((isT (isT isI)) solid_478), .own none ((isD kI isI) g_484), .lnt ((isT isI) x_481), .dead, .dead]) g_482 (wa_rng1 (Pu.al (pu_b1 call_len (c_lenT (A := isI)) (al (A := (isT isI)) (a := x_481) 2) h_len bt_len)) h_range) (tn 3 nd) (fun x_485 g_486 => ?_))) fun g_487 => ?_
    · refine bn_cons (sn_dput (K := kI) 1 rfl (room1 hr) (al_ix ix_tup (o_ixT (A := isI)) (al (A := (isT isI)) (a := x_481) 2) (Pu.al (pu_bin op_mod o_mod (Pu.al (pu_t1 call_int1 c_int (Pu.al (pu_bin op_add o_int0 (al (A := isI) (a := x_485) 3) (Pu.al (pu_int)))) h_int bt_int)) (Pu.al (pu_b1 call_len (c_lenT (A := isI)) (al (A := (isT isI)) (a := x_481) 2) h_len bt_len))))) (al_ix ix_tup (o_ixT (A := isI)) (al (A := (isT isI)) (a := x_481) 2) (al (A := isI) (a := x_485) 3))) fun behind_488 => ?_
      exact bn_nil (.same (.same (.same (.dead (.dead .nil)))))
    · exact bn_nil (.same (.same (.dead (.dead (.dead .nil)))))
  · exact bx_last (sx_ret2D (A := (isD kI isI)) 1 (fun a => a) rfl (by decide) (pu_t1 (call_dictP rfl) c_dictPI (Pu.al (pu_lock (kf := Sum.inl) (A := isI) (B := (isL (isP isI isI))) 1 rfl (lc [("side", 4)] nd (wa_keysI (al (A := (isDf kI isI)) (a := g_483) 1)) (fun s_ H_ C_ cl_ fp_ => lcg1 4 nd) (tgs_name 4) (fun x_489 s_ H_ C_ cl_ fp_ => tc_nil) (fun x_489 s_ H_ C_ cl_ fp_ => (pu_pair (Al.pu (A := isI) (al (A := isI) (a := x_489) 4)) (pu_bin op_sub o_int0 (Pu.al (pu_bin op_add o_int0 (al (A := isI) (a := x_489) 4) (Pu.al (pu_int)))) (Pu.al (pu_bin op_mul o_mul (Pu.al (pu_int)) (Pu.al (pu_t1 call_int1 c_int (Pu.al (pu_bin op_mod o_mod (Pu.al (pu_t1 call_int1 c_int (al (A := isI) (a := x_489) 4) h_int bt_int)) (Pu.al (pu_int)))) h_int bt_int)))))))))) h_dict bt_dict) (fun _ => rfl) (fun _ => (.dead (.dead (.dead (.dead (.dead .nil)))))))
end K83
set_option maxHeartbeats 1000000
namespace K83
open PySem PySem.Spec L2 Rf
variable {P : Program} {w : World} {K : PySem.W.Frag} {mg : Str → Option Value} {base : Heap}

theorem fo__law_lead {f : Addr} {fd : FuncData} (F : Fun K "_law_lead" "_law_lead" s__law_lead f fd) (hb : Binds K fd ["steps", "side", "word"] []) (hm : mg "_law_lead" = some (.ref f)) : Fo P w K mg base 1 "_law_lead" ["steps", "side", "word"] (Sp__law_lead ) := by
  refine fo_pure F sc__law_lead hb hm rfl (by decide) (fun _ => rfl) (L := fun e => nomatch e) fun cdv A_ outer_ s_ H_ E_ hr a => ?_
  obtain ⟨steps_490, side_491, word_492, _⟩ := a
  have nd := sc__law_lead.nd
  refine Bx.imm (A := isI) 1 rfl ?_
  refine bx_cons (Sn.ent (.same (.same (.same (.dead .nil)))) (sn_fr (fun g_493 : Int => [.lnt ((isD kS (isD kI isI)) steps_490), .own none (isI g_493), .lnt (isS word_492), .dead]) side_491 (wa_str (al (A := isS) (a := word_492) 2)) (tn 3 nd) (fun x_494 g_495 => ?_))) fun g_496 => ?_
  · refine bn_cons (sn_st 1 nd (Al.pu (A := isI) (al_dget (K := kI) (room1 hr) (al_dget (K := kS) (room1 hr) (al (A := (isD kS (isD kI isI))) (a := steps_490) 0) (al (A := isS) (a := x_494) 3)) (av (A := isI) (a := g_495) 1)))) fun side_497 => ?_
    exact bn_nil (.same (.same (.same (.dead .nil))))
  · refine bx_last ?_
    refine sx_ret (A := isI) (p := (some g_496)) ?_ (fun a => a) ?_ ?_
    · exact Pu.eq (Al.pu (A := isI) (av (A := isI) (a := g_496) 1)) rfl
    · exact fun _ => rfl
    · exact fun _ => (.dead (.dead (.dead (.dead .nil))))
end K83
set_option maxHeartbeats 1000000
namespace K83
open PySem PySem.Spec L2 Rf
variable {P : Program} {w : World} {K : PySem.W.Frag} {mg : Str → Option Value} {base : Heap}

theorem fo__law_map {f : Addr} {fd : FuncData} (F : Fun K "_law_map" "_law_map" s__law_map f fd) (hb : Binds K fd ["steps", "word"] []) (hm : mg "_law_map" = some (.ref f)) (h_len : mg "len" = none) (h_range : mg "range" = none) (h_tuple : mg "tuple" = none) (G__law_lead : Fo P w K mg base 1 "_law_lead" ["steps", "side", "word"] (Sp__law_lead )) : Fo P w K mg base 2 "_law_map" ["steps", "word"] (Sp__law_map ) := by
  refine fo_pure F sc__law_map hb hm rfl (by decide) (fun _ => rfl) (L := fun e => nomatch e) fun cdv A_ outer_ s_ H_ E_ hr a => ?_
  obtain ⟨steps_498, word_499, _⟩ := a
  have nd := sc__law_map.nd
  refine bx_last ?_
  refine sx_ret (A := (isT isI)) (p := ((((((some steps_498).bind fun d => (some ("t" : Str)).bind fun k => dget d k).bind fun x => some (x.length : Int)).bind rng1).bind fun xs => (compO (fun x_500 => (some true)) (fun x_500 => (((some steps_498).bind fun x => ((some x_500).bind fun x => ((some word_499).bind fun x => (some ()).bind fun y => some (x, y)).bind fun y => some (x, y)).bind fun y => some (x, y)).bind fun b => f__law_lead b.1 b.2.1 b.2.2.1)) xs).bind fits).bind fun x => some x)) ?_ (fun a => a) ?_ ?_
  · exact Pu.eq (pu_t1 call_tuple_of c_tupleL (Pu.al (lc [("side", 2)] nd (wa_rng1 (Pu.al (pu_b1 call_lenD c_lenD (al_dget (K := kS) (room1 hr) (al (A := (isD kS (isD kI isI))) (a := steps_498) 0) (Pu.al (pu_str))) h_len bt_len)) h_range) (fun s_ H_ C_ cl_ fp_ => lcg1 2 nd) (tgs_name 2) (fun x_500 s_ H_ C_ cl_ fp_ => tc_nil) (fun x_500 s_ H_ C_ cl_ fp_ => (pu_callI (m := fun (a : (List (Str × (List (Int × Int)))) × Int × Str × Unit) => f__law_lead a.1 a.2.1 a.2.2.1) (G__law_lead.mono (k := 1) (by decide)) hr (ag_cons (al (A := (isD kS (isD kI isI))) (a := steps_498) 0) (ag_cons (al (A := isI) (a := x_500) 2) (ag_cons (al (A := isS) (a := word_499) 1) ag_nil))))))) h_tuple bt_tuple) rfl
  · exact fun _ => rfl
  · exact fun _ => (.dead (.dead (.dead .nil)))
end K83
set_option maxHeartbeats 1000000
namespace K83
open PySem PySem.Spec L2 Rf
variable {P : Program} {w : World} {K : PySem.W.Frag} {mg : Str → Option Value} {base : Heap}

theorem fo__law_all_words {f : Addr} {fd : FuncData} (F : Fun K "_law_all_words" "_law_all_words" s__law_all_words f fd) (hb : Binds K fd ["most"] []) (hm : mg "_law_all_words" = some (.ref f)) (h_range : mg "range" = none) : Fo P w K mg base 1 "_law_all_words" ["most"] (Sp__law_all_words ) := by
  refine fo_pure F sc__law_all_words hb hm rfl (by decide) (fun _ => rfl) (L := fun e => nomatch e) fun cdv A_ outer_ s_ H_ E_ hr a => ?_
  obtain ⟨most_501, _⟩ := a
  have nd := sc__law_all_words.nd
  refine bx_cons (sn_st 1 nd (pu_lst (A := isS) (ak_cons (pu_str) ak_nil) (by decide) (akl_cons akl_nil))) fun words_502 => ?_
  refine bx_cons (sn_st 2 nd (pu_lst (A := isS) (ak_cons (pu_str) ak_nil) (by decide) (akl_cons akl_nil))) fun last_503 => ?_
  refine bx_cons (Sn.ent (.same (.same (.same (.dead (.dead (.dead .nil)))))) (sn_fr (fun g_504 : (List Str) × (List Str) => [.lnt (isI most_501), .own none ((isL isS) g_504.1), .own none ((isL isS) g_504.2), .dead, .dead, .dead]) (words_502, last_503) (wa_rng1 (al (A := isI) (a := most_501) 0) h_range) (tn 3 nd) (fun x_505 g_506 => ?_))) fun g_507 => ?_
  · refine bn_cons (sn_st 4 nd (pu_lst (A := isS) ak_nil (by decide) akl_nil)) fun longer_508 => ?_
    refine bn_cons (sn_lend 2 rfl (Sn.ent (.same (.same (.same (.dead (.same (.dead .nil)))))) (sn_fr (fun g_509 : (List Str) => [.lnt (isI most_501), .own none ((isL isS) g_506.1), .lnt ((isL isS) g_506.2), .dead, .own none ((isL isS) g_509), .dead]) longer_508 (wa_list (.same (.dead (.same (.dead (.dead (.dead .nil)))))) rfl (al (A := (isL isS)) (a := g_506.2) 2)) (tn 5 nd) (fun x_510 g_511 => ?_))) (fun _ => rfl)) fun g_512 => ?_
    · refine bn_cons (sn_st 4 nd (pu_bin op_cat o_catL (av (A := (isL isS)) (a := g_511) 4) (Pu.al (pu_lst (A := isS) (ak_cons (pu_bin op_add_str o_addS (al (A := isS) (a := x_510) 5) (Pu.al (pu_str))) (ak_cons (pu_bin op_add_str o_addS (al (A := isS) (a := x_510) 5) (Pu.al (pu_str))) ak_nil)) (by decide) (akl_cons (akl_cons akl_nil)))))) fun longer_513 => ?_
      exact bn_nil (.same (.same (.same (.dead (.same (.dead .nil))))))
    · refine bn_cons (sn_mv (A := (isL isS)) 2 4 nd rfl) fun _ => ?_
      refine bn_cons (sn_st 1 nd (pu_bin op_cat o_catL (av (A := (isL isS)) (a := g_506.1) 1) (av (A := (isL isS)) (a := g_512) 2))) fun words_515 => ?_
      exact bn_nil (.same (.same (.same (.dead (.dead (.dead .nil))))))
  · exact bx_last (sx_retMv (A := (isL isS)) 1 g_507.1 rfl rfl (.dead (.dead (.dead (.dead (.dead (.dead .nil)))))))
end K83
set_option maxHeartbeats 1000000
namespace K83
open PySem PySem.Spec L2 Rf
variable {P : Program} {w : World} {K : PySem.W.Frag} {mg : Str → Option Value} {base : Heap}

theorem fo__law_firsts (n : Nat) {f : Addr} {fd : FuncData} (F : Fun K "_law_firsts" "_law_firsts" s__law_firsts f fd) (hb : Binds K fd ["steps", "start"] []) (hm : mg "_law_firsts" = some (.ref f)) (h_len : mg "len" = none) : Fo P w K mg base 1 "_law_firsts" ["steps", "start"] (Sp__law_firsts n) := by
  refine fo_pure F sc__law_firsts hb hm rfl (by decide) (fun _ => rfl) (L := fun e => nomatch e) fun cdv A_ outer_ s_ H_ E_ hr a => ?_
  obtain ⟨steps_516, start_517, _⟩ := a
  have nd := sc__law_firsts.nd
  refine bx_cons (sn_st 2 nd (pu_disp1I (al (A := isI) (a := start_517) 1) (pu_str))) fun found_518 => ?_
  refine bx_cons (sn_st 3 nd (pu_lst (A := isI) (ak_cons (Al.pu (A := isI) (al (A := isI) (a := start_517) 1)) ak_nil) (by decide) (akl_cons akl_nil))) fun todo_519 => ?_
  refine bx_cons (sn_st 4 nd (pu_int)) fun at_520 => ?_
  refine bx_cons (Sn.ent (.same (.dead (.same (.same (.same (.dead (.dead (.dead .nil)))))))) (sn_while (Γ := (fun g_521 : (List (Int × Str)) × (List Int) × Int => [.lnt ((isD kS (isD kI isI)) steps_516), .dead, .own none ((isD kI isS) g_521.1), .own none ((isL isI) g_521.2.1), .own none (isI g_521.2.2), .dead, .dead, .dead])) (g0 := (found_518, todo_519, at_520)) n (fun g_522 => (te_cmp op_lt (o_intB (g := fun x y => decide (x < y))) (av (A := isI) (a := g_522.2.2) 4) (Pu.al (pu_b1 call_len (c_lenL (A := isI)) (av (A := (isL isI)) (a := g_522.2.1) 3) h_len bt_len)))) (fun g_523 => ?_))) fun g_524 => ?_
  · refine bn_cons (sn_st 5 nd (Al.pu (A := isI) (al_ix ix_list (o_ixL (A := isI)) (av (A := (isL isI)) (a := g_523.2.1) 3) (av (A := isI) (a := g_523.2.2) 4)))) fun here_525 => ?_
    refine bn_cons (Sn.ent (.same (.dead (.same (.same (.same (.same (.dead (.dead .nil)))))))) (sn_fr (fun g_526 : (List (Int × Str)) × (List Int) => [.lnt ((isD kS (isD kI isI)) steps_516), .dead, .own none ((isD kI isS) g_526.1), .own none ((isL isI) g_526.2), .own none (isI g_523.2.2), .own none (isI here_525), .dead, .dead]) (g_523.1, g_523.2.1) (wa_str (Pu.al (pu_str))) (tn 6 nd) (fun x_527 g_528 => ?_))) fun g_529 => ?_
    · refine bn_cons (sn_st 7 nd (Al.pu (A := isI) (al_dget (K := kI) (room1 hr) (al_dget (K := kS) (room1 hr) (al (A := (isD kS (isD kI isI))) (a := steps_516) 0) (al (A := isS) (a := x_527) 6)) (av (A := isI) (a := here_525) 5)))) fun there_530 => ?_
      refine bn_cons (sn_if (N := (fun b_540 : (List (Int × Str)) × (List Int) => [.lnt ((isD kS (isD kI isI)) steps_516), .dead, .own none ((isD kI isS) b_540.1), .own none ((isL isI) b_540.2), .own none (isI g_523.2.2), .own none (isI here_525), .dead, .dead])) (te_dnotin (K := kI) (room1 hr) (av (A := isI) (a := there_530) 7) (av (A := (isD kI isS)) (a := g_528.1) 2)) ?_ ?_) fun b_531 => ?_
      · refine bn_cons (sn_dput (K := kI) 2 rfl (room1 hr) (Pu.al (pu_bin op_add_str o_addS (al_dget (K := kI) (room1 hr) (av (A := (isD kI isS)) (a := g_528.1) 2) (av (A := isI) (a := here_525) 5)) (al (A := isS) (a := x_527) 6))) (av (A := isI) (a := there_530) 7)) fun found_532 => ?_
        refine bn_cons (Sn.ent (.same (.dead (.same (.same (.same (.same (.same (.same .nil)))))))) (sn_exprE (Γ := (fun s_537 : (List Int) => [.lnt ((isD kS (isD kI isI)) steps_516), .dead, .own none ((isD kI isS) found_532), .own none ((isL isI) s_537), .own none (isI g_523.2.2), .own none (isI here_525), .lnt (isS x_527), .own none (isI there_530)])) (s0 := g_528.2) (A := isN) (m := ((((some there_530).bind fun x => (some ()).bind fun y => some (x, y)).bind fun a => some (a, g_528.2)).bind fun b_538 => (lapp b_538.2 b_538.1).bind fun z => some (z.1, z.2))) (Ef.eq (ef_meth (i := 3) (C := (isL isI)) (f := lapp) (get := fun s_534 => s_534) (put := fun s_534 c_535 => c_535) ⟨fun _ => ⟨_, rfl, fun _ => rfl⟩⟩ PySem.F.plainAttrs_list PySem.F.slot_list_append PySem.F.type_list_append mt_append mo_append ty_L (ae_pu (ah_cons (Al.pu (A := isI) (av (A := isI) (a := there_530) 7)) ah_nil))) rfl))) fun s_536 => ?_
        exact bn_nil (.same (.dead (.same (.same (.same (.same (.dead (.dead .nil))))))))
      · exact bn_nil (.same (.dead (.same (.same (.same (.same (.dead (.dead .nil))))))))
      · exact bn_nil (.same (.dead (.same (.same (.same (.same (.dead (.dead .nil))))))))
    · refine bn_cons (sn_aug 4 nd rfl ip_add (Pu.al (pu_int))) fun at_541 => ?_
      exact bn_nil (.same (.dead (.same (.same (.same (.dead (.dead (.dead .nil))))))))
  · exact bx_last (sx_retMv (A := (isD kI isS)) 2 g_524.1 rfl rfl (.dead (.dead (.dead (.dead (.dead (.dead (.dead (.dead .nil)))))))))
end K83
set_option maxHeartbeats 1000000
namespace K83
open PySem PySem.Spec L2 Rf
variable {P : Program} {w : World} {K : PySem.W.Frag} {mg : Str → Option Value} {base : Heap}

theorem fo__law_word (n : Nat) {f : Addr} {fd : FuncData} (F : Fun K "_law_word" "_law_word" s__law_word f fd) (hb : Binds K fd ["cup", "most"] []) (hm : mg "_law_word" = some (.ref f)) (h_int : mg "int" = none) (h_len : mg "len" = none) (h_range : mg "range" = none) (G__law_sip : Fo P w K mg base 1 "_law_sip" ["cup", "many"] (Sp__law_sip n)) : Fo P w K mg base 2 "_law_word" ["cup", "most"] (Sp__law_word n) := by
  refine fo_mut F sc__law_word hb hm rfl (by decide) (fun _ => rfl) (L := fun e => nomatch e) fun cdv A_ outer_ s_ H_ E_ hr v0 c a => ?_
  obtain ⟨most_543, _⟩ := a
  revert c; intro cup_542
  have nd := sc__law_word.nd
  refine bx_cons (Sn.ent (.same (.same (.dead (.dead (.dead .nil))))) (sn_stE 2 (Γ := (fun s_547 : Cup => [.own (some v0) (isCup s_547), .lnt (isI most_543), .dead, .dead, .dead])) (s0 := cup_542) (A := isI) (m := (((some (4 : Int)).bind fun x => (some ()).bind fun y => some (x, y)).bind fun b_549 => (f__law_sip n cup_542 b_549.1).bind fun r => some (r.1, r.2))) nd (Ef.eq (ef_callMI (i := 0) (m := fun (c : Cup) (a : Int × Unit) => f__law_sip n c a.1) (As := fun (a : Int × Unit) => [isI a.1]) (get := fun s_545 => s_545) (put := fun s_545 c_546 => c_546) ⟨fun _ => ⟨_, rfl, fun _ => rfl⟩⟩ (G__law_sip.mono (k := 1) (by decide)) hr (ag_cons (Pu.al (pu_int)) ag_nil)) rfl))) fun b_548 => ?_
  refine bx_cons (Sn.ent (.same (.same (.same (.dead (.dead .nil))))) (sn_stE 3 (Γ := (fun s_557 : Cup => [.own (some v0) (isCup s_557), .lnt (isI most_543), .own none (isI b_548.1), .dead, .dead])) (s0 := b_548.2) (A := isS) (m := ((((((some most_543).bind fun x => (some ()).bind fun y => some (x, y)).bind fun b_564 => (f__law_sip n b_548.2 b_564.1).bind fun r => some (r.1, r.2)).bind fun x_563 => (rng1 x_563.1).bind fun xs => some (xs, x_563.2)).bind fun w_560 => (compS (fun x_554 s_562 => ((((some (["rt", "rrt", "ttr", "rt"] : List Str)).bind fun x => (some b_548.1).bind fun y => atI x y).bind fun a => some (a, s_562)).bind fun x_565 => ((((some (2 : Int)).bind fun x => (((some b_548.1).bind fun x => (some ([1, 2] : List Int)).bind fun y => some (y.contains x)).bind fun x => some (if x then 1 else 0)).bind fun y => some (x + y)).bind fun x => (some ()).bind fun y => some (x, y)).bind fun b_567 => (f__law_sip n x_565.2 b_567.1).bind fun r => some (r.1, r.2)).bind fun y_566 => (sat x_565.1 y_566.1).bind fun z => some (z, y_566.2))) w_560.1 w_560.2).bind fun z_561 => (fits z_561.1).bind fun ys => some (ys, z_561.2)).bind fun x_559 => (sjoin "" x_559.1).bind fun z => some (z, x_559.2))) nd (Ef.eq (ef_join (ef_lc (A := isS) [("at", 4)] nd (we_rng1 (ef_callMI (i := 0) (m := fun (c : Cup) (a : Int × Unit) => f__law_sip n c a.1) (As := fun (a : Int × Unit) => [isI a.1]) (get := fun s_552 => s_552) (put := fun s_552 c_553 => c_553) ⟨fun _ => ⟨_, rfl, fun _ => rfl⟩⟩ (G__law_sip.mono (k := 1) (by decide)) hr (ag_cons (al (A := isI) (a := most_543) 1) ag_nil)) h_range) (fun s_ H_ C_ cl_ fp_ => lcg1 4 nd) (tgs_name 4) (fun _ _ => (.same (.same (.same (.same (.dead .nil)))))) (fun x_554 _ s_ H_ C_ cl_ fp_ => ef_ix (C := isS) ix_str o_ixS (Pu.ef (Al.pu (A := isS) (al_ix ix_tup (o_ixT (A := isS)) (Pu.al (pu_cs (["rt", "rrt", "ttr", "rt"] : List Str))) (av (A := isI) (a := b_548.1) 2)))) (fun _ _ => ef_callMI (i := 0) (m := fun (c : Cup) (a : Int × Unit) => f__law_sip n c a.1) (As := fun (a : Int × Unit) => [isI a.1]) (get := fun s_555 => s_555) (put := fun s_555 c_556 => c_556) ⟨fun _ => ⟨_, rfl, fun _ => rfl⟩⟩ (G__law_sip.mono (k := 1) (by decide)) hr (ag_cons (Pu.al (pu_bin op_add o_int0 (Pu.al (pu_int)) (Pu.al (pu_t1 call_int1 c_intB (Pu.al (pu_cmp op_in_seq o_inT (av (A := isI) (a := b_548.1) 2) (Pu.al (pu_ci ([1, 2] : List Int))))) h_int bt_int)))) ag_nil))))) rfl))) fun b_558 => ?_
  refine bx_last ?_
  refine sx_retE (Γ := (fun s_579 : Cup => [.own (some v0) (isCup s_579), .lnt (isI most_543), .own none (isI b_548.1), .own none (isS b_558.1), .dead])) (s0 := b_558.2) (A := isS) (m := ((((some b_548.1).bind fun x => (some (3 : Int)).bind fun y => some (decide (x = y))).bind fun c => if c = true then (((some b_558.1).bind fun x => slen x).bind fun x => (some (90 : Int)).bind fun y => some (decide (x < y))) else some false).bind fun d => if d = true then (((some b_558.1).bind fun a => some (a, b_558.2)).bind fun x_581 => (((some (1 : Int)).bind fun a => some (a, x_581.2)).bind fun x_583 => (((some (3 : Int)).bind fun x => (some ()).bind fun y => some (x, y)).bind fun b_585 => (f__law_sip n x_583.2 b_585.1).bind fun r => some (r.1, r.2)).bind fun y_584 => (some (x_583.1 + y_584.1)).bind fun z => some (z, y_584.2)).bind fun y_582 => (smul x_581.1 y_582.1).bind fun z => some (z, y_582.2)) else ((some b_558.1).bind fun a => some (a, b_558.2)))) ?_ (fun a s_580 => ((a, s_580) : (Str × Cup))) ?_ ?_
  · exact Ef.eq (ef_if (Tw.te (tw_and (te_cmp op_eq o_eqI (av (A := isI) (a := b_548.1) 2) (Pu.al (pu_int))) (tw_and1 (te_cmp op_lt (o_intB (g := fun x y => decide (x < y))) (Pu.al (pu_b1 call_len c_lenS (av (A := isS) (a := b_558.1) 3) h_len bt_len)) (Pu.al (pu_int)))))) (ef_bin op_mulS o_mulS (Pu.ef (Al.pu (A := isS) (av (A := isS) (a := b_558.1) 3))) (fun _ _ => ef_bin op_add o_int0 (Pu.ef (pu_int)) (fun _ _ => ef_callMI (i := 0) (m := fun (c : Cup) (a : Int × Unit) => f__law_sip n c a.1) (As := fun (a : Int × Unit) => [isI a.1]) (get := fun s_577 => s_577) (put := fun s_577 c_578 => c_578) ⟨fun _ => ⟨_, rfl, fun _ => rfl⟩⟩ (G__law_sip.mono (k := 1) (by decide)) hr (ag_cons (Pu.al (pu_int)) ag_nil)))) (Pu.ef (Al.pu (A := isS) (av (A := isS) (a := b_558.1) 3)))) rfl
  · exact fun _ _ => rfl
  · exact fun _ _ => (.same (.dead (.dead (.dead (.dead .nil)))))
end K83
set_option maxHeartbeats 1000000
namespace K83
open PySem PySem.Spec L2 Rf
variable {P : Program} {w : World} {K : PySem.W.Frag} {mg : Str → Option Value} {base : Heap}

theorem fo__law_plain {f : Addr} {fd : FuncData} (F : Fun K "_law_plain" "_law_plain" s__law_plain f fd) (hb : Binds K fd ["word"] []) (hm : mg "_law_plain" = some (.ref f)) (h_len : mg "len" = none) : Fo P w K mg base 1 "_law_plain" ["word"] (Sp__law_plain ) := by
  refine fo_pure F sc__law_plain hb hm rfl (by decide) (fun _ => rfl) (L := fun e => nomatch e) fun cdv A_ outer_ s_ H_ E_ hr a => ?_
  obtain ⟨word_591, _⟩ := a
  have nd := sc__law_plain.nd
  refine bx_cons (sn_st 1 nd (pu_lst (A := isS) ak_nil (by decide) akl_nil)) fun told_592 => ?_
  refine bx_cons (Sn.ent (.same (.same (.dead .nil))) (sn_fr (fun g_593 : (List Str) => [.lnt (isS word_591), .own none ((isL isS) g_593), .dead]) told_592 (wa_str (al (A := isS) (a := word_591) 0)) (tn 2 nd) (fun x_594 g_595 => ?_))) fun g_596 => ?_
  · refine bn_cons (sn_if (N := (fun b_610 : (List Str) => [.lnt (isS word_591), .own none ((isL isS) b_610), .dead])) (Tw.te (tw_and (te_cmp op_eq o_eqS (al (A := isS) (a := x_594) 2) (Pu.al (pu_str))) (tw_and (te_cmp op_gt (o_intB (g := fun x y => decide (y < x))) (Pu.al (pu_b1 call_len (c_lenL (A := isS)) (av (A := (isL isS)) (a := g_595) 1) h_len bt_len)) (Pu.al (pu_int))) (tw_and1 (te_cmp op_eq o_eqS (al_ix ix_list (o_ixL (A := isS)) (av (A := (isL isS)) (a := g_595) 1) (Pu.al (pu_un un_neg o_neg (Pu.al (pu_int))))) (Pu.al (pu_str))))))) ?_ ?_) fun b_597 => ?_
    · refine bn_cons (Sn.ent (.same (.same (.same .nil))) (sn_exprE (Γ := (fun s_602 : (List Str) => [.lnt (isS word_591), .own none ((isL isS) s_602), .lnt (isS x_594)])) (s0 := g_595) (A := isS) (m := ((lpop g_595 ()).bind fun z => some (z.1, z.2))) (Ef.eq (ef_meth0 (i := 1) (C := (isL isS)) (f := lpop) (get := fun s_599 => s_599) (put := fun s_599 c_600 => c_600) ⟨fun _ => ⟨_, rfl, fun _ => rfl⟩⟩ PySem.F.plainAttrs_list PySem.F.slot_list_pop PySem.F.type_list_pop mt_pop mo_pop ty_L) rfl))) fun s_601 => ?_
      exact bn_nil (.same (.same (.dead .nil)))
    · refine bn_cons (Sn.ent (.same (.same (.same .nil))) (sn_exprE (Γ := (fun s_607 : (List Str) => [.lnt (isS word_591), .own none ((isL isS) s_607), .lnt (isS x_594)])) (s0 := g_595) (A := isN) (m := ((((some x_594).bind fun x => (some ()).bind fun y => some (x, y)).bind fun a => some (a, g_595)).bind fun b_608 => (lapp b_608.2 b_608.1).bind fun z => some (z.1, z.2))) (Ef.eq (ef_meth (i := 1) (C := (isL isS)) (f := lapp) (get := fun s_604 => s_604) (put := fun s_604 c_605 => c_605) ⟨fun _ => ⟨_, rfl, fun _ => rfl⟩⟩ PySem.F.plainAttrs_list PySem.F.slot_list_append PySem.F.type_list_append mt_append mo_append ty_L (ae_pu (ah_cons (Al.pu (A := isS) (al (A := isS) (a := x_594) 2)) ah_nil))) rfl))) fun s_606 => ?_
      exact bn_nil (.same (.same (.dead .nil)))
    · exact bn_nil (.same (.same (.dead .nil)))
  · refine bx_last ?_
    refine sx_ret (A := isS) (p := ((some g_596).bind fun ys => sjoin "" ys)) ?_ (fun a => a) ?_ ?_
    · exact Pu.eq (pu_join (av (A := (isL isS)) (a := g_596) 1)) rfl
    · exact fun _ => rfl
    · exact fun _ => (.dead (.dead (.dead .nil)))
end K83
set_option maxHeartbeats 1000000
namespace K83
open PySem PySem.Spec L2 Rf
variable {P : Program} {w : World} {K : PySem.W.Frag} {mg : Str → Option Value} {base : Heap}

theorem fo__law_common (n : Nat) {f : Addr} {fd : FuncData} (F : Fun K "_law_common" "_law_common" s__law_common f fd) (hb : Binds K fd ["solid"] []) (hm : mg "_law_common" = some (.ref f)) (h_int : mg "int" = none) (h_len : mg "len" = none) : Fo P w K mg base 1 "_law_common" ["solid"] (Sp__law_common n) := by
  refine fo_pure F sc__law_common hb hm rfl (by decide) (fun _ => rfl) (L := fun e => nomatch e) fun cdv A_ outer_ s_ H_ E_ hr a => ?_
  obtain ⟨solid_611, _⟩ := a
  have nd := sc__law_common.nd
  refine bx_cons (sn_stLc 1 [("face", 2)] nd (wa_tup (al (A := (isT (isT isI))) (a := solid_611) 0)) (fun s_ H_ C_ cl_ fp_ => lcg1 2 nd) (tgs_name 2) (fun x_613 s_ H_ C_ cl_ fp_ => tc_nil) (fun x_613 s_ H_ C_ cl_ fp_ => (pu_b1 call_len (c_lenT (A := isI)) (al (A := (isT isI)) (a := x_613) 2) h_len bt_len))) fun sizes_612 => ?_
  refine bx_cons (sn_st 3 nd (pu_int)) fun number_614 => ?_
  refine bx_cons (sn_lend 1 rfl (Sn.ent (.dead (.same (.dead (.same (.dead .nil))))) (sn_while (Γ := (fun g_615 : Int => [.dead, .lnt ((isL isI) sizes_612), .dead, .own none (isI g_615), .dead])) (g0 := number_614) n (fun g_616 => (te_cmp op_gt (o_intB (g := fun x y => decide (y < x))) (Pu.al (pu_b1 call_len (c_lenL (A := isI)) (Pu.al (lc [("size", 4)] nd (wa_list (.dead (.same (.dead (.dead (.dead .nil))))) rfl (al (A := (isL isI)) (a := sizes_612) 1)) (fun s_ H_ C_ cl_ fp_ => lcg1 4 nd) (tgs_name 4) (fun x_618 s_ H_ C_ cl_ fp_ => tc_one (te_cmp op_gt (o_intB (g := fun x y => decide (y < x))) (Pu.al (pu_bin op_mod o_mod (Pu.al (pu_t1 call_int1 c_int (av (A := isI) (a := g_616) 3) h_int bt_int)) (al (A := isI) (a := x_618) 4))) (Pu.al (pu_int)))) (fun x_618 s_ H_ C_ cl_ fp_ => (Al.pu (A := isI) (al (A := isI) (a := x_618) 4))))) h_len bt_len)) (Pu.al (pu_int)))) (fun g_617 => ?_))) (fun _ => rfl)) fun g_619 => ?_
  · refine bn_cons (sn_aug 3 nd rfl ip_add (Pu.al (pu_int))) fun number_620 => ?_
    exact bn_nil (.dead (.same (.dead (.same (.dead .nil)))))
  · refine bx_last ?_
    refine sx_ret (A := isI) (p := (some g_619)) ?_ (fun a => a) ?_ ?_
    · exact Pu.eq (Al.pu (A := isI) (av (A := isI) (a := g_619) 3)) rfl
    · exact fun _ => rfl
    · exact fun _ => (.dead (.dead (.dead (.dead (.dead .nil)))))
end K83
set_option maxHeartbeats 1000000
namespace K83
open PySem PySem.Spec L2 Rf
variable {P : Program} {w : World} {K : PySem.W.Frag} {mg : Str → Option Value} {base : Heap}

theorem fo__law_back (n : Nat) {f : Addr} {fd : FuncData} (F : Fun K "_law_back" "_law_back" s__law_back f fd) (hb : Binds K fd ["solid", "word"] []) (hm : mg "_law_back" = some (.ref f)) (G__law_common : Fo P w K mg base 1 "_law_common" ["solid"] (Sp__law_common n)) : Fo P w K mg base 2 "_law_back" ["solid", "word"] (Sp__law_back n) := by
  refine fo_pure F sc__law_back hb hm rfl (by decide) (fun _ => rfl) (L := fun e => nomatch e) fun cdv A_ outer_ s_ H_ E_ hr a => ?_
  obtain ⟨solid_621, word_622, _⟩ := a
  have nd := sc__law_back.nd
  refine bx_cons (sn_st 2 nd (pu_bin op_mulS o_mulS (Pu.al (pu_str)) (Pu.al (pu_bin op_sub o_int0 (Pu.al (pu_callI (m := fun (a : (List (List Int)) × Unit) => f__law_common n a.1) (G__law_common.mono (k := 1) (by decide)) hr (ag_cons (al (A := (isT (isT isI))) (a := solid_621) 0) ag_nil))) (Pu.al (pu_int)))))) fun laps_623 => ?_
  refine bx_last ?_
  refine sx_ret (A := isS) (p := (((((some word_622).bind srev).map fun x => x.cps.toList.map fun c => (⟨#[c]⟩ : Str)).bind fun xs => (compO (fun x_624 => (some true)) (fun x_624 => (((some x_624).bind fun x => (some ("t" : Str)).bind fun y => some (decide (x = y))).bind fun d => if d = true then (some laps_623) else (some ("r" : Str)))) xs).bind fits).bind fun ys => sjoin "" ys)) ?_ (fun a => a) ?_ ?_
  · exact Pu.eq (pu_join (Pu.al (lc [("letter", 3)] nd (wa_str (Pu.al (pu_revS (al (A := isS) (a := word_622) 1)))) (fun s_ H_ C_ cl_ fp_ => lcg1 3 nd) (tgs_name 3) (fun x_624 s_ H_ C_ cl_ fp_ => tc_nil) (fun x_624 s_ H_ C_ cl_ fp_ => (pu_if (te_cmp op_eq o_eqS (al (A := isS) (a := x_624) 3) (Pu.al (pu_str))) (Al.pu (A := isS) (av (A := isS) (a := laps_623) 2)) (pu_str)))))) rfl
  · exact fun _ => rfl
  · exact fun _ => (.dead (.dead (.dead (.dead .nil))))
end K83
set_option maxHeartbeats 1000000
namespace K83
open PySem PySem.Spec L2 Rf
variable {P : Program} {w : World} {K : PySem.W.Frag} {mg : Str → Option Value} {base : Heap}

theorem fo__law_likes (n : Nat) {f : Addr} {fd : FuncData} (F : Fun K "_law_likes" "_law_likes" s__law_likes f fd) (hb : Binds K fd ["cup", "solid", "steps"] []) (hm : mg "_law_likes" = some (.ref f)) (h_len : mg "len" = none) (GK_plain_word_word : FoK P w K mg base 1 "plain_word" ["word"] ["word"] [0] (Sp_plain_word )) (G__law_word : Fo P w K mg base 2 "_law_word" ["cup", "most"] (Sp__law_word n)) (G__law_common : Fo P w K mg base 1 "_law_common" ["solid"] (Sp__law_common n)) (G__law_sip : Fo P w K mg base 1 "_law_sip" ["cup", "many"] (Sp__law_sip n)) (G__law_plain : Fo P w K mg base 1 "_law_plain" ["word"] (Sp__law_plain )) (G__law_map : Fo P w K mg base 2 "_law_map" ["steps", "word"] (Sp__law_map )) (G__law_same : Fo P w K mg base 1 "_law_same" ["told", "due"] (Sp__law_same n)) (G_are_like_words : Fo P w K mg base 4 "are_like_words" ["solid", "one", "other"] (Sp_are_like_words )) (G_plain_word : Fo P w K mg base 1 "plain_word" ["word"] (Sp_plain_word )) (G__law_back : Fo P w K mg base 2 "_law_back" ["solid", "word"] (Sp__law_back n)) (G_word_back : Fo P w K mg base 3 "word_back" ["solid", "word"] (Sp_word_back )) : Fo P w K mg base 5 "_law_likes" ["cup", "solid", "steps"] (Sp__law_likes n) := by
  refine fo_mut F sc__law_likes hb hm rfl (by decide) (fun _ => rfl) (L := fun e => nomatch e) fun cdv A_ outer_ s_ H_ E_ hr v0 c a => ?_
  obtain ⟨solid_626, steps_627, _⟩ := a
  revert c; intro cup_625
  have nd := sc__law_likes.nd
  refine bx_cons (Sn.ent (.same (.same (.same (.dead (.dead (.dead (.dead (.dead (.dead (.dead (.dead .nil))))))))))) (sn_stE 3 (Γ := (fun s_631 : Cup => [.own (some v0) (isCup s_631), .lnt ((isT (isT isI)) solid_626), .lnt ((isD kS (isD kI isI)) steps_627), .dead, .dead, .dead, .dead, .dead, .dead, .dead, .dead])) (s0 := cup_625) (A := isS) (m := (((some (12 : Int)).bind fun x => (some ()).bind fun y => some (x, y)).bind fun b_633 => (f__law_word n cup_625 b_633.1).bind fun r => some (r.1, r.2))) nd (Ef.eq (ef_callMI (i := 0) (m := fun (c : Cup) (a : Int × Unit) => f__law_word n c a.1) (As := fun (a : Int × Unit) => [isI a.1]) (get := fun s_629 => s_629) (put := fun s_629 c_630 => c_630) ⟨fun _ => ⟨_, rfl, fun _ => rfl⟩⟩ (G__law_word.mono (k := 4) (by decide)) hr (ag_cons (Pu.al (pu_int)) ag_nil)) rfl))) fun b_632 => ?_
  refine bx_cons (sn_st 4 nd (pu_callI (m := fun (a : (List (List Int)) × Unit) => f__law_common n a.1) (G__law_common.mono (k := 4) (by decide)) hr (ag_cons (al (A := (isT (isT isI))) (a := solid_626) 1) ag_nil))) fun number_635 => ?_
  refine bx_cons (sn_st 5 nd (pu_if (te_cmp op_lt (o_intB (g := fun x y => decide (x < y))) (av (A := isI) (a := number_635) 4) (Pu.al (pu_int))) (pu_bin op_mulS o_mulS (Pu.al (pu_str)) (av (A := isI) (a := number_635) 4)) (pu_str))) fun lap_636 => ?_
  refine bx_cons (Sn.ent (.same (.same (.same (.same (.same (.same (.dead (.dead (.dead (.dead (.dead .nil))))))))))) (sn_stE 6 (Γ := (fun s_640 : Cup => [.own (some v0) (isCup s_640), .lnt ((isT (isT isI)) solid_626), .lnt ((isD kS (isD kI isI)) steps_627), .own none (isS b_632.1), .own none (isI number_635), .own none (isS lap_636), .dead, .dead, .dead, .dead, .dead])) (s0 := b_632.2) (A := isI) (m := (((((some b_632.1).bind fun x => slen x).bind fun x => (some (1 : Int)).bind fun y => some (x + y)).bind fun x => (some ()).bind fun y => some (x, y)).bind fun b_642 => (f__law_sip n b_632.2 b_642.1).bind fun r => some (r.1, r.2))) nd (Ef.eq (ef_callMI (i := 0) (m := fun (c : Cup) (a : Int × Unit) => f__law_sip n c a.1) (As := fun (a : Int × Unit) => [isI a.1]) (get := fun s_638 => s_638) (put := fun s_638 c_639 => c_639) ⟨fun _ => ⟨_, rfl, fun _ => rfl⟩⟩ (G__law_sip.mono (k := 4) (by decide)) hr (ag_cons (Pu.al (pu_bin op_add o_int0 (Pu.al (pu_b1 call_len c_lenS (av (A := isS) (a := b_632.1) 3) h_len bt_len)) (Pu.al (pu_int)))) ag_nil)) rfl))) fun b_641 => ?_
  refine bx_cons (Sn.ent (.same (.same (.same (.same (.same (.same (.same (.dead (.dead (.dead (.dead .nil))))))))))) (sn_stE 7 (Γ := (fun s_647 : Cup => [.own (some v0) (isCup s_647), .lnt ((isT (isT isI)) solid_626), .lnt ((isD kS (isD kI isI)) steps_627), .own none (isS b_632.1), .own none (isI number_635), .own none (isS lap_636), .own none (isI b_641.1), .dead, .dead, .dead, .dead])) (s0 := b_641.2) (A := (isL isS)) (m := (((some b_632.1).bind fun a => some (a, b_641.2)).bind fun x_649 => (((((some b_632.1).bind fun x => (some ()).bind fun y => some (x, y)).bind fun b => f__law_plain b.1).bind fun a => some (a, x_649.2)).bind fun x_651 => ((((((some b_632.1).bind fun x => (some none).bind fun a => ((some b_641.1).map some).bind fun b => scut x a b).bind fun x => (some ("rr" : Str)).bind fun y => scat x y).bind fun x => ((some b_632.1).bind fun x => ((some b_641.1).map some).bind fun a => (some none).bind fun b => scut x a b).bind fun y => scat x y).bind fun a => some (a, x_651.2)).bind fun x_653 => ((((((some b_632.1).bind fun x => (some none).bind fun a => ((some b_641.1).map some).bind fun b => scut x a b).bind fun x => (some lap_636).bind fun y => scat x y).bind fun x => ((some b_632.1).bind fun x => ((some b_641.1).map some).bind fun a => (some none).bind fun b => scut x a b).bind fun y => scat x y).bind fun a => some (a, x_653.2)).bind fun x_655 => ((((some b_632.1).bind fun x => (some ("t" : Str)).bind fun y => scat x y).bind fun a => some (a, x_655.2)).bind fun x_657 => ((((some b_632.1).bind srev).bind fun a => some (a, x_657.2)).bind fun x_659 => ((((some (12 : Int)).bind fun x => (some ()).bind fun y => some (x, y)).bind fun b_663 => (f__law_word n x_659.2 b_663.1).bind fun r => some (r.1, r.2)).bind fun x_661 => ((((some b_632.1).bind fun x => (some ("r" : Str)).bind fun y => scat x y).bind fun a => some (a, x_661.2)).bind fun x_664 => ((((some ("t" : Str)).bind fun x => (some b_632.1).bind fun y => scat x y).bind fun a => some (a, x_664.2)).bind fun x_666 => (some ([], x_666.2)).bind fun y_667 => some (x_666.1 :: y_667.1, y_667.2)).bind fun y_665 => some (x_664.1 :: y_665.1, y_665.2)).bind fun y_662 => some (x_661.1 :: y_662.1, y_662.2)).bind fun y_660 => some (x_659.1 :: y_660.1, y_660.2)).bind fun y_658 => some (x_657.1 :: y_658.1, y_658.2)).bind fun y_656 => some (x_655.1 :: y_656.1, y_656.2)).bind fun y_654 => some (x_653.1 :: y_654.1, y_654.2)).bind fun y_652 => some (x_651.1 :: y_652.1, y_652.2)).bind fun y_650 => some (x_649.1 :: y_650.1, y_650.2))) nd (Ef.eq (ef_lstL (A := isS) (akL_cons (Pu.ef (Al.pu (A := isS) (av (A := isS) (a := b_632.1) 3))) fun _ _ => (akL_cons (Pu.ef (pu_callI (m := fun (a : Str × Unit) => f__law_plain a.1) (G__law_plain.mono (k := 4) (by decide)) hr (ag_cons (av (A := isS) (a := b_632.1) 3) ag_nil))) fun _ _ => (akL_cons (Pu.ef (pu_bin op_add_str o_addS (Pu.al (pu_bin op_add_str o_addS (Pu.al (pu_sl sl_str s_str (av (A := isS) (a := b_632.1) 3) so_none (so_some (av (A := isI) (a := b_641.1) 6)))) (Pu.al (pu_str)))) (Pu.al (pu_sl sl_str s_str (av (A := isS) (a := b_632.1) 3) (so_some (av (A := isI) (a := b_641.1) 6)) so_none)))) fun _ _ => (akL_cons (Pu.ef (pu_bin op_add_str o_addS (Pu.al (pu_bin op_add_str o_addS (Pu.al (pu_sl sl_str s_str (av (A := isS) (a := b_632.1) 3) so_none (so_some (av (A := isI) (a := b_641.1) 6)))) (av (A := isS) (a := lap_636) 5))) (Pu.al (pu_sl sl_str s_str (av (A := isS) (a := b_632.1) 3) (so_some (av (A := isI) (a := b_641.1) 6)) so_none)))) fun _ _ => (akL_cons (Pu.ef (pu_bin op_add_str o_addS (av (A := isS) (a := b_632.1) 3) (Pu.al (pu_str)))) fun _ _ => (akL_cons (Pu.ef (pu_revS (av (A := isS) (a := b_632.1) 3))) fun _ _ => (akL_cons (ef_callMI (i := 0) (m := fun (c : Cup) (a : Int × Unit) => f__law_word n c a.1) (As := fun (a : Int × Unit) => [isI a.1]) (get := fun s_645 => s_645) (put := fun s_645 c_646 => c_646) ⟨fun _ => ⟨_, rfl, fun _ => rfl⟩⟩ (G__law_word.mono (k := 4) (by decide)) hr (ag_cons (Pu.al (pu_int)) ag_nil)) fun _ _ => (akL_cons (Pu.ef (pu_bin op_add_str o_addS (av (A := isS) (a := b_632.1) 3) (Pu.al (pu_str)))) fun _ _ => (akL_cons (Pu.ef (pu_bin op_add_str o_addS (Pu.al (pu_str)) (av (A := isS) (a := b_632.1) 3))) fun _ _ => akL_nil))))))))) (by decide)) rfl))) fun b_648 => ?_
  refine bx_consx (sx_lend (L0 := fun e : Empty => nomatch e) 7 rfl (Sx.ent (.same (.same (.same (.same (.same (.dead (.same (.same (.dead (.dead (.dead .nil))))))))))) (sx_fr (fun g_687 : Unit => [.own (some v0) (isCup b_648.2), .lnt ((isT (isT isI)) solid_626), .lnt ((isD kS (isD kI isI)) steps_627), .own none (isS b_632.1), .own none (isI number_635), .dead, .own none (isI b_641.1), .lnt ((isL isS) b_648.1), .dead, .dead, .dead]) () (wa_list (.dead (.same (.same (.dead (.dead (.dead (.dead (.same (.dead (.dead (.dead .nil))))))))))) rfl (al (A := (isL isS)) (a := b_648.1) 7)) (tn 8 nd) (fun x_688 g_689 => ?_))) (fun _ => rfl)) fun g_690 => ?_
  · refine bx_cons (sn_st 9 nd (pu_cmp (op_eqD hr.units) (o_eqD (by decide)) (Pu.al (pu_callI (m := fun (a : (List (Str × (List (Int × Int)))) × Str × Unit) => f__law_map a.1 a.2.1) (G__law_map.mono (k := 4) (by decide)) hr (ag_cons (al (A := (isD kS (isD kI isI))) (a := steps_627) 2) (ag_cons (av (A := isS) (a := b_632.1) 3) ag_nil)))) (Pu.al (pu_callI (m := fun (a : (List (Str × (List (Int × Int)))) × Str × Unit) => f__law_map a.1 a.2.1) (G__law_map.mono (k := 4) (by decide)) hr (ag_cons (al (A := (isD kS (isD kI isI))) (a := steps_627) 2) (ag_cons (al (A := isS) (a := x_688) 8) ag_nil)))))) fun due_691 => ?_
    refine bx_consx (sx_if (N := (fun b_693 : Unit => [.own (some v0) (isCup b_648.2), .lnt ((isT (isT isI)) solid_626), .lnt ((isD kS (isD kI isI)) steps_627), .own none (isS b_632.1), .own none (isI number_635), .dead, .own none (isI b_641.1), .lnt ((isL isS) b_648.1), .dead, .dead, .dead])) (te_not (te_val (Pu.al (pu_callI (m := fun (a : Dat × Dat × Unit) => f__law_same n a.1 a.2.1) (G__law_same.mono (k := 4) (by decide)) hr (ag_cons (al_enc (Pu.al (pu_callI (m := fun (a : (List (List Int)) × Str × Str × Unit) => f_are_like_words a.1 a.2.1 a.2.2.1) (G_are_like_words.mono (k := 4) (by decide)) hr (ag_cons (al (A := (isT (isT isI))) (a := solid_626) 1) (ag_cons (av (A := isS) (a := b_632.1) 3) (ag_cons (al (A := isS) (a := x_688) 8) ag_nil)))))) (ag_cons (al_enc (av (A := isB) (a := due_691) 9)) ag_nil)))))) ?_ ?_) fun b_692 => ?_
    · refine bx_last ?_
      refine sx_ret (A := isB) (p := (some false)) ?_ (fun a : Bool => ((a, b_648.2) : (Bool × Cup))) ?_ ?_
      · exact Pu.eq (pu_bl) rfl
      · exact fun _ => rfl
      · exact fun _ => (.same (.dead (.dead (.dead (.dead (.dead (.dead (.dead (.dead (.dead (.dead .nil)))))))))))
    · exact bx_nil (.same (.same (.same (.same (.same (.dead (.same (.same (.dead (.dead (.dead .nil)))))))))))
    · exact bx_nil (.same (.same (.same (.same (.same (.dead (.same (.same (.dead (.dead (.dead .nil)))))))))))
  · refine bx_consx (sx_if (N := (fun b_695 : Unit => [.own (some v0) (isCup b_648.2), .lnt ((isT (isT isI)) solid_626), .dead, .own none (isS b_632.1), .own none (isI number_635), .dead, .dead, .dead, .dead, .dead, .dead])) (Tw.te (tw_or (te_not (te_val (Pu.al (pu_callI (m := fun (a : Dat × Dat × Unit) => f__law_same n a.1 a.2.1) (G__law_same.mono (k := 4) (by decide)) hr (ag_cons (al_enc (Pu.al (pu_callI (m := fun (a : Str × Unit) => f_plain_word a.1) (G_plain_word.mono (k := 4) (by decide)) hr (ag_cons (av (A := isS) (a := b_632.1) 3) ag_nil)))) (ag_cons (al_enc (Pu.al (pu_callI (m := fun (a : Str × Unit) => f__law_plain a.1) (G__law_plain.mono (k := 4) (by decide)) hr (ag_cons (av (A := isS) (a := b_632.1) 3) ag_nil)))) ag_nil)))))) (tw_or1 (te_not (te_val (Pu.al (pu_callI (m := fun (a : Dat × Dat × Unit) => f__law_same n a.1 a.2.1) (G__law_same.mono (k := 4) (by decide)) hr (ag_cons (al_enc (Pu.al (pu_callK (As := fun (a : Str × Unit) => [isS a.1]) (m := fun (a : Str × Unit) => f_plain_word a.1) (fun b : Str × Unit => ((b.1, ()) : Str × Unit)) (GK_plain_word_word.mono (k := 4) (by decide)) hr (kg_cons (Pu.al (pu_bin op_add_str o_addS (Pu.al (pu_bin op_add_str o_addS (Pu.al (pu_sl sl_str s_str (av (A := isS) (a := b_632.1) 3) so_none (so_some (av (A := isI) (a := b_641.1) 6)))) (Pu.al (pu_bin op_mulS o_mulS (Pu.al (pu_str)) (Pu.al (pu_int)))))) (Pu.al (pu_sl sl_str s_str (av (A := isS) (a := b_632.1) 3) (so_some (av (A := isI) (a := b_641.1) 6)) so_none)))) kg_nil) (fun b zs H F h => by obtain ⟨v0, r0, F0, G0, rfl, h0, ⟨rfl, rfl⟩, rfl⟩ := h; exact ⟨_, ⟨v0, _, _, _, rfl, h0, ⟨rfl, rfl⟩, rfl⟩⟩)))) (ag_cons (al_enc (Pu.al (pu_callI (m := fun (a : Str × Unit) => f__law_plain a.1) (G__law_plain.mono (k := 4) (by decide)) hr (ag_cons (av (A := isS) (a := b_632.1) 3) ag_nil)))) ag_nil))))))))) ?_ ?_) fun b_694 => ?_
    · refine bx_last ?_
      refine sx_ret (A := isB) (p := (some false)) ?_ (fun a : Bool => ((a, b_648.2) : (Bool × Cup))) ?_ ?_
      · exact Pu.eq (pu_bl) rfl
      · exact fun _ => rfl
      · exact fun _ => (.same (.dead (.dead (.dead (.dead (.dead (.dead (.dead (.dead (.dead (.dead .nil)))))))))))
    · exact bx_nil (.same (.same (.dead (.same (.same (.dead (.dead (.dead (.dead (.dead (.dead .nil)))))))))))
    · refine bx_consx (sx_if (N := (fun b_702 : Unit => [.own (some v0) (isCup b_648.2), .dead, .dead, .dead, .dead, .dead, .dead, .dead, .dead, .dead, .dead])) (te_cmp op_lt (o_intB (g := fun x y => decide (x < y))) (av (A := isI) (a := number_635) 4) (Pu.al (pu_int))) ?_ ?_) fun b_696 => ?_
      · refine bx_cons (sn_st 10 nd (pu_callI (m := fun (a : (List (List Int)) × Str × Unit) => f__law_back n a.1 a.2.1) (G__law_back.mono (k := 4) (by decide)) hr (ag_cons (al (A := (isT (isT isI))) (a := solid_626) 1) (ag_cons (av (A := isS) (a := b_632.1) 3) ag_nil)))) fun back_697 => ?_
        refine bx_consx (sx_if (N := (fun b_699 : Unit => [.own (some v0) (isCup b_648.2), .lnt ((isT (isT isI)) solid_626), .dead, .own none (isS b_632.1), .dead, .dead, .dead, .dead, .dead, .dead, .own none (isS back_697)])) (te_not (te_val (Pu.al (pu_callI (m := fun (a : Dat × Dat × Unit) => f__law_same n a.1 a.2.1) (G__law_same.mono (k := 4) (by decide)) hr (ag_cons (al_enc (Pu.al (pu_callI (m := fun (a : (List (List Int)) × Str × Unit) => f_word_back a.1 a.2.1) (G_word_back.mono (k := 4) (by decide)) hr (ag_cons (al (A := (isT (isT isI))) (a := solid_626) 1) (ag_cons (av (A := isS) (a := b_632.1) 3) ag_nil))))) (ag_cons (al_enc (av (A := isS) (a := back_697) 10)) ag_nil)))))) ?_ ?_) fun b_698 => ?_
        · refine bx_last ?_
          refine sx_ret (A := isB) (p := (some false)) ?_ (fun a : Bool => ((a, b_648.2) : (Bool × Cup))) ?_ ?_
          · exact Pu.eq (pu_bl) rfl
          · exact fun _ => rfl
          · exact fun _ => (.same (.dead (.dead (.dead (.dead (.dead (.dead (.dead (.dead (.dead (.dead .nil)))))))))))
        · exact bx_nil (.same (.same (.dead (.same (.dead (.dead (.dead (.dead (.dead (.dead (.same .nil)))))))))))
        · refine bx_consx (sx_if (N := (fun b_701 : Unit => [.own (some v0) (isCup b_648.2), .dead, .dead, .dead, .dead, .dead, .dead, .dead, .dead, .dead, .dead])) (Tw.te (tw_and (te_cmp op_lt (o_intB (g := fun x y => decide (x < y))) (Pu.al (pu_bin op_add o_int0 (Pu.al (pu_b1 call_len c_lenS (av (A := isS) (a := b_632.1) 3) h_len bt_len)) (Pu.al (pu_b1 call_len c_lenS (av (A := isS) (a := back_697) 10) h_len bt_len)))) (Pu.al (pu_int))) (tw_and1 (te_cmp op_notBl o_notB (Pu.al (pu_callI (m := fun (a : (List (List Int)) × Str × Str × Unit) => f_are_like_words a.1 a.2.1 a.2.2.1) (G_are_like_words.mono (k := 4) (by decide)) hr (ag_cons (al (A := (isT (isT isI))) (a := solid_626) 1) (ag_cons (Pu.al (pu_bin op_add_str o_addS (av (A := isS) (a := b_632.1) 3) (av (A := isS) (a := back_697) 10))) (ag_cons (Pu.al (pu_str)) ag_nil))))) (Pu.al (pu_bl)))))) ?_ ?_) fun b_700 => ?_
          · refine bx_last ?_
            refine sx_ret (A := isB) (p := (some false)) ?_ (fun a : Bool => ((a, b_648.2) : (Bool × Cup))) ?_ ?_
            · exact Pu.eq (pu_bl) rfl
            · exact fun _ => rfl
            · exact fun _ => (.same (.dead (.dead (.dead (.dead (.dead (.dead (.dead (.dead (.dead (.dead .nil)))))))))))
          · exact bx_nil (.same (.dead (.dead (.dead (.dead (.dead (.dead (.dead (.dead (.dead (.dead .nil)))))))))))
          · exact bx_nil (.same (.dead (.dead (.dead (.dead (.dead (.dead (.dead (.dead (.dead (.dead .nil)))))))))))
      · exact bx_nil (.same (.dead (.dead (.dead (.dead (.dead (.dead (.dead (.dead (.dead (.dead .nil)))))))))))
      · refine bx_last ?_
        refine sx_ret (A := isB) (p := (some true)) ?_ (fun a : Bool => ((a, b_648.2) : (Bool × Cup))) ?_ ?_
        · exact Pu.eq (pu_bl) rfl
        · exact fun _ => rfl
        · exact fun _ => (.same (.dead (.dead (.dead (.dead (.dead (.dead (.dead (.dead (.dead (.dead .nil)))))))))))
end K83
set_option maxHeartbeats 1000000
namespace K83
open PySem PySem.Spec L2 Rf
variable {P : Program} {w : World} {K : PySem.W.Frag} {mg : Str → Option Value} {base : Heap}

theorem fo__law_scene (n : Nat) {f : Addr} {fd : FuncData} (F : Fun K "_law_scene" "_law_scene" s__law_scene f fd) (hb : Binds K fd ["cup", "solid"] []) (hm : mg "_law_scene" = some (.ref f)) (h_len : mg "len" = none) (h_range : mg "range" = none) (h_sorted : mg "sorted" = none) (h_tuple : mg "tuple" = none) (G__law_steps : Fo P w K mg base 1 "_law_steps" ["solid"] (Sp__law_steps )) (G__law_sip : Fo P w K mg base 1 "_law_sip" ["cup", "many"] (Sp__law_sip n)) (G__law_all_words : Fo P w K mg base 1 "_law_all_words" ["most"] (Sp__law_all_words )) (G__law_lead : Fo P w K mg base 1 "_law_lead" ["steps", "side", "word"] (Sp__law_lead )) (G__law_same : Fo P w K mg base 1 "_law_same" ["told", "due"] (Sp__law_same n)) (G_word_side : Fo P w K mg base 2 "word_side" ["solid", "side", "word"] (Sp_word_side )) (G__law_firsts : Fo P w K mg base 1 "_law_firsts" ["steps", "start"] (Sp__law_firsts n)) (G_word_steps : Fo P w K mg base 3 "word_steps" ["solid", "side"] (Sp_word_steps n)) (G_first_word : Fo P w K mg base 3 "first_word" ["solid", "one", "other"] (Sp_first_word n)) (G__law_likes : Fo P w K mg base 5 "_law_likes" ["cup", "solid", "steps"] (Sp__law_likes n)) : Fo P w K mg base 6 "_law_scene" ["cup", "solid"] (Sp__law_scene n) := by
  refine fo_mut F sc__law_scene hb hm rfl (by decide) (fun _ => rfl) (L := fun e => nomatch e) fun cdv A_ outer_ s_ H_ E_ hr v0 c a => ?_
  obtain ⟨solid_704, _⟩ := a
  revert c; intro cup_703
  have nd := sc__law_scene.nd
  refine bx_cons (sn_st 2 nd (pu_callI (m := fun (a : (List (List Int)) × Unit) => f__law_steps a.1) (G__law_steps.mono (k := 5) (by decide)) hr (ag_cons (al (A := (isT (isT isI))) (a := solid_704) 1) ag_nil))) fun steps_705 => ?_
  refine bx_cons (sn_st 3 nd (pu_b1 call_lenD c_lenD (al_dget (K := kS) (room1 hr) (av (A := (isD kS (isD kI isI))) (a := steps_705) 2) (Pu.al (pu_str))) h_len bt_len)) fun many_706 => ?_
  refine bx_cons (Sn.ent (.same (.same (.same (.same (.dead (.dead (.dead (.dead (.dead (.dead (.dead (.dead .nil)))))))))))) (sn_stE 4 (Γ := (fun s_710 : Cup => [.own (some v0) (isCup s_710), .lnt ((isT (isT isI)) solid_704), .own none ((isD kS (isD kI isI)) steps_705), .own none (isI many_706), .dead, .dead, .dead, .dead, .dead, .dead, .dead, .dead])) (s0 := cup_703) (A := isI) (m := (((some many_706).bind fun x => (some ()).bind fun y => some (x, y)).bind fun b_712 => (f__law_sip n cup_703 b_712.1).bind fun r => some (r.1, r.2))) nd (Ef.eq (ef_callMI (i := 0) (m := fun (c : Cup) (a : Int × Unit) => f__law_sip n c a.1) (As := fun (a : Int × Unit) => [isI a.1]) (get := fun s_708 => s_708) (put := fun s_708 c_709 => c_709) ⟨fun _ => ⟨_, rfl, fun _ => rfl⟩⟩ (G__law_sip.mono (k := 5) (by decide)) hr (ag_cons (av (A := isI) (a := many_706) 3) ag_nil)) rfl))) fun b_711 => ?_
  refine bx_cons (sn_st 5 nd (pu_dnew kI isS)) fun met_714 => ?_
  refine bx_consx (Sx.ent (.same (.same (.same (.same (.same (.same (.dead (.dead (.dead (.dead (.dead (.dead .nil)))))))))))) (sx_fr (fun g_715 : (List (Int × Str)) => [.own (some v0) (isCup b_711.2), .lnt ((isT (isT isI)) solid_704), .own none ((isD kS (isD kI isI)) steps_705), .own none (isI many_706), .own none (isI b_711.1), .own none ((isD kI isS) g_715), .dead, .dead, .dead, .dead, .dead, .dead]) met_714 (wa_new (pu_callI (m := fun (a : Int × Unit) => f__law_all_words a.1) (G__law_all_words.mono (k := 5) (by decide)) hr (ag_cons (Pu.al (pu_int)) ag_nil))) (tn 6 nd) (fun x_716 g_717 => ?_))) fun g_718 => ?_
  · refine bx_cons (sn_st 7 nd (pu_callI (m := fun (a : (List (Str × (List (Int × Int)))) × Int × Str × Unit) => f__law_lead a.1 a.2.1 a.2.2.1) (G__law_lead.mono (k := 5) (by decide)) hr (ag_cons (av (A := (isD kS (isD kI isI))) (a := steps_705) 2) (ag_cons (av (A := isI) (a := b_711.1) 4) (ag_cons (al (A := isS) (a := x_716) 6) ag_nil))))) fun due_719 => ?_
    refine bx_cons (sn_if (N := (fun b_722 : (List (Int × Str)) => [.own (some v0) (isCup b_711.2), .lnt ((isT (isT isI)) solid_704), .own none ((isD kS (isD kI isI)) steps_705), .own none (isI many_706), .own none (isI b_711.1), .own none ((isD kI isS) b_722), .lnt (isS x_716), .own none (isI due_719), .dead, .dead, .dead, .dead])) (te_dnotin (K := kI) (room1 hr) (av (A := isI) (a := due_719) 7) (av (A := (isD kI isS)) (a := g_717) 5)) ?_ ?_) fun b_720 => ?_
    · refine bn_cons (sn_dput (K := kI) 5 rfl (room1 hr) (al (A := isS) (a := x_716) 6) (av (A := isI) (a := due_719) 7)) fun met_721 => ?_
      exact bn_nil (.same (.same (.same (.same (.same (.same (.same (.same (.dead (.dead (.dead (.dead .nil))))))))))))
    · exact bn_nil (.same (.same (.same (.same (.same (.same (.same (.same (.dead (.dead (.dead (.dead .nil))))))))))))
    · refine bx_consx (sx_if (N := (fun b_724 : Unit => [.own (some v0) (isCup b_711.2), .lnt ((isT (isT isI)) solid_704), .own none ((isD kS (isD kI isI)) steps_705), .own none (isI many_706), .own none (isI b_711.1), .own none ((isD kI isS) b_720), .dead, .dead, .dead, .dead, .dead, .dead])) (te_not (te_val (Pu.al (pu_callI (m := fun (a : Dat × Dat × Unit) => f__law_same n a.1 a.2.1) (G__law_same.mono (k := 5) (by decide)) hr (ag_cons (al_enc (Pu.al (pu_callI (m := fun (a : (List (List Int)) × Int × Str × Unit) => f_word_side a.1 a.2.1 a.2.2.1) (G_word_side.mono (k := 5) (by decide)) hr (ag_cons (al (A := (isT (isT isI))) (a := solid_704) 1) (ag_cons (av (A := isI) (a := b_711.1) 4) (ag_cons (al (A := isS) (a := x_716) 6) ag_nil)))))) (ag_cons (al_enc (av (A := isI) (a := due_719) 7)) ag_nil)))))) ?_ ?_) fun b_723 => ?_
      · refine bx_last ?_
        refine sx_ret (A := isB) (p := (some false)) ?_ (fun a : Bool => ((a, b_711.2) : (Bool × Cup))) ?_ ?_
        · exact Pu.eq (pu_bl) rfl
        · exact fun _ => rfl
        · exact fun _ => (.same (.dead (.dead (.dead (.dead (.dead (.dead (.dead (.dead (.dead (.dead (.dead .nil))))))))))))
      · exact bx_nil (.same (.same (.same (.same (.same (.same (.dead (.dead (.dead (.dead (.dead (.dead .nil))))))))))))
      · exact bx_nil (.same (.same (.same (.same (.same (.same (.dead (.dead (.dead (.dead (.dead (.dead .nil))))))))))))
  · refine bx_cons (sn_st 8 nd (pu_callI (m := fun (a : (List (Str × (List (Int × Int)))) × Int × Unit) => f__law_firsts n a.1 a.2.1) (G__law_firsts.mono (k := 5) (by decide)) hr (ag_cons (av (A := (isD kS (isD kI isI))) (a := steps_705) 2) (ag_cons (av (A := isI) (a := b_711.1) 4) ag_nil)))) fun found_725 => ?_
    refine bx_consx (Sx.ent (.same (.same (.same (.same (.same (.same (.dead (.dead (.same (.dead (.dead (.dead .nil)))))))))))) (sx_fr (fun g_726 : Unit => [.own (some v0) (isCup b_711.2), .lnt ((isT (isT isI)) solid_704), .own none ((isD kS (isD kI isI)) steps_705), .own none (isI many_706), .own none (isI b_711.1), .own none ((isD kI isS) g_718), .dead, .dead, .own none ((isD kI isS) found_725), .dead, .dead, .dead]) () (wa_new (pu_b1 (Rf.call_sortedDI rfl) c_sortedDI (av (A := (isD kI isS)) (a := g_718) 5) h_sorted bt_sorted)) (tn 9 nd) (fun x_727 g_728 => ?_))) fun g_729 => ?_
    · refine bx_consx (sx_if (N := (fun b_731 : Unit => [.own (some v0) (isCup b_711.2), .lnt ((isT (isT isI)) solid_704), .own none ((isD kS (isD kI isI)) steps_705), .own none (isI many_706), .own none (isI b_711.1), .own none ((isD kI isS) g_718), .dead, .dead, .own none ((isD kI isS) found_725), .lnt (isI x_727), .dead, .dead])) (te_cmp op_ne o_neS (al_dget (K := kI) (room1 hr) (av (A := (isD kI isS)) (a := found_725) 8) (al (A := isI) (a := x_727) 9)) (al_dget (K := kI) (room1 hr) (av (A := (isD kI isS)) (a := g_718) 5) (al (A := isI) (a := x_727) 9))) ?_ ?_) fun b_730 => ?_
      · refine bx_last ?_
        refine sx_ret (A := isB) (p := (some false)) ?_ (fun a : Bool => ((a, b_711.2) : (Bool × Cup))) ?_ ?_
        · exact Pu.eq (pu_bl) rfl
        · exact fun _ => rfl
        · exact fun _ => (.same (.dead (.dead (.dead (.dead (.dead (.dead (.dead (.dead (.dead (.dead (.dead .nil))))))))))))
      · exact bx_nil (.same (.same (.same (.same (.same (.same (.dead (.dead (.same (.same (.dead (.dead .nil))))))))))))
      · exact bx_nil (.same (.same (.same (.same (.same (.same (.dead (.dead (.same (.dead (.dead (.dead .nil))))))))))))
    · refine bx_consx (sx_if (N := (fun b_734 : Unit => [.own (some v0) (isCup b_711.2), .lnt ((isT (isT isI)) solid_704), .own none ((isD kS (isD kI isI)) steps_705), .own none (isI many_706), .own none (isI b_711.1), .dead, .dead, .dead, .own none ((isD kI isS) found_725), .dead, .dead, .dead])) (te_not (te_val (Pu.al (pu_callI (m := fun (a : Dat × Dat × Unit) => f__law_same n a.1 a.2.1) (G__law_same.mono (k := 5) (by decide)) hr (ag_cons (al_enc (Pu.al (pu_callI (m := fun (a : (List (List Int)) × Int × Unit) => f_word_steps n a.1 a.2.1) (G_word_steps.mono (k := 5) (by decide)) hr (ag_cons (al (A := (isT (isT isI))) (a := solid_704) 1) (ag_cons (av (A := isI) (a := b_711.1) 4) ag_nil))))) (ag_cons (al_enc (Pu.al (pu_t1 call_tuple_of c_tupleL (Pu.al (lc [("side", 9)] nd (wa_rng1 (av (A := isI) (a := many_706) 3) h_range) (fun s_ H_ C_ cl_ fp_ => lcg1 9 nd) (tgs_name 9) (fun x_732 s_ H_ C_ cl_ fp_ => tc_nil) (fun x_732 s_ H_ C_ cl_ fp_ => (pu_b1 call_len c_lenS (al_dget (K := kI) (room1 hr) (av (A := (isD kI isS)) (a := found_725) 8) (al (A := isI) (a := x_732) 9)) h_len bt_len)))) h_tuple bt_tuple))) ag_nil)))))) ?_ ?_) fun b_733 => ?_
      · refine bx_last ?_
        refine sx_ret (A := isB) (p := (some false)) ?_ (fun a : Bool => ((a, b_711.2) : (Bool × Cup))) ?_ ?_
        · exact Pu.eq (pu_bl) rfl
        · exact fun _ => rfl
        · exact fun _ => (.same (.dead (.dead (.dead (.dead (.dead (.dead (.dead (.dead (.dead (.dead (.dead .nil))))))))))))
      · exact bx_nil (.same (.same (.same (.same (.same (.dead (.dead (.dead (.same (.dead (.dead (.dead .nil))))))))))))
      · refine bx_consx (Sx.ent (.same (.same (.same (.same (.same (.dead (.dead (.dead (.same (.dead (.dead (.dead .nil)))))))))))) (sx_fr (fun g_735 : Cup => [.own (some v0) (isCup g_735), .lnt ((isT (isT isI)) solid_704), .own none ((isD kS (isD kI isI)) steps_705), .own none (isI many_706), .own none (isI b_711.1), .dead, .dead, .dead, .own none ((isD kI isS) found_725), .dead, .dead, .dead]) b_711.2 (wa_rng1 (Pu.al (pu_int)) h_range) (tn 10 nd) (fun x_736 g_737 => ?_))) fun g_738 => ?_
        · refine bx_cons (Sn.ent (.same (.same (.same (.same (.same (.dead (.dead (.dead (.same (.dead (.same (.dead .nil)))))))))))) (sn_stE 11 (Γ := (fun s_742 : Cup => [.own (some v0) (isCup s_742), .lnt ((isT (isT isI)) solid_704), .own none ((isD kS (isD kI isI)) steps_705), .own none (isI many_706), .own none (isI b_711.1), .dead, .dead, .dead, .own none ((isD kI isS) found_725), .dead, .lnt (isI x_736), .dead])) (s0 := g_737) (A := isI) (m := (((some many_706).bind fun x => (some ()).bind fun y => some (x, y)).bind fun b_744 => (f__law_sip n g_737 b_744.1).bind fun r => some (r.1, r.2))) nd (Ef.eq (ef_callMI (i := 0) (m := fun (c : Cup) (a : Int × Unit) => f__law_sip n c a.1) (As := fun (a : Int × Unit) => [isI a.1]) (get := fun s_740 => s_740) (put := fun s_740 c_741 => c_741) ⟨fun _ => ⟨_, rfl, fun _ => rfl⟩⟩ (G__law_sip.mono (k := 5) (by decide)) hr (ag_cons (av (A := isI) (a := many_706) 3) ag_nil)) rfl))) fun b_743 => ?_
          refine bx_consx (sx_if (N := (fun b_747 : Unit => [.own (some v0) (isCup b_743.2), .lnt ((isT (isT isI)) solid_704), .own none ((isD kS (isD kI isI)) steps_705), .own none (isI many_706), .own none (isI b_711.1), .dead, .dead, .dead, .own none ((isD kI isS) found_725), .dead, .dead, .dead])) (te_not (te_val (Pu.al (pu_callI (m := fun (a : Dat × Dat × Unit) => f__law_same n a.1 a.2.1) (G__law_same.mono (k := 5) (by decide)) hr (ag_cons (al_enc (Pu.al (pu_callI (m := fun (a : (List (List Int)) × Int × Int × Unit) => f_first_word n a.1 a.2.1 a.2.2.1) (G_first_word.mono (k := 5) (by decide)) hr (ag_cons (al (A := (isT (isT isI))) (a := solid_704) 1) (ag_cons (av (A := isI) (a := b_711.1) 4) (ag_cons (av (A := isI) (a := b_743.1) 11) ag_nil)))))) (ag_cons (al_enc (al_dget (K := kI) (room1 hr) (av (A := (isD kI isS)) (a := found_725) 8) (av (A := isI) (a := b_743.1) 11))) ag_nil)))))) ?_ ?_) fun b_746 => ?_
          · refine bx_last ?_
            refine sx_ret (A := isB) (p := (some false)) ?_ (fun a : Bool => ((a, b_743.2) : (Bool × Cup))) ?_ ?_
            · exact Pu.eq (pu_bl) rfl
            · exact fun _ => rfl
            · exact fun _ => (.same (.dead (.dead (.dead (.dead (.dead (.dead (.dead (.dead (.dead (.dead (.dead .nil))))))))))))
          · exact bx_nil (.same (.same (.same (.same (.same (.dead (.dead (.dead (.same (.dead (.dead (.dead .nil))))))))))))
          · exact bx_nil (.same (.same (.same (.same (.same (.dead (.dead (.dead (.same (.dead (.dead (.dead .nil))))))))))))
        · refine bx_last ?_
          refine sx_retE (Γ := (fun s_750 : Cup => [.own (some v0) (isCup s_750), .lnt ((isT (isT isI)) solid_704), .own none ((isD kS (isD kI isI)) steps_705), .own none (isI many_706), .own none (isI b_711.1), .dead, .dead, .dead, .own none ((isD kI isS) found_725), .dead, .dead, .dead])) (s0 := g_738) (A := isB) (m := (((some solid_704).bind fun x => ((some steps_705).bind fun x => (some ()).bind fun y => some (x, y)).bind fun y => some (x, y)).bind fun b_752 => (f__law_likes n g_738 b_752.1 b_752.2.1).bind fun r => some (r.1, r.2))) ?_ (fun a s_751 => ((a, s_751) : (Bool × Cup))) ?_ ?_
          · exact Ef.eq (ef_callMI (i := 0) (m := fun (c : Cup) (a : (List (List Int)) × (List (Str × (List (Int × Int)))) × Unit) => f__law_likes n c a.1 a.2.1) (As := fun (a : (List (List Int)) × (List (Str × (List (Int × Int)))) × Unit) => [(isT (isT isI)) a.1, (isD kS (isD kI isI)) a.2.1]) (get := fun s_748 => s_748) (put := fun s_748 c_749 => c_749) ⟨fun _ => ⟨_, rfl, fun _ => rfl⟩⟩ (G__law_likes.mono (k := 5) (by decide)) hr (ag_cons (al (A := (isT (isT isI))) (a := solid_704) 1) (ag_cons (av (A := (isD kS (isD kI isI))) (a := steps_705) 2) ag_nil))) rfl
          · exact fun _ _ => rfl
          · exact fun _ _ => (.same (.dead (.dead (.dead (.dead (.dead (.dead (.dead (.dead (.dead (.dead (.dead .nil))))))))))))
end K83
set_option maxHeartbeats 1000000
namespace K83
open PySem PySem.Spec L2 Rf
variable {P : Program} {w : World} {K : PySem.W.Frag} {mg : Str → Option Value} {base : Heap}

theorem fo_law (n : Nat) {f : Addr} {fd : FuncData} (F : Fun K "law" "law" s_law f fd) (hb : Binds K fd ["script"] []) (hm : mg "law" = some (.ref f)) (h_len : mg "len" = none) (h_range : mg "range" = none) (GK_word_side_word_side_solid : FoK P w K mg base 2 "word_side" ["solid", "side", "word"] ["word", "side", "solid"] [2, 1, 0] (Sp_word_side )) (GK_word_back_solid_word : FoK P w K mg base 3 "word_back" ["solid", "word"] ["solid", "word"] [0, 1] (Sp_word_back )) (GK_word_steps_solid_side : FoK P w K mg base 3 "word_steps" ["solid", "side"] ["solid", "side"] [0, 1] (Sp_word_steps n)) (GK_are_like_words_solid_one_other : FoK P w K mg base 4 "are_like_words" ["solid", "one", "other"] ["solid", "one", "other"] [0, 1, 2] (Sp_are_like_words )) (G__law_cup : Fo P w K mg base 1 "_law_cup" ["script"] (Sp__law_cup K )) (G__law_scene : Fo P w K mg base 6 "_law_scene" ["cup", "solid"] (Sp__law_scene n)) (G__law_solid : Fo P w K mg base 4 "_law_solid" ["cup", "many"] (Sp__law_solid n)) (G__law_steps : Fo P w K mg base 1 "_law_steps" ["solid"] (Sp__law_steps )) (G__law_word : Fo P w K mg base 2 "_law_word" ["cup", "most"] (Sp__law_word n)) (G__law_sip : Fo P w K mg base 1 "_law_sip" ["cup", "many"] (Sp__law_sip n)) (G__law_same : Fo P w K mg base 1 "_law_same" ["told", "due"] (Sp__law_same n)) (G__law_lead : Fo P w K mg base 1 "_law_lead" ["steps", "side", "word"] (Sp__law_lead )) (G_plain_word : Fo P w K mg base 1 "plain_word" ["word"] (Sp_plain_word )) (G__law_plain : Fo P w K mg base 1 "_law_plain" ["word"] (Sp__law_plain )) (G__law_common : Fo P w K mg base 1 "_law_common" ["solid"] (Sp__law_common n)) (G__law_back : Fo P w K mg base 2 "_law_back" ["solid", "word"] (Sp__law_back n)) (G_first_word : Fo P w K mg base 3 "first_word" ["solid", "one", "other"] (Sp_first_word n)) (G_are_like_words : Fo P w K mg base 4 "are_like_words" ["solid", "one", "other"] (Sp_are_like_words )) (G_word_back : Fo P w K mg base 3 "word_back" ["solid", "word"] (Sp_word_back )) (G__law_glue : Fo P w K mg base 3 "_law_glue" ["cup", "sizes", "rims"] (Sp__law_glue n)) : Fo P w K mg base 7 "law" ["script"] (Sp_law K n) := by
  refine fo_pure F sc_law hb hm rfl (by decide) (fun _ => rfl) (L := fun e => nomatch e) fun cdv A_ outer_ s_ H_ E_ hr a => ?_
  obtain ⟨script_754, _⟩ := a
  have nd := sc_law.nd
  refine bx_cons (sn_st 1 nd (pu_callI (m := fun (a : (List Int) × Unit) => f__law_cup a.1) (G__law_cup.mono (k := 6) (by decide)) hr (ag_cons (al (A := (isScr K)) (a := script_754) 0) ag_nil))) fun cup_755 => ?_
  refine bx_consx (Sx.ent (.dead (.same (.dead (.dead (.dead (.dead (.dead (.dead (.dead .nil))))))))) (sx_fr (fun g_756 : Cup => [.dead, .own none (isCup g_756), .dead, .dead, .dead, .dead, .dead, .dead, .dead]) cup_755 (wa_rng1 (Pu.al (pu_int)) h_range) (tn 2 nd) (fun x_757 g_758 => ?_))) fun g_759 => ?_
  · refine bx_consx (sx_ifE (Γ := (fun s_764 : Cup => [.dead, .own none (isCup s_764), .lnt (isI x_757), .dead, .dead, .dead, .dead, .dead, .dead])) (s0 := g_758) (t := ((((((some (6 : Int)).bind fun x => (some ()).bind fun y => some (x, y)).bind fun b_771 => (f__law_solid n g_758 b_771.1).bind fun r => some (r.1, r.2)).bind fun a_769 => (some ((), a_769.2)).bind fun b_770 => some ((a_769.1, b_770.1), b_770.2)).bind fun b_768 => (f__law_scene n b_768.2 b_768.1.1).bind fun r => some (r.1, r.2)).map fun x => (!x.1, x.2))) (m1 := fun s_765 : Cup => ((some false).bind fun a => some (.rt a))) (m2 := fun s_765 : Cup => (some (.nx s_765))) (N := (fun b_767 : Cup => [.dead, .own none (isCup b_767), .dead, .dead, .dead, .dead, .dead, .dead, .dead])) (Tf.eq (p' := ((((((some (6 : Int)).bind fun x => (some ()).bind fun y => some (x, y)).bind fun b_775 => (f__law_solid n g_758 b_775.1).bind fun r => some (r.1, r.2)).bind fun a_773 => (some ((), a_773.2)).bind fun b_774 => some ((a_773.1, b_774.1), b_774.2)).bind fun b_772 => (f__law_scene n b_772.2 b_772.1.1).bind fun r => some (r.1, r.2)).map fun x => (!x.1, x.2))) (tf_not (tf_val (ef_callMeI (i := 1) (m := fun (c : Cup) (a : (List (List Int)) × Unit) => f__law_scene n c a.1) (As := fun (a : (List (List Int)) × Unit) => [(isT (isT isI)) a.1]) (get := fun s_760 => s_760) (put := fun s_760 c_761 => c_761) ⟨fun _ => ⟨_, rfl, fun _ => rfl⟩⟩ (G__law_scene.mono (k := 6) (by decide)) hr (ae_cons (ef_callMI (i := 1) (m := fun (c : Cup) (a : Int × Unit) => f__law_solid n c a.1) (As := fun (a : Int × Unit) => [isI a.1]) (get := fun s_762 => s_762) (put := fun s_762 c_763 => c_763) ⟨fun _ => ⟨_, rfl, fun _ => rfl⟩⟩ (G__law_solid.mono (k := 6) (by decide)) hr (ag_cons (Pu.al (pu_int)) ag_nil)) fun _ _ => ae_nil) (fun b _ _ _ => (cl_cons cl_nil))))) rfl) (fun s_765 => ?_) (fun s_765 => ?_)) fun b_766 => ?_
    · refine bx_last ?_
      refine sx_ret (A := isB) (p := (some false)) ?_ (fun a => a) ?_ ?_
      · exact Pu.eq (pu_bl) rfl
      · exact fun _ => rfl
      · exact fun _ => (.dead (.dead (.dead (.dead (.dead (.dead (.dead (.dead (.dead .nil)))))))))
    · exact bx_nil (.dead (.same (.dead (.dead (.dead (.dead (.dead (.dead (.dead .nil)))))))))
    · exact bx_nil (.dead (.same (.dead (.dead (.dead (.dead (.dead (.dead (.dead .nil)))))))))
  · refine bx_cons (Sn.ent (.dead (.same (.dead (.dead (.dead (.dead (.dead (.dead (.dead .nil))))))))) (sn_stE 3 (Γ := (fun s_784 : Cup => [.dead, .own none (isCup s_784), .dead, .dead, .dead, .dead, .dead, .dead, .dead])) (s0 := g_759) (A := (isT (isT isI))) (m := (((some (4 : Int)).bind fun x => (some ()).bind fun y => some (x, y)).bind fun b_786 => (f__law_solid n g_759 b_786.1).bind fun r => some (r.1, r.2))) nd (Ef.eq (ef_callMI (i := 1) (m := fun (c : Cup) (a : Int × Unit) => f__law_solid n c a.1) (As := fun (a : Int × Unit) => [isI a.1]) (get := fun s_782 => s_782) (put := fun s_782 c_783 => c_783) ⟨fun _ => ⟨_, rfl, fun _ => rfl⟩⟩ (G__law_solid.mono (k := 6) (by decide)) hr (ag_cons (Pu.al (pu_int)) ag_nil)) rfl))) fun b_785 => ?_
    refine bx_cons (sn_st 4 nd (pu_callI (m := fun (a : (List (List Int)) × Unit) => f__law_steps a.1) (G__law_steps.mono (k := 6) (by decide)) hr (ag_cons (av (A := (isT (isT isI))) (a := b_785.1) 3) ag_nil))) fun steps_788 => ?_
    refine bx_cons (Sn.ent (.dead (.same (.dead (.same (.same (.dead (.dead (.dead (.dead .nil))))))))) (sn_stE 5 (Γ := (fun s_792 : Cup => [.dead, .own none (isCup s_792), .dead, .own none ((isT (isT isI)) b_785.1), .own none ((isD kS (isD kI isI)) steps_788), .dead, .dead, .dead, .dead])) (s0 := b_785.2) (A := isS) (m := ((((some (301 : Int)).bind fun x => (some ()).bind fun y => some (x, y)).bind fun b_795 => (f__law_word n b_785.2 b_795.1).bind fun r => some (r.1, r.2)).bind fun x_794 => (some none).bind fun a => ((some (300 : Int)).map some).bind fun b => (scut x_794.1 a b).bind fun z => some (z, x_794.2))) nd (Ef.eq (ef_sl sl_str s_str (ef_callMI (i := 1) (m := fun (c : Cup) (a : Int × Unit) => f__law_word n c a.1) (As := fun (a : Int × Unit) => [isI a.1]) (get := fun s_790 => s_790) (put := fun s_790 c_791 => c_791) ⟨fun _ => ⟨_, rfl, fun _ => rfl⟩⟩ (G__law_word.mono (k := 6) (by decide)) hr (ag_cons (Pu.al (pu_int)) ag_nil)) (fun _ => so_none) (fun _ => (so_some (Pu.al (pu_int))))) rfl))) fun b_793 => ?_
    refine bx_cons (Sn.ent (.dead (.same (.dead (.same (.same (.same (.dead (.dead (.dead .nil))))))))) (sn_stE 6 (Γ := (fun s_801 : Cup => [.dead, .own none (isCup s_801), .dead, .own none ((isT (isT isI)) b_785.1), .own none ((isD kS (isD kI isI)) steps_788), .own none (isS b_793.1), .dead, .dead, .dead])) (s0 := b_793.2) (A := isI) (m := (((((some steps_788).bind fun d => (some ("t" : Str)).bind fun k => dget d k).bind fun x => some (x.length : Int)).bind fun x => (some ()).bind fun y => some (x, y)).bind fun b_803 => (f__law_sip n b_793.2 b_803.1).bind fun r => some (r.1, r.2))) nd (Ef.eq (ef_callMI (i := 1) (m := fun (c : Cup) (a : Int × Unit) => f__law_sip n c a.1) (As := fun (a : Int × Unit) => [isI a.1]) (get := fun s_799 => s_799) (put := fun s_799 c_800 => c_800) ⟨fun _ => ⟨_, rfl, fun _ => rfl⟩⟩ (G__law_sip.mono (k := 6) (by decide)) hr (ag_cons (Pu.al (pu_b1 call_lenD c_lenD (al_dget (K := kS) (room1 hr) (av (A := (isD kS (isD kI isI))) (a := steps_788) 4) (Pu.al (pu_str))) h_len bt_len)) ag_nil)) rfl))) fun b_802 => ?_
    refine bx_consx (sx_if (N := (fun b_806 : Unit => [.dead, .own none (isCup b_802.2), .dead, .own none ((isT (isT isI)) b_785.1), .dead, .own none (isS b_793.1), .dead, .dead, .dead])) (Tw.te (tw_or (te_not (te_val (Pu.al (pu_callI (m := fun (a : Dat × Dat × Unit) => f__law_same n a.1 a.2.1) (G__law_same.mono (k := 6) (by decide)) hr (ag_cons (al_enc (Pu.al (pu_callK (As := fun (a : (List (List Int)) × Int × Str × Unit) => [(isT (isT isI)) a.1, isI a.2.1, isS a.2.2.1]) (m := fun (a : (List (List Int)) × Int × Str × Unit) => f_word_side a.1 a.2.1 a.2.2.1) (fun b : Str × Int × (List (List Int)) × Unit => ((b.2.2.1, b.2.1, b.1, ()) : (List (List Int)) × Int × Str × Unit)) (GK_word_side_word_side_solid.mono (k := 6) (by decide)) hr (kg_cons (av (A := isS) (a := b_793.1) 5) (kg_cons (av (A := isI) (a := b_802.1) 6) (kg_cons (av (A := (isT (isT isI))) (a := b_785.1) 3) kg_nil))) (fun b zs H F h => by obtain ⟨v0, r0, F0, G0, rfl, h0, ⟨v1, r1, F1, G1, rfl, h1, ⟨v2, r2, F2, G2, rfl, h2, ⟨rfl, rfl⟩, rfl⟩, rfl⟩, rfl⟩ := h; exact ⟨_, ⟨v2, _, _, _, rfl, h2, ⟨v1, _, _, _, rfl, h1, ⟨v0, _, _, _, rfl, h0, ⟨rfl, rfl⟩, rfl⟩, rfl⟩, rfl⟩⟩)))) (ag_cons (al_enc (Pu.al (pu_callI (m := fun (a : (List (Str × (List (Int × Int)))) × Int × Str × Unit) => f__law_lead a.1 a.2.1 a.2.2.1) (G__law_lead.mono (k := 6) (by decide)) hr (ag_cons (av (A := (isD kS (isD kI isI))) (a := steps_788) 4) (ag_cons (av (A := isI) (a := b_802.1) 6) (ag_cons (av (A := isS) (a := b_793.1) 5) ag_nil)))))) ag_nil)))))) (tw_or1 (te_not (te_val (Pu.al (pu_callI (m := fun (a : Dat × Dat × Unit) => f__law_same n a.1 a.2.1) (G__law_same.mono (k := 6) (by decide)) hr (ag_cons (al_enc (Pu.al (pu_callI (m := fun (a : Str × Unit) => f_plain_word a.1) (G_plain_word.mono (k := 6) (by decide)) hr (ag_cons (av (A := isS) (a := b_793.1) 5) ag_nil)))) (ag_cons (al_enc (Pu.al (pu_callI (m := fun (a : Str × Unit) => f__law_plain a.1) (G__law_plain.mono (k := 6) (by decide)) hr (ag_cons (av (A := isS) (a := b_793.1) 5) ag_nil)))) ag_nil))))))))) ?_ ?_) fun b_805 => ?_
    · refine bx_last ?_
      refine sx_ret (A := isB) (p := (some false)) ?_ (fun a => a) ?_ ?_
      · exact Pu.eq (pu_bl) rfl
      · exact fun _ => rfl
      · exact fun _ => (.dead (.dead (.dead (.dead (.dead (.dead (.dead (.dead (.dead .nil)))))))))
    · exact bx_nil (.dead (.same (.dead (.same (.dead (.same (.dead (.dead (.dead .nil)))))))))
    · refine bx_consx (sx_if (N := (fun b_808 : Unit => [.dead, .own none (isCup b_802.2), .dead, .dead, .dead, .dead, .dead, .dead, .dead])) (Tw.te (tw_and (te_cmp op_lt (o_intB (g := fun x y => decide (x < y))) (Pu.al (pu_callI (m := fun (a : (List (List Int)) × Unit) => f__law_common n a.1) (G__law_common.mono (k := 6) (by decide)) hr (ag_cons (av (A := (isT (isT isI))) (a := b_785.1) 3) ag_nil))) (Pu.al (pu_int))) (tw_and1 (te_not (te_val (Pu.al (pu_callI (m := fun (a : Dat × Dat × Unit) => f__law_same n a.1 a.2.1) (G__law_same.mono (k := 6) (by decide)) hr (ag_cons (al_enc (Pu.al (pu_callK (As := fun (a : (List (List Int)) × Str × Unit) => [(isT (isT isI)) a.1, isS a.2.1]) (m := fun (a : (List (List Int)) × Str × Unit) => f_word_back a.1 a.2.1) (fun b : (List (List Int)) × Str × Unit => ((b.1, b.2.1, ()) : (List (List Int)) × Str × Unit)) (GK_word_back_solid_word.mono (k := 6) (by decide)) hr (kg_cons (av (A := (isT (isT isI))) (a := b_785.1) 3) (kg_cons (Pu.al (pu_sl sl_str s_str (av (A := isS) (a := b_793.1) 5) so_none (so_some (Pu.al (pu_int))))) kg_nil)) (fun b zs H F h => by obtain ⟨v0, r0, F0, G0, rfl, h0, ⟨v1, r1, F1, G1, rfl, h1, ⟨rfl, rfl⟩, rfl⟩, rfl⟩ := h; exact ⟨_, ⟨v0, _, _, _, rfl, h0, ⟨v1, _, _, _, rfl, h1, ⟨rfl, rfl⟩, rfl⟩, rfl⟩⟩)))) (ag_cons (al_enc (Pu.al (pu_callI (m := fun (a : (List (List Int)) × Str × Unit) => f__law_back n a.1 a.2.1) (G__law_back.mono (k := 6) (by decide)) hr (ag_cons (av (A := (isT (isT isI))) (a := b_785.1) 3) (ag_cons (Pu.al (pu_sl sl_str s_str (av (A := isS) (a := b_793.1) 5) so_none (so_some (Pu.al (pu_int))))) ag_nil))))) ag_nil))))))))) ?_ ?_) fun b_807 => ?_
      · refine bx_last ?_
        refine sx_ret (A := isB) (p := (some false)) ?_ (fun a => a) ?_ ?_
        · exact Pu.eq (pu_bl) rfl
        · exact fun _ => rfl
        · exact fun _ => (.dead (.dead (.dead (.dead (.dead (.dead (.dead (.dead (.dead .nil)))))))))
      · exact bx_nil (.dead (.same (.dead (.dead (.dead (.dead (.dead (.dead (.dead .nil)))))))))
      · refine bx_cons (sn_st 7 nd (pu_cti ([[0, 2, 4], [1, 6, 8], [3, 9, 10], [5, 11, 7]] : List (List Int)))) fun tetra_809 => ?_
        refine bx_consx (sx_if (N := (fun b_811 : Unit => [.dead, .own none (isCup b_802.2), .dead, .dead, .dead, .dead, .dead, .own none ((isT (isT isI)) tetra_809), .dead])) (Tw.te (tw_or (te_not (te_val (Pu.al (pu_callI (m := fun (a : Dat × Dat × Unit) => f__law_same n a.1 a.2.1) (G__law_same.mono (k := 6) (by decide)) hr (ag_cons (al_enc (Pu.al (pu_callI (m := fun (a : (List (List Int)) × Int × Int × Unit) => f_first_word n a.1 a.2.1 a.2.2.1) (G_first_word.mono (k := 6) (by decide)) hr (ag_cons (av (A := (isT (isT isI))) (a := tetra_809) 7) (ag_cons (Pu.al (pu_int)) (ag_cons (Pu.al (pu_int)) ag_nil)))))) (ag_cons (al_enc (Pu.al (pu_str))) ag_nil)))))) (tw_or1 (te_not (te_val (Pu.al (pu_callI (m := fun (a : Dat × Dat × Unit) => f__law_same n a.1 a.2.1) (G__law_same.mono (k := 6) (by decide)) hr (ag_cons (al_enc (Pu.al (pu_callK (As := fun (a : (List (List Int)) × Int × Unit) => [(isT (isT isI)) a.1, isI a.2.1]) (m := fun (a : (List (List Int)) × Int × Unit) => f_word_steps n a.1 a.2.1) (fun b : (List (List Int)) × Int × Unit => ((b.1, b.2.1, ()) : (List (List Int)) × Int × Unit)) (GK_word_steps_solid_side.mono (k := 6) (by decide)) hr (kg_cons (av (A := (isT (isT isI))) (a := tetra_809) 7) (kg_cons (Pu.al (pu_int)) kg_nil)) (fun b zs H F h => by obtain ⟨v0, r0, F0, G0, rfl, h0, ⟨v1, r1, F1, G1, rfl, h1, ⟨rfl, rfl⟩, rfl⟩, rfl⟩ := h; exact ⟨_, ⟨v0, _, _, _, rfl, h0, ⟨v1, _, _, _, rfl, h1, ⟨rfl, rfl⟩, rfl⟩, rfl⟩⟩)))) (ag_cons (al_enc (Pu.al (pu_ci ([0, 1, 1, 2, 2, 3, 2, 3, 3, 3, 4, 4] : List Int)))) ag_nil))))))))) ?_ ?_) fun b_810 => ?_
        · refine bx_last ?_
          refine sx_ret (A := isB) (p := (some false)) ?_ (fun a => a) ?_ ?_
          · exact Pu.eq (pu_bl) rfl
          · exact fun _ => rfl
          · exact fun _ => (.dead (.dead (.dead (.dead (.dead (.dead (.dead (.dead (.dead .nil)))))))))
        · exact bx_nil (.dead (.same (.dead (.dead (.dead (.dead (.dead (.same (.dead .nil)))))))))
        · refine bx_consx (sx_if (N := (fun b_813 : Unit => [.dead, .own none (isCup b_802.2), .dead, .dead, .dead, .dead, .dead, .own none ((isT (isT isI)) tetra_809), .dead])) (Tw.te (tw_or (te_cmp op_notBl o_notB (Pu.al (pu_callK (As := fun (a : (List (List Int)) × Str × Str × Unit) => [(isT (isT isI)) a.1, isS a.2.1, isS a.2.2.1]) (m := fun (a : (List (List Int)) × Str × Str × Unit) => f_are_like_words a.1 a.2.1 a.2.2.1) (fun b : (List (List Int)) × Str × Str × Unit => ((b.1, b.2.1, b.2.2.1, ()) : (List (List Int)) × Str × Str × Unit)) (GK_are_like_words_solid_one_other.mono (k := 6) (by decide)) hr (kg_cons (av (A := (isT (isT isI))) (a := tetra_809) 7) (kg_cons (Pu.al (pu_str)) (kg_cons (Pu.al (pu_str)) kg_nil))) (fun b zs H F h => by obtain ⟨v0, r0, F0, G0, rfl, h0, ⟨v1, r1, F1, G1, rfl, h1, ⟨v2, r2, F2, G2, rfl, h2, ⟨rfl, rfl⟩, rfl⟩, rfl⟩, rfl⟩ := h; exact ⟨_, ⟨v0, _, _, _, rfl, h0, ⟨v1, _, _, _, rfl, h1, ⟨v2, _, _, _, rfl, h2, ⟨rfl, rfl⟩, rfl⟩, rfl⟩, rfl⟩⟩))) (Pu.al (pu_bl))) (tw_or1 (te_cmp op_notBl o_notB (Pu.al (pu_callI (m := fun (a : (List (List Int)) × Str × Str × Unit) => f_are_like_words a.1 a.2.1 a.2.2.1) (G_are_like_words.mono (k := 6) (by decide)) hr (ag_cons (av (A := (isT (isT isI))) (a := tetra_809) 7) (ag_cons (Pu.al (pu_str)) (ag_cons (Pu.al (pu_str)) ag_nil))))) (Pu.al (pu_bl)))))) ?_ ?_) fun b_812 => ?_
          · refine bx_last ?_
            refine sx_ret (A := isB) (p := (some false)) ?_ (fun a => a) ?_ ?_
            · exact Pu.eq (pu_bl) rfl
            · exact fun _ => rfl
            · exact fun _ => (.dead (.dead (.dead (.dead (.dead (.dead (.dead (.dead (.dead .nil)))))))))
          · exact bx_nil (.dead (.same (.dead (.dead (.dead (.dead (.dead (.same (.dead .nil)))))))))
          · refine bx_consx (sx_if (N := (fun b_815 : Unit => [.dead, .own none (isCup b_802.2), .dead, .dead, .dead, .dead, .dead, .dead, .dead])) (Tw.te (tw_or (te_not (te_val (Pu.al (pu_callI (m := fun (a : Dat × Dat × Unit) => f__law_same n a.1 a.2.1) (G__law_same.mono (k := 6) (by decide)) hr (ag_cons (al_enc (Pu.al (pu_callI (m := fun (a : (List (List Int)) × Str × Unit) => f_word_back a.1 a.2.1) (G_word_back.mono (k := 6) (by decide)) hr (ag_cons (av (A := (isT (isT isI))) (a := tetra_809) 7) (ag_cons (Pu.al (pu_str)) ag_nil))))) (ag_cons (al_enc (Pu.al (pu_str))) ag_nil)))))) (tw_or (te_not (te_val (Pu.al (pu_callI (m := fun (a : Dat × Dat × Unit) => f__law_same n a.1 a.2.1) (G__law_same.mono (k := 6) (by decide)) hr (ag_cons (al_enc (Pu.al (pu_callI (m := fun (a : Str × Unit) => f_plain_word a.1) (G_plain_word.mono (k := 6) (by decide)) hr (ag_cons (Pu.al (pu_bin op_add_str o_addS (Pu.al (pu_str)) (Pu.al (pu_bin op_mulS o_mulS (Pu.al (pu_str)) (Pu.al (pu_int)))))) ag_nil)))) (ag_cons (al_enc (Pu.al (pu_str))) ag_nil)))))) (tw_or1 (te_not (te_val (Pu.al (pu_callI (m := fun (a : Dat × Dat × Unit) => f__law_same n a.1 a.2.1) (G__law_same.mono (k := 6) (by decide)) hr (ag_cons (al_enc (Pu.al (pu_callI (m := fun (a : Str × Unit) => f_plain_word a.1) (G_plain_word.mono (k := 6) (by decide)) hr (ag_cons (Pu.al (pu_str)) ag_nil)))) (ag_cons (al_enc (Pu.al (pu_str))) ag_nil)))))))))) ?_ ?_) fun b_814 => ?_
            · refine bx_last ?_
              refine sx_ret (A := isB) (p := (some false)) ?_ (fun a => a) ?_ ?_
              · exact Pu.eq (pu_bl) rfl
              · exact fun _ => rfl
              · exact fun _ => (.dead (.dead (.dead (.dead (.dead (.dead (.dead (.dead (.dead .nil)))))))))
            · exact bx_nil (.dead (.same (.dead (.dead (.dead (.dead (.dead (.dead (.dead .nil)))))))))
            · refine bx_consx (sx_ifE (Γ := (fun s_818 : Cup => [.dead, .own none (isCup s_818), .dead, .dead, .dead, .dead, .dead, .dead, .dead])) (s0 := b_802.2) (t := ((((some (13 : Int)).bind fun x => (some ()).bind fun y => some (x, y)).bind fun b_824 => (f__law_sip n b_802.2 b_824.1).bind fun r => some (r.1, r.2)).bind fun x_822 => ((some (2 : Int)).bind fun a => some (a, x_822.2)).bind fun y_823 => (some (decide (x_822.1 ≠ y_823.1))).bind fun z => some (z, y_823.2))) (m1 := fun s_819 : Cup => ((some true).bind fun a => some (.rt a))) (m2 := fun s_819 : Cup => (some (.nx s_819))) (N := (fun b_821 : Cup => [.dead, .own none (isCup b_821), .dead, .dead, .dead, .dead, .dead, .dead, .dead])) (Tf.eq (p' := ((((some (13 : Int)).bind fun x => (some ()).bind fun y => some (x, y)).bind fun b_827 => (f__law_sip n b_802.2 b_827.1).bind fun r => some (r.1, r.2)).bind fun x_825 => ((some (2 : Int)).bind fun a => some (a, x_825.2)).bind fun y_826 => (some (decide (x_825.1 ≠ y_826.1))).bind fun z => some (z, y_826.2))) (tf_cmp op_ne o_neI (ef_callMI (i := 1) (m := fun (c : Cup) (a : Int × Unit) => f__law_sip n c a.1) (As := fun (a : Int × Unit) => [isI a.1]) (get := fun s_816 => s_816) (put := fun s_816 c_817 => c_817) ⟨fun _ => ⟨_, rfl, fun _ => rfl⟩⟩ (G__law_sip.mono (k := 6) (by decide)) hr (ag_cons (Pu.al (pu_int)) ag_nil)) (fun _ _ => Pu.ef (pu_int))) rfl) (fun s_819 => ?_) (fun s_819 => ?_)) fun b_820 => ?_
              · refine bx_last ?_
                refine sx_ret (A := isB) (p := (some true)) ?_ (fun a => a) ?_ ?_
                · exact Pu.eq (pu_bl) rfl
                · exact fun _ => rfl
                · exact fun _ => (.dead (.dead (.dead (.dead (.dead (.dead (.dead (.dead (.dead .nil)))))))))
              · exact bx_nil (.dead (.same (.dead (.dead (.dead (.dead (.dead (.dead (.dead .nil)))))))))
              · refine bx_last ?_
                refine sx_retE (Γ := (fun s_839 : Cup => [.dead, .own none (isCup s_839), .dead, .dead, .dead, .dead, .dead, .dead, .dead])) (s0 := b_820) (A := isB) (m := ((((((((some (30 : Int)).bind rng1).bind fun xs => some (xs, b_820)).bind fun w_846 => (compS (fun x_836 s_848 => (((some (3 : Int)).bind fun a => some (a, s_848)).bind fun x_849 => (((some (2 : Int)).bind fun x => (some ()).bind fun y => some (x, y)).bind fun b_851 => (f__law_sip n x_849.2 b_851.1).bind fun r => some (r.1, r.2)).bind fun y_850 => (some (x_849.1 + y_850.1)).bind fun z => some (z, y_850.2))) w_846.1 w_846.2).bind fun z_847 => (fits z_847.1).bind fun ys => some (ys, z_847.2)).bind fun a_844 => (((some (0 : Int)).bind fun a => some (a, a_844.2)).bind fun a_852 => (some ((), a_852.2)).bind fun b_853 => some ((a_852.1, b_853.1), b_853.2)).bind fun b_845 => some ((a_844.1, b_845.1), b_845.2)).bind fun b_843 => (f__law_glue n b_843.2 b_843.1.1 b_843.1.2.1).bind fun r => some (r.1, r.2)).bind fun a_841 => (some ((), a_841.2)).bind fun b_842 => some ((a_841.1, b_842.1), b_842.2)).bind fun b_840 => (f__law_scene n b_840.2 b_840.1.1).bind fun r => some (r.1, r.2))) ?_ (fun a _ => a) ?_ ?_
                · exact Ef.eq (ef_callMeI (i := 1) (m := fun (c : Cup) (a : (List (List Int)) × Unit) => f__law_scene n c a.1) (As := fun (a : (List (List Int)) × Unit) => [(isT (isT isI)) a.1]) (get := fun s_832 => s_832) (put := fun s_832 c_833 => c_833) ⟨fun _ => ⟨_, rfl, fun _ => rfl⟩⟩ (G__law_scene.mono (k := 6) (by decide)) hr (ae_cons (ef_callMeI (i := 1) (m := fun (c : Cup) (a : (List Int) × Int × Unit) => f__law_glue n c a.1 a.2.1) (As := fun (a : (List Int) × Int × Unit) => [(isL isI) a.1, isI a.2.1]) (get := fun s_834 => s_834) (put := fun s_834 c_835 => c_835) ⟨fun _ => ⟨_, rfl, fun _ => rfl⟩⟩ (G__law_glue.mono (k := 6) (by decide)) hr (ae_cons (ef_lc (A := isI) [("face", 8)] nd (Wa.we (wa_rng1 (Pu.al (pu_int)) h_range)) (fun s_ H_ C_ cl_ fp_ => lcg1 8 nd) (tgs_name 8) (fun _ _ => (.same (.same (.same (.same (.same (.same (.same (.same (.dead .nil)))))))))) (fun x_836 _ s_ H_ C_ cl_ fp_ => ef_bin op_add o_int0 (Pu.ef (pu_int)) (fun _ _ => ef_callMI (i := 1) (m := fun (c : Cup) (a : Int × Unit) => f__law_sip n c a.1) (As := fun (a : Int × Unit) => [isI a.1]) (get := fun s_837 => s_837) (put := fun s_837 c_838 => c_838) ⟨fun _ => ⟨_, rfl, fun _ => rfl⟩⟩ (G__law_sip.mono (k := 6) (by decide)) hr (ag_cons (Pu.al (pu_int)) ag_nil)))) fun _ _ => (ae_cons (Pu.ef (pu_int)) fun _ _ => ae_nil)) (fun b _ _ _ => (cl_cons (cl_cons cl_nil)))) fun _ _ => ae_nil) (fun b _ _ _ => (cl_cons cl_nil))) rfl
                · exact fun _ _ => rfl
                · exact fun _ _ => (.dead (.dead (.dead (.dead (.dead (.dead (.dead (.dead (.dead .nil)))))))))
end K83
set_option maxHeartbeats 1000000
namespace K83
open PySem PySem.Spec L2 Rf
variable {P : Program} {w : World} {K : PySem.W.Frag} {mg : Str → Option Value} {base : Heap}

theorem kput_len {τ : Type} {n m : Nat} {is : List Nat} {us ws : List τ} (h : (kput n is us ws).length = m) (hm : m ≠ 0) : us = [] ∧ ws.length = n := by
  unfold kput at h
  split at h
  · rename_i c
    simp only [Bool.and_eq_true, decide_eq_true_eq, List.isEmpty_iff] at c
    exact c
  · exact absurd h.symm hm
def spEnd (K : PySem.W.Frag) : Sp := fun vs H Q _ => ∃ (a : Addr) (ns : List Int), vs = [.ref a] ∧ SqL K H a (ns.map V.int) ∧ ns.length ≤ 63 ∧ ∀ H', Q (.bl true) H'

theorem all_mk {l : PySem.W.OpenLaw} {w : World} {K : PySem.W.Frag} {h : Heap} {mg : Str → Option Value} {fa : Addr} (X : K.In h) (G : h.Ns mainGlobals mg) (hfa : mg "law" = some (.ref fa)) (hT : ∀ ns : List Int, ns.length ≤ 63 → f_law 100000 ns = some true)
    {f0 : Addr} {od0 an0 : Option Addr} {sl0 : Array (Option Value)} {oc0 kV0 dc0 pm0 cd0 ct0 : Value}
    (a0 : PySem.W.nsIn K mainGlobals "behind_table" = some (some (.ref f0))) (l0 : K.lookup f0 = some ⟨oc0, od0, .func (PySem.W.fnOf "behind_table" "behind_table" (defArgs s_behind_table) (defBody s_behind_table) (defScope s_behind_table) .none kV0 dc0 pm0 an0 cd0 ct0), sl0⟩) (c0 : PySem.W.codeIn K cd0 "behind_table" = true) (k0 : PySem.W.keepIn K (.ref f0) = true)
    {f1 : Addr} {od1 an1 : Option Addr} {sl1 : Array (Option Value)} {oc1 kV1 dc1 pm1 cd1 ct1 : Value}
    (a1 : PySem.W.nsIn K mainGlobals "face_table" = some (some (.ref f1))) (l1 : K.lookup f1 = some ⟨oc1, od1, .func (PySem.W.fnOf "face_table" "face_table" (defArgs s_face_table) (defBody s_face_table) (defScope s_face_table) .none kV1 dc1 pm1 an1 cd1 ct1), sl1⟩) (c1 : PySem.W.codeIn K cd1 "face_table" = true) (k1 : PySem.W.keepIn K (.ref f1) = true)
    {f2 : Addr} {od2 an2 : Option Addr} {sl2 : Array (Option Value)} {oc2 kV2 dc2 pm2 cd2 ct2 : Value}
    (a2 : PySem.W.nsIn K mainGlobals "sides_of" = some (some (.ref f2))) (l2 : K.lookup f2 = some ⟨oc2, od2, .func (PySem.W.fnOf "sides_of" "sides_of" (defArgs s_sides_of) (defBody s_sides_of) (defScope s_sides_of) .none kV2 dc2 pm2 an2 cd2 ct2), sl2⟩) (c2 : PySem.W.codeIn K cd2 "sides_of" = true) (k2 : PySem.W.keepIn K (.ref f2) = true)
    {f3 : Addr} {od3 an3 : Option Addr} {sl3 : Array (Option Value)} {oc3 kV3 dc3 pm3 cd3 ct3 : Value}
    (a3 : PySem.W.nsIn K mainGlobals "least_multiple" = some (some (.ref f3))) (l3 : K.lookup f3 = some ⟨oc3, od3, .func (PySem.W.fnOf "least_multiple" "least_multiple" (defArgs s_least_multiple) (defBody s_least_multiple) (defScope s_least_multiple) .none kV3 dc3 pm3 an3 cd3 ct3), sl3⟩) (c3 : PySem.W.codeIn K cd3 "least_multiple" = true) (k3 : PySem.W.keepIn K (.ref f3) = true)
    {f4 : Addr} {od4 an4 : Option Addr} {sl4 : Array (Option Value)} {oc4 kV4 dc4 pm4 cd4 ct4 : Value}
    (a4 : PySem.W.nsIn K mainGlobals "least_of_sizes" = some (some (.ref f4))) (l4 : K.lookup f4 = some ⟨oc4, od4, .func (PySem.W.fnOf "least_of_sizes" "least_of_sizes" (defArgs s_least_of_sizes) (defBody s_least_of_sizes) (defScope s_least_of_sizes) .none kV4 dc4 pm4 an4 cd4 ct4), sl4⟩) (c4 : PySem.W.codeIn K cd4 "least_of_sizes" = true) (k4 : PySem.W.keepIn K (.ref f4) = true)
    {f5 : Addr} {od5 an5 : Option Addr} {sl5 : Array (Option Value)} {oc5 kV5 dc5 pm5 cd5 ct5 : Value}
    (a5 : PySem.W.nsIn K mainGlobals "led_side" = some (some (.ref f5))) (l5 : K.lookup f5 = some ⟨oc5, od5, .func (PySem.W.fnOf "led_side" "led_side" (defArgs s_led_side) (defBody s_led_side) (defScope s_led_side) .none kV5 dc5 pm5 an5 cd5 ct5), sl5⟩) (c5 : PySem.W.codeIn K cd5 "led_side" = true) (k5 : PySem.W.keepIn K (.ref f5) = true)
    {f6 : Addr} {od6 an6 : Option Addr} {sl6 : Array (Option Value)} {oc6 kV6 dc6 pm6 cd6 ct6 : Value}
    (a6 : PySem.W.nsIn K mainGlobals "word_side" = some (some (.ref f6))) (l6 : K.lookup f6 = some ⟨oc6, od6, .func (PySem.W.fnOf "word_side" "word_side" (defArgs s_word_side) (defBody s_word_side) (defScope s_word_side) .none kV6 dc6 pm6 an6 cd6 ct6), sl6⟩) (c6 : PySem.W.codeIn K cd6 "word_side" = true) (k6 : PySem.W.keepIn K (.ref f6) = true)
    {f7 : Addr} {od7 an7 : Option Addr} {sl7 : Array (Option Value)} {oc7 kV7 dc7 pm7 cd7 ct7 : Value}
    (a7 : PySem.W.nsIn K mainGlobals "word_map" = some (some (.ref f7))) (l7 : K.lookup f7 = some ⟨oc7, od7, .func (PySem.W.fnOf "word_map" "word_map" (defArgs s_word_map) (defBody s_word_map) (defScope s_word_map) .none kV7 dc7 pm7 an7 cd7 ct7), sl7⟩) (c7 : PySem.W.codeIn K cd7 "word_map" = true) (k7 : PySem.W.keepIn K (.ref f7) = true)
    {f8 : Addr} {od8 an8 : Option Addr} {sl8 : Array (Option Value)} {oc8 kV8 dc8 pm8 cd8 ct8 : Value}
    (a8 : PySem.W.nsIn K mainGlobals "first_words" = some (some (.ref f8))) (l8 : K.lookup f8 = some ⟨oc8, od8, .func (PySem.W.fnOf "first_words" "first_words" (defArgs s_first_words) (defBody s_first_words) (defScope s_first_words) .none kV8 dc8 pm8 an8 cd8 ct8), sl8⟩) (c8 : PySem.W.codeIn K cd8 "first_words" = true) (k8 : PySem.W.keepIn K (.ref f8) = true)
    {f9 : Addr} {od9 an9 : Option Addr} {sl9 : Array (Option Value)} {oc9 kV9 dc9 pm9 cd9 ct9 : Value}
    (a9 : PySem.W.nsIn K mainGlobals "first_word" = some (some (.ref f9))) (l9 : K.lookup f9 = some ⟨oc9, od9, .func (PySem.W.fnOf "first_word" "first_word" (defArgs s_first_word) (defBody s_first_word) (defScope s_first_word) .none kV9 dc9 pm9 an9 cd9 ct9), sl9⟩) (c9 : PySem.W.codeIn K cd9 "first_word" = true) (k9 : PySem.W.keepIn K (.ref f9) = true)
    {f10 : Addr} {od10 an10 : Option Addr} {sl10 : Array (Option Value)} {oc10 kV10 dc10 pm10 cd10 ct10 : Value}
    (a10 : PySem.W.nsIn K mainGlobals "word_steps" = some (some (.ref f10))) (l10 : K.lookup f10 = some ⟨oc10, od10, .func (PySem.W.fnOf "word_steps" "word_steps" (defArgs s_word_steps) (defBody s_word_steps) (defScope s_word_steps) .none kV10 dc10 pm10 an10 cd10 ct10), sl10⟩) (c10 : PySem.W.codeIn K cd10 "word_steps" = true) (k10 : PySem.W.keepIn K (.ref f10) = true)
    {f11 : Addr} {od11 an11 : Option Addr} {sl11 : Array (Option Value)} {oc11 kV11 dc11 pm11 cd11 ct11 : Value}
    (a11 : PySem.W.nsIn K mainGlobals "are_like_words" = some (some (.ref f11))) (l11 : K.lookup f11 = some ⟨oc11, od11, .func (PySem.W.fnOf "are_like_words" "are_like_words" (defArgs s_are_like_words) (defBody s_are_like_words) (defScope s_are_like_words) .none kV11 dc11 pm11 an11 cd11 ct11), sl11⟩) (c11 : PySem.W.codeIn K cd11 "are_like_words" = true) (k11 : PySem.W.keepIn K (.ref f11) = true)
    {f12 : Addr} {od12 an12 : Option Addr} {sl12 : Array (Option Value)} {oc12 kV12 dc12 pm12 cd12 ct12 : Value}
    (a12 : PySem.W.nsIn K mainGlobals "plain_word" = some (some (.ref f12))) (l12 : K.lookup f12 = some ⟨oc12, od12, .func (PySem.W.fnOf "plain_word" "plain_word" (defArgs s_plain_word) (defBody s_plain_word) (defScope s_plain_word) .none kV12 dc12 pm12 an12 cd12 ct12), sl12⟩) (c12 : PySem.W.codeIn K cd12 "plain_word" = true) (k12 : PySem.W.keepIn K (.ref f12) = true)
    {f13 : Addr} {od13 an13 : Option Addr} {sl13 : Array (Option Value)} {oc13 kV13 dc13 pm13 cd13 ct13 : Value}
    (a13 : PySem.W.nsIn K mainGlobals "word_back" = some (some (.ref f13))) (l13 : K.lookup f13 = some ⟨oc13, od13, .func (PySem.W.fnOf "word_back" "word_back" (defArgs s_word_back) (defBody s_word_back) (defScope s_word_back) .none kV13 dc13 pm13 an13 cd13 ct13), sl13⟩) (c13 : PySem.W.codeIn K cd13 "word_back" = true) (k13 : PySem.W.keepIn K (.ref f13) = true)
    {f14 : Addr} {od14 an14 : Option Addr} {sl14 : Array (Option Value)} {oc14 kV14 dc14 pm14 cd14 ct14 : Value}
    (a14 : PySem.W.nsIn K mainGlobals "_law_cup" = some (some (.ref f14))) (l14 : K.lookup f14 = some ⟨oc14, od14, .func (PySem.W.fnOf "_law_cup" "_law_cup" (defArgs s__law_cup) (defBody s__law_cup) (defScope s__law_cup) .none kV14 dc14 pm14 an14 cd14 ct14), sl14⟩) (c14 : PySem.W.codeIn K cd14 "_law_cup" = true) (k14 : PySem.W.keepIn K (.ref f14) = true)
    {f15 : Addr} {od15 an15 : Option Addr} {sl15 : Array (Option Value)} {oc15 kV15 dc15 pm15 cd15 ct15 : Value}
    (a15 : PySem.W.nsIn K mainGlobals "_law_sip" = some (some (.ref f15))) (l15 : K.lookup f15 = some ⟨oc15, od15, .func (PySem.W.fnOf "_law_sip" "_law_sip" (defArgs s__law_sip) (defBody s__law_sip) (defScope s__law_sip) .none kV15 dc15 pm15 an15 cd15 ct15), sl15⟩) (c15 : PySem.W.codeIn K cd15 "_law_sip" = true) (k15 : PySem.W.keepIn K (.ref f15) = true)
    {f16 : Addr} {od16 an16 : Option Addr} {sl16 : Array (Option Value)} {oc16 kV16 dc16 pm16 cd16 ct16 : Value}
    (a16 : PySem.W.nsIn K mainGlobals "_law_mixed" = some (some (.ref f16))) (l16 : K.lookup f16 = some ⟨oc16, od16, .func (PySem.W.fnOf "_law_mixed" "_law_mixed" (defArgs s__law_mixed) (defBody s__law_mixed) (defScope s__law_mixed) .none kV16 dc16 pm16 an16 cd16 ct16), sl16⟩) (c16 : PySem.W.codeIn K cd16 "_law_mixed" = true) (k16 : PySem.W.keepIn K (.ref f16) = true)
    {f17 : Addr} {od17 an17 : Option Addr} {sl17 : Array (Option Value)} {oc17 kV17 dc17 pm17 cd17 ct17 : Value}
    (a17 : PySem.W.nsIn K mainGlobals "_law_ordered" = some (some (.ref f17))) (l17 : K.lookup f17 = some ⟨oc17, od17, .func (PySem.W.fnOf "_law_ordered" "_law_ordered" (defArgs s__law_ordered) (defBody s__law_ordered) (defScope s__law_ordered) .none kV17 dc17 pm17 an17 cd17 ct17), sl17⟩) (c17 : PySem.W.codeIn K cd17 "_law_ordered" = true) (k17 : PySem.W.keepIn K (.ref f17) = true)
    {f18 : Addr} {od18 an18 : Option Addr} {sl18 : Array (Option Value)} {oc18 kV18 dc18 pm18 cd18 ct18 : Value}
    (a18 : PySem.W.nsIn K mainGlobals "_law_glue" = some (some (.ref f18))) (l18 : K.lookup f18 = some ⟨oc18, od18, .func (PySem.W.fnOf "_law_glue" "_law_glue" (defArgs s__law_glue) (defBody s__law_glue) (defScope s__law_glue) .none kV18 dc18 pm18 an18 cd18 ct18), sl18⟩) (c18 : PySem.W.codeIn K cd18 "_law_glue" = true) (k18 : PySem.W.keepIn K (.ref f18) = true)
    {f19 : Addr} {od19 an19 : Option Addr} {sl19 : Array (Option Value)} {oc19 kV19 dc19 pm19 cd19 ct19 : Value}
    (a19 : PySem.W.nsIn K mainGlobals "_law_same" = some (some (.ref f19))) (l19 : K.lookup f19 = some ⟨oc19, od19, .func (PySem.W.fnOf "_law_same" "_law_same" (defArgs s__law_same) (defBody s__law_same) (defScope s__law_same) .none kV19 dc19 pm19 an19 cd19 ct19), sl19⟩) (c19 : PySem.W.codeIn K cd19 "_law_same" = true) (k19 : PySem.W.keepIn K (.ref f19) = true)
    {f20 : Addr} {od20 an20 : Option Addr} {sl20 : Array (Option Value)} {oc20 kV20 dc20 pm20 cd20 ct20 : Value}
    (a20 : PySem.W.nsIn K mainGlobals "_law_torus" = some (some (.ref f20))) (l20 : K.lookup f20 = some ⟨oc20, od20, .func (PySem.W.fnOf "_law_torus" "_law_torus" (defArgs s__law_torus) (defBody s__law_torus) (defScope s__law_torus) .none kV20 dc20 pm20 an20 cd20 ct20), sl20⟩) (c20 : PySem.W.codeIn K cd20 "_law_torus" = true) (k20 : PySem.W.keepIn K (.ref f20) = true)
    {f21 : Addr} {od21 an21 : Option Addr} {sl21 : Array (Option Value)} {oc21 kV21 dc21 pm21 cd21 ct21 : Value}
    (a21 : PySem.W.nsIn K mainGlobals "_law_solid" = some (some (.ref f21))) (l21 : K.lookup f21 = some ⟨oc21, od21, .func (PySem.W.fnOf "_law_solid" "_law_solid" (defArgs s__law_solid) (defBody s__law_solid) (defScope s__law_solid) .none kV21 dc21 pm21 an21 cd21 ct21), sl21⟩) (c21 : PySem.W.codeIn K cd21 "_law_solid" = true) (k21 : PySem.W.keepIn K (.ref f21) = true)
    {f22 : Addr} {od22 an22 : Option Addr} {sl22 : Array (Option Value)} {oc22 kV22 dc22 pm22 cd22 ct22 : Value}
    (a22 : PySem.W.nsIn K mainGlobals "_law_steps" = some (some (.ref f22))) (l22 : K.lookup f22 = some ⟨oc22, od22, .func (PySem.W.fnOf "_law_steps" "_law_steps" (defArgs s__law_steps) (defBody s__law_steps) (defScope s__law_steps) .none kV22 dc22 pm22 an22 cd22 ct22), sl22⟩) (c22 : PySem.W.codeIn K cd22 "_law_steps" = true) (k22 : PySem.W.keepIn K (.ref f22) = true)
    {f23 : Addr} {od23 an23 : Option Addr} {sl23 : Array (Option Value)} {oc23 kV23 dc23 pm23 cd23 ct23 : Value}
    (a23 : PySem.W.nsIn K mainGlobals "_law_lead" = some (some (.ref f23))) (l23 : K.lookup f23 = some ⟨oc23, od23, .func (PySem.W.fnOf "_law_lead" "_law_lead" (defArgs s__law_lead) (defBody s__law_lead) (defScope s__law_lead) .none kV23 dc23 pm23 an23 cd23 ct23), sl23⟩) (c23 : PySem.W.codeIn K cd23 "_law_lead" = true) (k23 : PySem.W.keepIn K (.ref f23) = true)
    {f24 : Addr} {od24 an24 : Option Addr} {sl24 : Array (Option Value)} {oc24 kV24 dc24 pm24 cd24 ct24 : Value}
    (a24 : PySem.W.nsIn K mainGlobals "_law_map" = some (some (.ref f24))) (l24 : K.lookup f24 = some ⟨oc24, od24, .func (PySem.W.fnOf "_law_map" "_law_map" (defArgs s__law_map) (defBody s__law_map) (defScope s__law_map) .none kV24 dc24 pm24 an24 cd24 ct24), sl24⟩) (c24 : PySem.W.codeIn K cd24 "_law_map" = true) (k24 : PySem.W.keepIn K (.ref f24) = true)
    {f25 : Addr} {od25 an25 : Option Addr} {sl25 : Array (Option Value)} {oc25 kV25 dc25 pm25 cd25 ct25 : Value}
    (a25 : PySem.W.nsIn K mainGlobals "_law_all_words" = some (some (.ref f25))) (l25 : K.lookup f25 = some ⟨oc25, od25, .func (PySem.W.fnOf "_law_all_words" "_law_all_words" (defArgs s__law_all_words) (defBody s__law_all_words) (defScope s__law_all_words) .none kV25 dc25 pm25 an25 cd25 ct25), sl25⟩) (c25 : PySem.W.codeIn K cd25 "_law_all_words" = true) (k25 : PySem.W.keepIn K (.ref f25) = true)
    {f26 : Addr} {od26 an26 : Option Addr} {sl26 : Array (Option Value)} {oc26 kV26 dc26 pm26 cd26 ct26 : Value}
    (a26 : PySem.W.nsIn K mainGlobals "_law_firsts" = some (some (.ref f26))) (l26 : K.lookup f26 = some ⟨oc26, od26, .func (PySem.W.fnOf "_law_firsts" "_law_firsts" (defArgs s__law_firsts) (defBody s__law_firsts) (defScope s__law_firsts) .none kV26 dc26 pm26 an26 cd26 ct26), sl26⟩) (c26 : PySem.W.codeIn K cd26 "_law_firsts" = true) (k26 : PySem.W.keepIn K (.ref f26) = true)
    {f27 : Addr} {od27 an27 : Option Addr} {sl27 : Array (Option Value)} {oc27 kV27 dc27 pm27 cd27 ct27 : Value}
    (a27 : PySem.W.nsIn K mainGlobals "_law_word" = some (some (.ref f27))) (l27 : K.lookup f27 = some ⟨oc27, od27, .func (PySem.W.fnOf "_law_word" "_law_word" (defArgs s__law_word) (defBody s__law_word) (defScope s__law_word) .none kV27 dc27 pm27 an27 cd27 ct27), sl27⟩) (c27 : PySem.W.codeIn K cd27 "_law_word" = true) (k27 : PySem.W.keepIn K (.ref f27) = true)
    {f28 : Addr} {od28 an28 : Option Addr} {sl28 : Array (Option Value)} {oc28 kV28 dc28 pm28 cd28 ct28 : Value}
    (a28 : PySem.W.nsIn K mainGlobals "_law_plain" = some (some (.ref f28))) (l28 : K.lookup f28 = some ⟨oc28, od28, .func (PySem.W.fnOf "_law_plain" "_law_plain" (defArgs s__law_plain) (defBody s__law_plain) (defScope s__law_plain) .none kV28 dc28 pm28 an28 cd28 ct28), sl28⟩) (c28 : PySem.W.codeIn K cd28 "_law_plain" = true) (k28 : PySem.W.keepIn K (.ref f28) = true)
    {f29 : Addr} {od29 an29 : Option Addr} {sl29 : Array (Option Value)} {oc29 kV29 dc29 pm29 cd29 ct29 : Value}
    (a29 : PySem.W.nsIn K mainGlobals "_law_common" = some (some (.ref f29))) (l29 : K.lookup f29 = some ⟨oc29, od29, .func (PySem.W.fnOf "_law_common" "_law_common" (defArgs s__law_common) (defBody s__law_common) (defScope s__law_common) .none kV29 dc29 pm29 an29 cd29 ct29), sl29⟩) (c29 : PySem.W.codeIn K cd29 "_law_common" = true) (k29 : PySem.W.keepIn K (.ref f29) = true)
    {f30 : Addr} {od30 an30 : Option Addr} {sl30 : Array (Option Value)} {oc30 kV30 dc30 pm30 cd30 ct30 : Value}
    (a30 : PySem.W.nsIn K mainGlobals "_law_back" = some (some (.ref f30))) (l30 : K.lookup f30 = some ⟨oc30, od30, .func (PySem.W.fnOf "_law_back" "_law_back" (defArgs s__law_back) (defBody s__law_back) (defScope s__law_back) .none kV30 dc30 pm30 an30 cd30 ct30), sl30⟩) (c30 : PySem.W.codeIn K cd30 "_law_back" = true) (k30 : PySem.W.keepIn K (.ref f30) = true)
    {f31 : Addr} {od31 an31 : Option Addr} {sl31 : Array (Option Value)} {oc31 kV31 dc31 pm31 cd31 ct31 : Value}
    (a31 : PySem.W.nsIn K mainGlobals "_law_likes" = some (some (.ref f31))) (l31 : K.lookup f31 = some ⟨oc31, od31, .func (PySem.W.fnOf "_law_likes" "_law_likes" (defArgs s__law_likes) (defBody s__law_likes) (defScope s__law_likes) .none kV31 dc31 pm31 an31 cd31 ct31), sl31⟩) (c31 : PySem.W.codeIn K cd31 "_law_likes" = true) (k31 : PySem.W.keepIn K (.ref f31) = true)
    {f32 : Addr} {od32 an32 : Option Addr} {sl32 : Array (Option Value)} {oc32 kV32 dc32 pm32 cd32 ct32 : Value}
    (a32 : PySem.W.nsIn K mainGlobals "_law_scene" = some (some (.ref f32))) (l32 : K.lookup f32 = some ⟨oc32, od32, .func (PySem.W.fnOf "_law_scene" "_law_scene" (defArgs s__law_scene) (defBody s__law_scene) (defScope s__law_scene) .none kV32 dc32 pm32 an32 cd32 ct32), sl32⟩) (c32 : PySem.W.codeIn K cd32 "_law_scene" = true) (k32 : PySem.W.keepIn K (.ref f32) = true)
    {f33 : Addr} {od33 an33 : Option Addr} {sl33 : Array (Option Value)} {oc33 kV33 dc33 pm33 cd33 ct33 : Value}
    (a33 : PySem.W.nsIn K mainGlobals "law" = some (some (.ref f33))) (l33 : K.lookup f33 = some ⟨oc33, od33, .func (PySem.W.fnOf "law" "law" (defArgs s_law) (defBody s_law) (defScope s_law) .none kV33 dc33 pm33 an33 cd33 ct33), sl33⟩) (c33 : PySem.W.codeIn K cd33 "law" = true) (k33 : PySem.W.keepIn K (.ref f33) = true)
    (z_abs : PySem.W.nsIn K mainGlobals "abs" = some none)
    (z_bool : PySem.W.nsIn K mainGlobals "bool" = some none)
    (z_dict : PySem.W.nsIn K mainGlobals "dict" = some none)
    (z_enumerate : PySem.W.nsIn K mainGlobals "enumerate" = some none)
    (z_gcd : PySem.W.nsIn K mainGlobals "gcd" = some (some (.builtin "math.gcd")))
    (z_int : PySem.W.nsIn K mainGlobals "int" = some none)
    (z_isinstance : PySem.W.nsIn K mainGlobals "isinstance" = some none)
    (z_len : PySem.W.nsIn K mainGlobals "len" = some none)
    (z_list : PySem.W.nsIn K mainGlobals "list" = some none)
    (z_min : PySem.W.nsIn K mainGlobals "min" = some none)
    (z_range : PySem.W.nsIn K mainGlobals "range" = some none)
    (z_sorted : PySem.W.nsIn K mainGlobals "sorted" = some none)
    (z_str : PySem.W.nsIn K mainGlobals "str" = some none)
    (z_sum : PySem.W.nsIn K mainGlobals "sum" = some none)
    (z_tuple : PySem.W.nsIn K mainGlobals "tuple" = some none) :
    ∃ fd : FuncData, (∀ (s : Shared) (v : Value), BindsTo s fd ⟨[v], []⟩ [("script", v)]) ∧ ∀ base : Heap, K.In base → base.Ns mainGlobals mg → FnOk l.prog w K mg base CX0 7 fa fd ["script"] (spEnd K) := by
  have e := hfa.symm.trans (PySem.W.mg_of X G a33)
  cases e
  refine ⟨PySem.W.fnOf "law" "law" (defArgs s_law) (defBody s_law) (defScope s_law) .none kV33 dc33 pm33 an33 cd33 ct33, fun s v => .of_eq rfl, fun base _ _ => ?_⟩
  have h_abs := PySem.W.mg_none_of X G z_abs
  have h_bool := PySem.W.mg_none_of X G z_bool
  have h_dict := PySem.W.mg_none_of X G z_dict
  have h_enumerate := PySem.W.mg_none_of X G z_enumerate
  have h_gcd := PySem.W.mg_of X G z_gcd
  have h_int := PySem.W.mg_none_of X G z_int
  have h_isinstance := PySem.W.mg_none_of X G z_isinstance
  have h_len := PySem.W.mg_none_of X G z_len
  have h_list := PySem.W.mg_none_of X G z_list
  have h_min := PySem.W.mg_none_of X G z_min
  have h_range := PySem.W.mg_none_of X G z_range
  have h_sorted := PySem.W.mg_none_of X G z_sorted
  have h_str := PySem.W.mg_none_of X G z_str
  have h_sum := PySem.W.mg_none_of X G z_sum
  have h_tuple := PySem.W.mg_none_of X G z_tuple
  have F0 := fun_mk (st := s_behind_table) l0 c0 k0
  have b0 := F0.binds (ps := ["sheet"]) fun _ _ _ _ _ _ us hl => match us, hl with | [_], _ => rfl
  have m0 := PySem.W.mg_of X G a0
  have G_behind_table := fo_behind_table (P := l.prog) (w := w) (base := base) F0 b0 m0 h_enumerate h_len
  have F1 := fun_mk (st := s_face_table) l1 c1 k1
  have b1 := F1.binds (ps := ["sheet"]) fun _ _ _ _ _ _ us hl => match us, hl with | [_], _ => rfl
  have m1 := PySem.W.mg_of X G a1
  have G_face_table := fo_face_table (P := l.prog) (w := w) (base := base) F1 b1 m1 h_enumerate
  have F2 := fun_mk (st := s_sides_of) l2 c2 k2
  have b2 := F2.binds (ps := ["sheet"]) fun _ _ _ _ _ _ us hl => match us, hl with | [_], _ => rfl
  have m2 := PySem.W.mg_of X G a2
  have G_sides_of := fo_sides_of (P := l.prog) (w := w) (base := base) F2 b2 m2 h_sorted h_tuple G_face_table
  have F3 := fun_mk (st := s_least_multiple) l3 c3 k3
  have b3 := F3.binds (ps := ["one", "other"]) fun _ _ _ _ _ _ us hl => match us, hl with | [_, _], _ => rfl
  have m3 := PySem.W.mg_of X G a3
  have G_least_multiple := fo_least_multiple (P := l.prog) (w := w) (base := base) F3 b3 m3 h_gcd
  have F4 := fun_mk (st := s_least_of_sizes) l4 c4 k4
  have b4 := F4.binds (ps := ["sheet"]) fun _ _ _ _ _ _ us hl => match us, hl with | [_], _ => rfl
  have m4 := PySem.W.mg_of X G a4
  have G_least_of_sizes := fo_least_of_sizes (P := l.prog) (w := w) (base := base) F4 b4 m4 h_len G_least_multiple
  have F5 := fun_mk (st := s_led_side) l5 c5 k5
  have b5 := F5.binds (ps := ["behind", "side", "word"]) fun _ _ _ _ _ _ us hl => match us, hl with | [_, _, _], _ => rfl
  have m5 := PySem.W.mg_of X G a5
  have G_led_side := fo_led_side (P := l.prog) (w := w) (base := base) F5 b5 m5
  have F6 := fun_mk (st := s_word_side) l6 c6 k6
  have b6 := F6.binds (ps := ["solid", "side", "word"]) fun _ _ _ _ _ _ us hl => match us, hl with | [_, _, _], _ => rfl
  have m6 := PySem.W.mg_of X G a6
  have G_word_side := fo_word_side (P := l.prog) (w := w) (base := base) F6 b6 m6 G_led_side G_behind_table
  have F7 := fun_mk (st := s_word_map) l7 c7 k7
  have b7 := F7.binds (ps := ["solid", "word"]) fun _ _ _ _ _ _ us hl => match us, hl with | [_, _], _ => rfl
  have m7 := PySem.W.mg_of X G a7
  have G_word_map := fo_word_map (P := l.prog) (w := w) (base := base) F7 b7 m7 h_tuple G_behind_table G_sides_of G_led_side
  have F8 := fun_mk (st := s_first_words) l8 c8 k8
  have b8 := F8.binds (ps := ["solid", "side"]) fun _ _ _ _ _ _ us hl => match us, hl with | [_, _], _ => rfl
  have m8 := PySem.W.mg_of X G a8
  have G_first_words := fo_first_words (P := l.prog) (w := w) (base := base) 100000 F8 b8 m8 h_sorted G_behind_table
  have F9 := fun_mk (st := s_first_word) l9 c9 k9
  have b9 := F9.binds (ps := ["solid", "one", "other"]) fun _ _ _ _ _ _ us hl => match us, hl with | [_, _, _], _ => rfl
  have m9 := PySem.W.mg_of X G a9
  have G_first_word := fo_first_word (P := l.prog) (w := w) (base := base) 100000 F9 b9 m9 G_first_words
  have F10 := fun_mk (st := s_word_steps) l10 c10 k10
  have b10 := F10.binds (ps := ["solid", "side"]) fun _ _ _ _ _ _ us hl => match us, hl with | [_, _], _ => rfl
  have m10 := PySem.W.mg_of X G a10
  have G_word_steps := fo_word_steps (P := l.prog) (w := w) (base := base) 100000 F10 b10 m10 h_len h_tuple G_first_words G_sides_of
  have F11 := fun_mk (st := s_are_like_words) l11 c11 k11
  have b11 := F11.binds (ps := ["solid", "one", "other"]) fun _ _ _ _ _ _ us hl => match us, hl with | [_, _, _], _ => rfl
  have m11 := PySem.W.mg_of X G a11
  have G_are_like_words := fo_are_like_words (P := l.prog) (w := w) (base := base) F11 b11 m11 G_word_map
  have F12 := fun_mk (st := s_plain_word) l12 c12 k12
  have b12 := F12.binds (ps := ["word"]) fun _ _ _ _ _ _ us hl => match us, hl with | [_], _ => rfl
  have m12 := PySem.W.mg_of X G a12
  have G_plain_word := fo_plain_word (P := l.prog) (w := w) (base := base) F12 b12 m12
  have F13 := fun_mk (st := s_word_back) l13 c13 k13
  have b13 := F13.binds (ps := ["solid", "word"]) fun _ _ _ _ _ _ us hl => match us, hl with | [_, _], _ => rfl
  have m13 := PySem.W.mg_of X G a13
  have G_word_back := fo_word_back (P := l.prog) (w := w) (base := base) F13 b13 m13 G_least_of_sizes
  have F14 := fun_mk (st := s__law_cup) l14 c14 k14
  have b14 := F14.binds (ps := ["script"]) fun _ _ _ _ _ _ us hl => match us, hl with | [_], _ => rfl
  have m14 := PySem.W.mg_of X G a14
  have G__law_cup := fo__law_cup (P := l.prog) (w := w) (base := base) F14 b14 m14 h_abs h_int h_len h_min h_range
  have F15 := fun_mk (st := s__law_sip) l15 c15 k15
  have b15 := F15.binds (ps := ["cup", "many"]) fun _ _ _ _ _ _ us hl => match us, hl with | [_, _], _ => rfl
  have m15 := PySem.W.mg_of X G a15
  have G__law_sip := fo__law_sip (P := l.prog) (w := w) (base := base) 100000 F15 b15 m15 h_int h_len
  have F16 := fun_mk (st := s__law_mixed) l16 c16 k16
  have b16 := F16.binds (ps := ["cup", "things"]) fun _ _ _ _ _ _ us hl => match us, hl with | [_, _], _ => rfl
  have m16 := PySem.W.mg_of X G a16
  have G__law_mixed := fun (α : Type) (A : α → Ass) (_ : Imm A) => fo__law_mixed (P := l.prog) (w := w) (base := base) α A 100000 F16 b16 m16 h_len h_list G__law_sip
  have F17 := fun_mk (st := s__law_ordered) l17 c17 k17
  have b17 := F17.binds (ps := ["faces"]) fun _ _ _ _ _ _ us hl => match us, hl with | [_], _ => rfl
  have m17 := PySem.W.mg_of X G a17
  have G__law_ordered := fo__law_ordered (P := l.prog) (w := w) (base := base) F17 b17 m17 h_min h_sorted h_tuple
  have F18 := fun_mk (st := s__law_glue) l18 c18 k18
  have b18 := F18.binds (ps := ["cup", "sizes", "rims"]) fun _ _ _ _ _ _ us hl => match us, hl with | [_, _, _], _ => rfl
  have m18 := PySem.W.mg_of X G a18
  have G__law_glue := fo__law_glue (P := l.prog) (w := w) (base := base) 100000 F18 b18 m18 h_int h_len h_list h_min h_range h_sum G__law_mixed G__law_sip G__law_ordered
  have F19 := fun_mk (st := s__law_same) l19 c19 k19
  have b19 := F19.binds (ps := ["told", "due"]) fun _ _ _ _ _ _ us hl => match us, hl with | [_, _], _ => rfl
  have m19 := PySem.W.mg_of X G a19
  have G__law_same := fo__law_same (P := l.prog) (w := w) (base := base) 100000 F19 b19 m19 h_bool h_int h_isinstance h_len h_list h_range h_str h_tuple
  have F20 := fun_mk (st := s__law_torus) l20 c20 k20
  have b20 := F20.binds (ps := ["columns", "rows", "shift"]) fun _ _ _ _ _ _ us hl => match us, hl with | [_, _, _], _ => rfl
  have m20 := PySem.W.mg_of X G a20
  have G__law_torus := fo__law_torus (P := l.prog) (w := w) (base := base) F20 b20 m20 h_int h_range G__law_ordered
  have F21 := fun_mk (st := s__law_solid) l21 c21 k21
  have b21 := F21.binds (ps := ["cup", "many"]) fun _ _ _ _ _ _ us hl => match us, hl with | [_, _], _ => rfl
  have m21 := PySem.W.mg_of X G a21
  have G__law_solid := fo__law_solid (P := l.prog) (w := w) (base := base) 100000 F21 b21 m21 h_range G__law_sip G__law_torus G__law_ordered G__law_glue
  have F22 := fun_mk (st := s__law_steps) l22 c22 k22
  have b22 := F22.binds (ps := ["solid"]) fun _ _ _ _ _ _ us hl => match us, hl with | [_], _ => rfl
  have m22 := PySem.W.mg_of X G a22
  have G__law_steps := fo__law_steps (P := l.prog) (w := w) (base := base) F22 b22 m22 h_dict h_int h_len h_range
  have F23 := fun_mk (st := s__law_lead) l23 c23 k23
  have b23 := F23.binds (ps := ["steps", "side", "word"]) fun _ _ _ _ _ _ us hl => match us, hl with | [_, _, _], _ => rfl
  have m23 := PySem.W.mg_of X G a23
  have G__law_lead := fo__law_lead (P := l.prog) (w := w) (base := base) F23 b23 m23
  have F24 := fun_mk (st := s__law_map) l24 c24 k24
  have b24 := F24.binds (ps := ["steps", "word"]) fun _ _ _ _ _ _ us hl => match us, hl with | [_, _], _ => rfl
  have m24 := PySem.W.mg_of X G a24
  have G__law_map := fo__law_map (P := l.prog) (w := w) (base := base) F24 b24 m24 h_len h_range h_tuple G__law_lead
  have F25 := fun_mk (st := s__law_all_words) l25 c25 k25
  have b25 := F25.binds (ps := ["most"]) fun _ _ _ _ _ _ us hl => match us, hl with | [_], _ => rfl
  have m25 := PySem.W.mg_of X G a25
  have G__law_all_words := fo__law_all_words (P := l.prog) (w := w) (base := base) F25 b25 m25 h_range
  have F26 := fun_mk (st := s__law_firsts) l26 c26 k26
  have b26 := F26.binds (ps := ["steps", "start"]) fun _ _ _ _ _ _ us hl => match us, hl with | [_, _], _ => rfl
  have m26 := PySem.W.mg_of X G a26
  have G__law_firsts := fo__law_firsts (P := l.prog) (w := w) (base := base) 100000 F26 b26 m26 h_len
  have F27 := fun_mk (st := s__law_word) l27 c27 k27
  have b27 := F27.binds (ps := ["cup", "most"]) fun _ _ _ _ _ _ us hl => match us, hl with | [_, _], _ => rfl
  have m27 := PySem.W.mg_of X G a27
  have G__law_word := fo__law_word (P := l.prog) (w := w) (base := base) 100000 F27 b27 m27 h_int h_len h_range G__law_sip
  have F28 := fun_mk (st := s__law_plain) l28 c28 k28
  have b28 := F28.binds (ps := ["word"]) fun _ _ _ _ _ _ us hl => match us, hl with | [_], _ => rfl
  have m28 := PySem.W.mg_of X G a28
  have G__law_plain := fo__law_plain (P := l.prog) (w := w) (base := base) F28 b28 m28 h_len
  have F29 := fun_mk (st := s__law_common) l29 c29 k29
  have b29 := F29.binds (ps := ["solid"]) fun _ _ _ _ _ _ us hl => match us, hl with | [_], _ => rfl
  have m29 := PySem.W.mg_of X G a29
  have G__law_common := fo__law_common (P := l.prog) (w := w) (base := base) 100000 F29 b29 m29 h_int h_len
  have F30 := fun_mk (st := s__law_back) l30 c30 k30
  have b30 := F30.binds (ps := ["solid", "word"]) fun _ _ _ _ _ _ us hl => match us, hl with | [_, _], _ => rfl
  have m30 := PySem.W.mg_of X G a30
  have G__law_back := fo__law_back (P := l.prog) (w := w) (base := base) 100000 F30 b30 m30 G__law_common
  have F31 := fun_mk (st := s__law_likes) l31 c31 k31
  have b31 := F31.binds (ps := ["cup", "solid", "steps"]) fun _ _ _ _ _ _ us hl => match us, hl with | [_, _, _], _ => rfl
  have m31 := PySem.W.mg_of X G a31
  have GK_plain_word_word := fok_of (ks := ["word"]) (is := [0]) G_plain_word F12 m12 fun s us ws hl => by
    obtain ⟨rfl, hw⟩ := kput_len hl (by decide)
    match ws, hw with | [_], _ => exact .of_eq rfl
  have G__law_likes := fo__law_likes (P := l.prog) (w := w) (base := base) 100000 F31 b31 m31 h_len GK_plain_word_word G__law_word G__law_common G__law_sip G__law_plain G__law_map G__law_same G_are_like_words G_plain_word G__law_back G_word_back
  have F32 := fun_mk (st := s__law_scene) l32 c32 k32
  have b32 := F32.binds (ps := ["cup", "solid"]) fun _ _ _ _ _ _ us hl => match us, hl with | [_, _], _ => rfl
  have m32 := PySem.W.mg_of X G a32
  have G__law_scene := fo__law_scene (P := l.prog) (w := w) (base := base) 100000 F32 b32 m32 h_len h_range h_sorted h_tuple G__law_steps G__law_sip G__law_all_words G__law_lead G__law_same G_word_side G__law_firsts G_word_steps G_first_word G__law_likes
  have F33 := fun_mk (st := s_law) l33 c33 k33
  have b33 := F33.binds (ps := ["script"]) fun _ _ _ _ _ _ us hl => match us, hl with | [_], _ => rfl
  have m33 := PySem.W.mg_of X G a33
  have GK_word_side_word_side_solid := fok_of (ks := ["word", "side", "solid"]) (is := [2, 1, 0]) G_word_side F6 m6 fun s us ws hl => by
    obtain ⟨rfl, hw⟩ := kput_len hl (by decide)
    match ws, hw with | [_, _, _], _ => exact .of_eq rfl
  have GK_word_back_solid_word := fok_of (ks := ["solid", "word"]) (is := [0, 1]) G_word_back F13 m13 fun s us ws hl => by
    obtain ⟨rfl, hw⟩ := kput_len hl (by decide)
    match ws, hw with | [_, _], _ => exact .of_eq rfl
  have GK_word_steps_solid_side := fok_of (ks := ["solid", "side"]) (is := [0, 1]) G_word_steps F10 m10 fun s us ws hl => by
    obtain ⟨rfl, hw⟩ := kput_len hl (by decide)
    match ws, hw with | [_, _], _ => exact .of_eq rfl
  have GK_are_like_words_solid_one_other := fok_of (ks := ["solid", "one", "other"]) (is := [0, 1, 2]) G_are_like_words F11 m11 fun s us ws hl => by
    obtain ⟨rfl, hw⟩ := kput_len hl (by decide)
    match ws, hw with | [_, _, _], _ => exact .of_eq rfl
  have G_law := fo_law (P := l.prog) (w := w) (base := base) 100000 F33 b33 m33 h_len h_range GK_word_side_word_side_solid GK_word_back_solid_word GK_word_steps_solid_side GK_are_like_words_solid_one_other G__law_cup G__law_scene G__law_solid G__law_steps G__law_word G__law_sip G__law_same G__law_lead G_plain_word G__law_plain G__law_common G__law_back G_first_word G_are_like_words G_word_back G__law_glue
  obtain ⟨f', fd', q1, q2, _, _, oc', od', osl', lk'⟩ := G_law
  rw [m33] at q2
  cases q2
  rw [l33] at lk'
  cases lk'
  refine q1.imp fun vs H Q E ⟨a, ns, ev, hS, hl, q⟩ => ?_
  subst ev
  obtain ⟨F', hF'⟩ := isScr_of hS
  exact ⟨(ns, ()), un F' no, true, ⟨.ref a, [], F', no, rfl, hF', ⟨rfl, rfl⟩, rfl⟩, hT ns hl, fun v H' T _ hv _ => by
    rw [show v = .bl true from hv.1]
    exact q H'⟩
end K83
/-! M0: plain facts about dicts, folds, loops, lists of the mirrors. Own work. -/
namespace Mx
open PySem PySem.Spec L2 Rf

section
/-! not by rfl: the kernel is to follow the steps, not to reckon -/
variable {α β : Type}
theorem bs (a : α) (f : α → Option β) : (some a).bind f = f a := congrArg id (Option.bind_some a f)
theorem mps (a : α) (f : α → β) : (some a).map f = some (f a) := congrArg id (show (some a).map f = some (f a) from rfl)
theorem bnn (f : α → Option β) : (none : Option α).bind f = none := congrArg id (show (none : Option α).bind f = none from rfl)
end
section dict
variable {κ α β : Type} [DecidableEq κ]
theorem dget_nil (k : κ) : dget ([] : List (κ × α)) k = none := rfl
theorem dget_append (d e : List (κ × α)) (k : κ) : dget (d ++ e) k = (dget d k).or (dget e k) := by
  induction d with
  | nil => simp [dget_nil]
  | cons p d ih =>
    rw [List.cons_append, dget_cons, dget_cons, ih]
    split <;> simp
theorem dget_none {d : List (κ × α)} {k : κ} : dget d k = none ↔ k ∉ d.map (·.1) := by
  induction d with
  | nil => simp [dget_nil]
  | cons p d ih =>
    rw [dget_cons]
    by_cases h : p.1 = k
    · simp [h]
    · rw [if_neg h, ih]
      simp [Ne.symm h]
theorem dhas_iff {d : List (κ × α)} {k : κ} : dhas d k = true ↔ k ∈ d.map (·.1) := by
  unfold dhas
  cases e : dget d k with
  | none => simpa using dget_none.mp e
  | some x =>
    have : ¬ dget d k = none := by rw [e]; simp
    rw [dget_none, Classical.not_not] at this
    simpa using this
theorem dhas_false {d : List (κ × α)} {k : κ} : dhas d k = false ↔ k ∉ d.map (·.1) := by
  rw [← Bool.not_eq_true, dhas_iff]
theorem any_key (d : List (κ × α)) (k : κ) : (d.any fun p => decide (p.1 = k)) = dhas d k := by
  apply Bool.eq_iff_iff.mpr
  rw [dhas_iff]
  simp
theorem dget_repl (d : List (κ × α)) (k k' : κ) (x : α) : dget (d.map fun p => if p.1 = k then (p.1, x) else p) k' = if k = k' then (dget d k').map (fun _ => x) else dget d k' := by
  induction d with
  | nil => simp [dget_nil]
  | cons p d ih =>
    rw [List.map_cons, dget_cons, dget_cons, ih]
    by_cases h : p.1 = k
    · subst h
      by_cases h2 : p.1 = k'
      · subst h2; simp
      · simp [h2]
    · simp only [h, if_false]
      by_cases h2 : p.1 = k'
      · subst h2; simp [Ne.symm h]
      · simp [h2]
theorem dget_dput (d : List (κ × α)) (k k' : κ) (x : α) : dget (dput d k x) k' = if k = k' then some x else dget d k' := by
  unfold dput
  rw [any_key]
  by_cases h : dhas d k = true
  · rw [if_pos h, dget_repl]
    by_cases h2 : k = k'
    · subst h2
      unfold dhas at h
      obtain ⟨y, e⟩ := Option.isSome_iff_exists.mp h
      simp [e]
    · simp [h2]
  · rw [if_neg h, dget_append, dget_cons]
    by_cases h2 : k = k'
    · subst h2
      have : dget d k = none := by
        rw [dget_none, ← dhas_iff]
        exact h
      simp [this]
    · simp [h2, dget_nil]
theorem keys_repl (d : List (κ × α)) (k : κ) (x : α) : (d.map fun p => if p.1 = k then (p.1, x) else p).map (·.1) = d.map (·.1) := by
  rw [List.map_map]
  apply List.map_congr_left
  intro p _
  simp only [Function.comp]
  split <;> rfl
theorem keys_dput (d : List (κ × α)) (k : κ) (x : α) : (dput d k x).map (·.1) = if dhas d k = true then d.map (·.1) else d.map (·.1) ++ [k] := by
  unfold dput
  rw [any_key]
  split
  · exact keys_repl d k x
  · simp
theorem mem_keys_dput {d : List (κ × α)} {k k' : κ} {x : α} : k' ∈ (dput d k x).map (·.1) ↔ k' = k ∨ k' ∈ d.map (·.1) := by
  rw [keys_dput]
  split
  · rename_i h
    rw [dhas_iff] at h
    constructor
    · exact .inr
    · rintro (e | e)
      · rw [e]; exact h
      · exact e
  · rw [List.mem_append, List.mem_singleton]
    exact Or.comm
theorem length_dput_le (d : List (κ × α)) (k : κ) (x : α) : (dput d k x).length ≤ d.length + 1 := by
  have := congrArg List.length (keys_dput d k x)
  rw [List.length_map] at this
  rw [this]
  split <;> simp
theorem length_dput_new {d : List (κ × α)} {k : κ} {x : α} (h : k ∉ d.map (·.1)) : (dput d k x).length = d.length + 1 := by
  have := congrArg List.length (keys_dput d k x)
  rw [List.length_map] at this
  rw [this, if_neg (by rw [dhas_iff]; exact h)]
  simp
def DN (d : List (κ × α)) : Prop := (d.map (·.1)).Nodup
theorem DN.nil : DN ([] : List (κ × α)) := List.nodup_nil
theorem DN.dput {d : List (κ × α)} (h : DN d) (k : κ) (x : α) : DN (dput d k x) := by
  unfold DN
  rw [keys_dput]
  split
  · exact h
  · rename_i n
    rw [dhas_iff] at n
    rw [List.nodup_append]
    refine ⟨h, by simp, ?_⟩
    intro a ha b hb e
    rw [List.mem_singleton] at hb
    subst hb; subst e
    exact n ha
theorem dget_mem {d : List (κ × α)} {k : κ} {x : α} (h : dget d k = some x) : (k, x) ∈ d := by
  induction d with
  | nil => cases h
  | cons p d ih =>
    rw [dget_cons] at h
    split at h
    · rename_i e; cases h; subst e; exact List.mem_cons_self
    · exact List.mem_cons_of_mem _ (ih h)
theorem dget_of_mem {d : List (κ × α)} (n : DN d) {k : κ} {x : α} (h : (k, x) ∈ d) : dget d k = some x := by
  induction d with
  | nil => cases h
  | cons p d ih =>
    rw [dget_cons]
    unfold DN at n
    rw [List.map_cons, List.nodup_cons] at n
    rcases List.mem_cons.mp h with e | e
    · subst e; simp
    · have : p.1 ≠ k := fun q => n.1 (q ▸ List.mem_map_of_mem (f := (·.1)) e)
      rw [if_neg this]
      exact ih n.2 e
theorem dget_isSome {d : List (κ × α)} {k : κ} : (dget d k).isSome = true ↔ k ∈ d.map (·.1) := dhas_iff
theorem dget_some_of {d : List (κ × α)} {k : κ} (h : k ∈ d.map (·.1)) : ∃ x, dget d k = some x := Option.isSome_iff_exists.mp (dget_isSome.mpr h)
theorem mem_keys_of {d : List (κ × α)} {k : κ} {x : α} (h : dget d k = some x) : k ∈ d.map (·.1) := dget_isSome.mp (by rw [h]; rfl)
theorem dputL_eq {d : List (κ × α)} (h : d.length < sizeLine) (k : κ) (x : α) : dputL d k x = some (dput d k x) := if_pos h
theorem dmerge_cons (d : List (κ × α)) (p : κ × α) (e : List (κ × α)) : dmerge d (p :: e) = dmerge (dput d p.1 p.2) e := rfl
theorem mem_keys_dmerge {e : List (κ × α)} : ∀ {d : List (κ × α)} {k : κ}, k ∈ (dmerge d e).map (·.1) ↔ k ∈ d.map (·.1) ∨ k ∈ e.map (·.1) := by
  induction e with
  | nil => intro d k; simp [dmerge]
  | cons p e ih =>
    intro d k
    rw [dmerge_cons, ih, mem_keys_dput, List.map_cons, List.mem_cons]
    constructor
    · rintro ((h | h) | h)
      · exact .inr (.inl h)
      · exact .inl h
      · exact .inr (.inr h)
    · rintro (h | h | h)
      · exact .inl (.inr h)
      · exact .inl (.inl h)
      · exact .inr h
theorem DN.dmerge {e : List (κ × α)} : ∀ {d : List (κ × α)}, DN d → DN (dmerge d e) := by
  induction e with
  | nil => intro d h; exact h
  | cons p e ih => intro d h; exact ih (h.dput _ _)
theorem dget_dmerge {e : List (κ × α)} : ∀ {d : List (κ × α)} (_ : DN e) (k : κ), dget (dmerge d e) k = (dget e k).or (dget d k) := by
  induction e with
  | nil => intro d _ k; rfl
  | cons p e ih =>
    intro d n k
    unfold DN at n
    rw [List.map_cons, List.nodup_cons] at n
    rw [dmerge_cons, ih n.2, dget_dput, dget_cons]
    by_cases h : p.1 = k
    · subst h
      have : dget e p.1 = none := dget_none.mpr n.1
      simp [this]
    · simp [h]
theorem length_dmerge {e : List (κ × α)} : ∀ {d : List (κ × α)} (_ : DN e) (_ : ∀ k, k ∈ e.map (·.1) → k ∉ d.map (·.1)), (dmerge d e).length = d.length + e.length := by
  induction e with
  | nil => intro d _ _; rfl
  | cons p e ih =>
    intro d n h
    unfold DN at n
    rw [List.map_cons, List.nodup_cons] at n
    rw [dmerge_cons, ih n.2, length_dput_new (h p.1 (by simp))]
    · simp; omega
    · intro k hk q
      rw [mem_keys_dput] at q
      rcases q with q | q
      · subst q; exact n.1 hk
      · exact h k (by simp only [List.map_cons, List.mem_cons]; exact .inr hk) q
end dict

section loops
variable {ι G α β : Type}
theorem foldO_inv {f : ι → G → Option G} (P : List ι → G → Prop) {xs : List ι} {g : G} (h0 : P [] g) (hs : ∀ pre x post g, xs = pre ++ x :: post → P pre g → ∃ g', f x g = some g' ∧ P (pre ++ [x]) g') : ∃ z, foldO f xs g = some z ∧ P xs z := by
  suffices H : ∀ post pre g, xs = pre ++ post → P pre g → ∃ z, foldO f post g = some z ∧ P xs z from H xs [] g rfl h0
  intro post
  induction post with
  | nil => intro pre g e p; rw [List.append_nil] at e; subst e; exact ⟨g, rfl, p⟩
  | cons x post ih =>
    intro pre g e p
    obtain ⟨g', e1, p1⟩ := hs pre x post g e p
    obtain ⟨z, e2, p2⟩ := ih (pre ++ [x]) g' (by simp [e]) p1
    exact ⟨z, by rw [foldO, e1]; exact e2, p2⟩
theorem foldO_simple {f : ι → G → Option G} (P : G → Prop) {xs : List ι} {g : G} (h0 : P g) (hs : ∀ x, x ∈ xs → ∀ g, P g → ∃ g', f x g = some g' ∧ P g') : ∃ z, foldO f xs g = some z ∧ P z :=
  foldO_inv (fun _ => P) h0 fun pre x post g e p => hs x (by rw [e]; simp) g p
theorem foldX_nx {γ ρ : Type} {f : ι → G → Option (Fl G G ρ)} (P : List ι → G → Prop) {xs : List ι} {g : G} (h0 : P [] g) (hs : ∀ pre x post g, xs = pre ++ x :: post → P pre g → ∃ g', f x g = some (.nx g') ∧ P (pre ++ [x]) g') : ∃ z, foldX (γ := γ) f xs g = some (.nx z) ∧ P xs z := by
  suffices H : ∀ post pre g, xs = pre ++ post → P pre g → ∃ z, foldX (γ := γ) f post g = some (.nx z) ∧ P xs z from H xs [] g rfl h0
  intro post
  induction post with
  | nil => intro pre g e p; rw [List.append_nil] at e; subst e; exact ⟨g, rfl, p⟩
  | cons x post ih =>
    intro pre g e p
    obtain ⟨g', e1, p1⟩ := hs pre x post g e p
    obtain ⟨z, e2, p2⟩ := ih (pre ++ [x]) g' (by simp [e]) p1
    exact ⟨z, by rw [foldX, e1]; exact e2, p2⟩
theorem whileM_inv {t : G → Option Bool} {f : G → Option G} (I : G → Prop) (μ : G → Nat) (h : ∀ g, I g → t g = some false ∨ (t g = some true ∧ ∃ g', f g = some g' ∧ I g' ∧ μ g' < μ g)) : ∀ (n : Nat) (g : G), I g → μ g < n → ∃ z, whileM t f n g = some z ∧ I z ∧ t z = some false := by
  intro n
  induction n with
  | zero => intro g _ l; omega
  | succ n ih =>
    intro g i l
    rcases h g i with e | ⟨e, g', e2, i2, l2⟩
    · exact ⟨g, by rw [whileM, e]; rfl, i, e⟩
    · obtain ⟨z, e3, r⟩ := ih g' i2 (by omega)
      exact ⟨z, by rw [whileM, e]; simp [e2, e3], r⟩
theorem compO_map {f : ι → Option α} (g : ι → α) : ∀ {xs : List ι}, (∀ x, x ∈ xs → f x = some (g x)) → compO (fun _ => some true) f xs = some (xs.map g)
  | [], _ => rfl
  | x :: xs, h => by
    rw [compO, h x (by simp), compO_map g fun y m => h y (by simp [m])]
    simp
theorem compO_filter {t : ι → Option Bool} {f : ι → Option α} (p : ι → Bool) (g : ι → α) : ∀ {xs : List ι}, (∀ x, x ∈ xs → t x = some (p x)) → (∀ x, x ∈ xs → p x = true → f x = some (g x)) → compO t f xs = some ((xs.filter p).map g)
  | [], _, _ => rfl
  | x :: xs, h, k => by
    rw [compO, h x (by simp), compO_filter p g (fun y m => h y (by simp [m])) fun y m => k y (by simp [m])]
    cases e : p x with
    | true => simp [k x (by simp) e, e]
    | false => simp [e]
theorem fits_eq {xs : List α} (h : xs.length ≤ sizeLine) : fits xs = some xs := if_pos h
end loops

section lists
variable {α β : Type}
theorem rngL_eq (n : Nat) : rngL 0 (n : Int) = (List.range n).map fun i : Nat => (i : Int) := by
  unfold rngL
  simp
theorem mem_rngL {a b x : Int} : x ∈ rngL a b ↔ a ≤ x ∧ x < b := by
  unfold rngL
  rw [List.mem_map]
  constructor
  · rintro ⟨i, h, e⟩
    rw [List.mem_range] at h
    omega
  · rintro ⟨h1, h2⟩
    exact ⟨(x - a).toNat, List.mem_range.mpr (by omega), by omega⟩
theorem rngL_nodup (a b : Int) : (rngL a b).Nodup := by
  unfold rngL
  refine List.Pairwise.map _ (fun x y h => ?_) List.pairwise_lt_range
  omega
theorem rng1_eq {n : Int} (h0 : 0 ≤ n) (h : n < 2 ^ 62) : rng1 n = some (rngL 0 n) := by
  unfold rng1 smR
  rw [if_pos]
  simp only [Bool.and_eq_true, decide_eq_true_eq]
  omega
theorem enumI_map (i : Int) (xs : List α) : (enumI i xs).map (·.2) = xs := by
  induction xs generalizing i with
  | nil => rfl
  | cons x xs ih => simp [enumI, ih]
end lists
end Mx
/-! M1: words of r and t as numbers (the shorter first, then as they sort), least words. Own work. -/
namespace Mx
open PySem PySem.Spec L2 Rf

/-- the letters of the word with number n: 0 is the empty word, 2a+1 is a with r, 2a+2 is a with t -/
def wl (n : Nat) : List Nat := if h : n = 0 then [] else wl ((n - 1) / 2) ++ [if (n - 1) % 2 = 0 then 114 else 116]
termination_by n
decreasing_by omega
theorem wl_zero : wl 0 = [] := by rw [wl]; simp
theorem wl_r (a : Nat) : wl (2 * a + 1) = wl a ++ [114] := by
  rw [wl, dif_neg (by omega), show (2 * a + 1 - 1) / 2 = a by omega, if_pos (by omega)]
theorem wl_t (a : Nat) : wl (2 * a + 2) = wl a ++ [116] := by
  rw [wl, dif_neg (by omega), show (2 * a + 2 - 1) / 2 = a by omega, if_neg (by omega)]
theorem num_cases (n : Nat) : n = 0 ∨ (∃ a, a < n ∧ n = 2 * a + 1) ∨ ∃ a, a < n ∧ n = 2 * a + 2 := by
  by_cases h : n = 0
  · exact .inl h
  · by_cases e : n % 2 = 1
    · exact .inr (.inl ⟨n / 2, by omega, by omega⟩)
    · exact .inr (.inr ⟨n / 2 - 1, by omega, by omega⟩)
def rt (l : List Nat) : Prop := ∀ c, c ∈ l → c = 114 ∨ c = 116
theorem wl_rt : ∀ n, rt (wl n) := by
  intro n
  induction n using Nat.strongRecOn with
  | _ n ih =>
    rcases num_cases n with e | ⟨a, l, e⟩ | ⟨a, l, e⟩
    · subst e; rw [wl_zero]; intro c h; cases h
    · subst e; rw [wl_r]; intro c h
      rcases List.mem_append.mp h with h | h
      · exact ih a l c h
      · left; simpa using h
    · subst e; rw [wl_t]; intro c h
      rcases List.mem_append.mp h with h | h
      · exact ih a l c h
      · right; simpa using h
/-- each word of r and t has a number -/
theorem wl_of {l : List Nat} (h : rt l) : ∃ n, wl n = l := by
  suffices H : ∀ (k : Nat) (l : List Nat), l.length = k → rt l → ∃ n, wl n = l from H _ l rfl h
  intro k
  induction k with
  | zero => intro l e _; exact ⟨0, by rw [wl_zero, List.length_eq_zero_iff.mp e]⟩
  | succ k ih =>
    intro l e h
    have hne : l ≠ [] := by intro q; rw [q] at e; cases e
    obtain ⟨a, ha⟩ := ih l.dropLast (by rw [List.length_dropLast, e]; rfl) fun c hc => h c (List.dropLast_sublist l |>.subset hc)
    have hl := List.dropLast_concat_getLast hne
    rcases h _ (List.getLast_mem hne) with q | q
    · exact ⟨2 * a + 1, by rw [wl_r, ha, ← q, hl]⟩
    · exact ⟨2 * a + 2, by rw [wl_t, ha, ← q, hl]⟩
theorem wl_inj : ∀ {a b : Nat}, wl a = wl b → a = b := by
  intro a
  induction a using Nat.strongRecOn with
  | _ a ih =>
    intro b h
    rcases num_cases a with e | ⟨a', l, e⟩ | ⟨a', l, e⟩ <;> rcases num_cases b with f | ⟨b', m, f⟩ | ⟨b', m, f⟩ <;> subst e <;> subst f
    · rfl
    all_goals first
      | (rw [wl_zero, wl_r] at h; simp at h; done)
      | (rw [wl_zero, wl_t] at h; simp at h; done)
      | (rw [wl_r, wl_zero] at h; simp at h; done)
      | (rw [wl_t, wl_zero] at h; simp at h; done)
      | skip
    · rw [wl_r, wl_r] at h
      rw [ih a' l (List.append_cancel_right h)]
    · rw [wl_r, wl_t] at h
      have := (List.append_inj' h rfl).2
      simp at this
    · rw [wl_t, wl_r] at h
      have := (List.append_inj' h rfl).2
      simp at this
    · rw [wl_t, wl_t] at h
      rw [ih a' l (List.append_cancel_right h)]
def wn (n : Nat) : Nat := (wl n).length
theorem wn_zero : wn 0 = 0 := by unfold wn; rw [wl_zero]; rfl
theorem wn_r (a : Nat) : wn (2 * a + 1) = wn a + 1 := by unfold wn; rw [wl_r]; simp
theorem wn_t (a : Nat) : wn (2 * a + 2) = wn a + 1 := by unfold wn; rw [wl_t]; simp
theorem wn_mono : ∀ {a b : Nat}, a ≤ b → wn a ≤ wn b := by
  intro a b
  induction b using Nat.strongRecOn generalizing a with
  | _ b ih =>
    intro h
    rcases num_cases a with e | ⟨a', l, e⟩ | ⟨a', l, e⟩ <;> rcases num_cases b with f | ⟨b', m, f⟩ | ⟨b', m, f⟩ <;> subst e <;> subst f <;> simp only [wn_zero, wn_r, wn_t] <;> first | omega | skip
    all_goals (have := ih b' m (a := a') (by omega); omega)
theorem wn_lt {a b : Nat} (h : wn a < wn b) : a < b := by
  rcases Nat.lt_or_ge a b with l | l
  · exact l
  · exact absurd (wn_mono l) (by omega)
/-- lists of letters as they sort -/
def lexlt : List Nat → List Nat → Bool
  | _, [] => false
  | [], _ :: _ => true
  | a :: as, b :: bs => decide (a < b) || (decide (a = b) && lexlt as bs)
theorem lexlt_iff : ∀ (l m : List Nat), lexlt l m = true ↔ l < m
  | [], [] => by simp [lexlt]
  | [], _ :: _ => by simp [lexlt]
  | _ :: _, [] => by simp [lexlt]
  | a :: as, b :: bs => by
    rw [List.cons_lt_cons_iff, ← lexlt_iff as bs]
    simp [lexlt]
theorem lex_app : ∀ {l m : List Nat} (x y : List Nat), l.length = m.length → (lexlt (l ++ x) (m ++ y) = if l = m then lexlt x y else lexlt l m)
  | [], [], x, y, _ => by simp
  | a :: as, b :: bs, x, y, h => by
    have ih := lex_app x y (l := as) (m := bs) (by simpa using h)
    simp only [List.cons_append, lexlt, ih]
    by_cases e : a = b
    · subst e
      by_cases e2 : as = bs
      · subst e2; simp
      · simp [e2]
    · simp [e]
  | [], _ :: _, _, _, h => by simp at h
  | _ :: _, [], _, _, h => by simp at h
/-- words of one length sort as their numbers -/
theorem lex_wl : ∀ {a b : Nat}, wn a = wn b → (lexlt (wl a) (wl b) = decide (a < b)) := by
  intro a
  induction a using Nat.strongRecOn with
  | _ a ih =>
    intro b h
    rcases num_cases a with e | ⟨a', l, e⟩ | ⟨a', l, e⟩ <;> rcases num_cases b with f | ⟨b', m, f⟩ | ⟨b', m, f⟩ <;> subst e <;> subst f <;> simp only [wn_zero, wn_r, wn_t] at h <;> first | omega | skip
    · rw [wl_zero]; simp [lexlt]
    all_goals
      have h' : wn a' = wn b' := by omega
      have ih' := ih a' l h'
      simp only [wl_r, wl_t]
      rw [lex_app _ _ h']
      by_cases e : a' = b'
      · subst e; simp [lexlt]
      · rw [if_neg fun q => e (wl_inj q), ih']
        apply Bool.eq_iff_iff.mpr
        simp only [decide_eq_true_eq]
        omega
def wS (n : Nat) : Str := ⟨(wl n).toArray⟩
theorem wS_cps (n : Nat) : (wS n).cps.toList = wl n := by simp [wS]
theorem wS_len (n : Nat) : (wS n).length = wn n := by simp [wS, wn, Str.length]
theorem wS_inj {a b : Nat} (h : wS a = wS b) : a = b := wl_inj (by rw [← wS_cps, h, wS_cps])
theorem slt_wS {a b : Nat} (h : wn a = wn b) : slt (wS a) (wS b) = decide (a < b) := by
  unfold slt
  rw [wS_cps, wS_cps, ← lex_wl h]
  apply Bool.eq_iff_iff.mpr
  rw [lexlt_iff]
  simp
theorem Str.ext' {x y : Str} (h : x.cps.toList = y.cps.toList) : x = y := by
  cases x; cases y
  simp only [Str.mk.injEq]
  exact Array.toList_inj.mp h
theorem str_app (x y : Str) : (x ++ y).cps.toList = x.cps.toList ++ y.cps.toList := by
  show (x.cps ++ y.cps).toList = _
  simp
theorem str_len (x : Str) : x.length = x.cps.toList.length := by simp [Str.length]
theorem cps_r : ("r" : Str).cps.toList = [114] := by decide +kernel
theorem cps_t : ("t" : Str).cps.toList = [116] := by decide +kernel
theorem wS_r (a : Nat) : wS a ++ ("r" : Str) = wS (2 * a + 1) := Str.ext' (by rw [str_app, wS_cps, wS_cps, wl_r, cps_r])
theorem wS_t (a : Nat) : wS a ++ ("t" : Str) = wS (2 * a + 2) := Str.ext' (by rw [str_app, wS_cps, wS_cps, wl_t, cps_t])
theorem scat_eq {x y : Str} (h : x.length + y.length ≤ sizeLine) : scat x y = some (x ++ y) := if_pos h
theorem len_r : ("r" : Str).length = 1 := by decide +kernel
theorem len_t : ("t" : Str).length = 1 := by decide +kernel

/-! ### where words lead -/
/-- led letter by letter -/
def ldl (B : Int → Int) (T : Int → Int) (x : Int) (l : List Nat) : Int := l.foldl (fun y c => if c = 116 then B y else T y) x
def ld (B T : Int → Int) (x : Int) (n : Nat) : Int := ldl B T x (wl n)
theorem ldl_app (B T : Int → Int) (x : Int) (l m : List Nat) : ldl B T x (l ++ m) = ldl B T (ldl B T x l) m := List.foldl_append
theorem ld_zero (B T : Int → Int) (x : Int) : ld B T x 0 = x := by unfold ld; rw [wl_zero]; rfl
theorem ld_r (B T : Int → Int) (x : Int) (a : Nat) : ld B T x (2 * a + 1) = T (ld B T x a) := by unfold ld; rw [wl_r, ldl_app]; rfl
theorem ld_t (B T : Int → Int) (x : Int) (a : Nat) : ld B T x (2 * a + 2) = B (ld B T x a) := by unfold ld; rw [wl_t, ldl_app]; rfl

/-- a partial map from sides to numbers of words that is closed: each side's word leads there, steps come with words that are no greater -/
structure Cl (B T : Int → Int) (s : Int) (F : Int → Option Nat) : Prop where
  start : F s = some 0
  leads : ∀ x a, F x = some a → ld B T s a = x
  clR : ∀ x a, F x = some a → ∃ b, F (T x) = some b ∧ b ≤ 2 * a + 1
  clT : ∀ x a, F x = some a → ∃ b, F (B x) = some b ∧ b ≤ 2 * a + 2
theorem Cl.least {B T : Int → Int} {s : Int} {F : Int → Option Nat} (h : Cl B T s F) : ∀ n, ∃ a, F (ld B T s n) = some a ∧ a ≤ n := by
  intro n
  induction n using Nat.strongRecOn with
  | _ n ih =>
    rcases num_cases n with e | ⟨m, l, e⟩ | ⟨m, l, e⟩ <;> subst e
    · exact ⟨0, by rw [ld_zero]; exact h.start, Nat.le_refl 0⟩
    · obtain ⟨a, e, q⟩ := ih m l
      obtain ⟨b, e2, q2⟩ := h.clR _ _ e
      exact ⟨b, by rw [ld_r]; exact e2, by omega⟩
    · obtain ⟨a, e, q⟩ := ih m l
      obtain ⟨b, e2, q2⟩ := h.clT _ _ e
      exact ⟨b, by rw [ld_t]; exact e2, by omega⟩
theorem Cl.unique {B T : Int → Int} {s : Int} {F G : Int → Option Nat} (h : Cl B T s F) (k : Cl B T s G) {x : Int} {a b : Nat} (e : F x = some a) (f : G x = some b) : a = b := by
  obtain ⟨a', e1, l1⟩ := h.least b
  rw [k.leads x b f, e] at e1
  obtain ⟨b', e2, l2⟩ := k.least a
  rw [h.leads x a e, f] at e2
  cases e1; cases e2
  omega
end Mx
/-! M2: the cup, draws, mixing. Own work. -/
namespace Mx
open PySem PySem.Spec L2 Rf K83

structure CupOk (c : Cup) : Prop where
  nn : ∀ x, x ∈ c.1 → 0 ≤ x
  n2 : 0 ≤ c.2
  len : c.1.length ≤ 57
theorem atI_zero {α : Type} (x : α) (r : List α) : atI (x :: r) 0 = some x := by
  unfold atI ixN
  simp
theorem atI_nat {α : Type} {xs : List α} {i : Nat} (h : i < xs.length) : atI xs (i : Int) = some xs[i] := by
  unfold atI ixN
  rw [if_pos (by omega), if_pos (by omega)]
  simp [h]
theorem lpop_concat {α : Type} (xs : List α) (x : α) : lpop (xs ++ [x]) () = some (x, xs) := by
  unfold lpop
  simp
theorem lpop_some {α : Type} {xs : List α} (h : xs ≠ []) : ∃ x ys, xs = ys ++ [x] ∧ lpop xs () = some (x, ys) := by
  refine ⟨xs.getLast h, xs.dropLast, (List.dropLast_concat_getLast h).symm, ?_⟩
  unfold lpop
  rw [List.getLast?_eq_getLast h]
  rfl
theorem lapp_eq {α : Type} {xs : List α} (h : xs.length < sizeLine) (x : α) : lapp xs (x, ()) = some ((), xs ++ [x]) := if_pos h
theorem lpopAt_some {α : Type} {xs : List α} {i : Int} (h0 : 0 ≤ i) (h1 : i < xs.length) (h2 : i < 2 ^ 62) : ∃ x, xs[i.toNat]? = some x ∧ lpopAt xs (i, ()) = some (x, xs.eraseIdx i.toNat) := by
  have hi : i.toNat < xs.length := by omega
  refine ⟨xs[i.toNat], List.getElem?_eq_getElem hi, ?_⟩
  unfold lpopAt smR ixN
  rw [if_pos (by simp only [Bool.and_eq_true, decide_eq_true_eq]; omega), if_pos h0, if_pos h1]
  simp [hi]
theorem erase_perm {α : Type} {xs : List α} {i : Nat} {x : α} (h : xs[i]? = some x) : (x :: xs.eraseIdx i).Perm xs := by
  induction xs generalizing i with
  | nil => simp at h
  | cons y ys ih =>
    cases i with
    | zero => simp at h; subst h; simp
    | succ i =>
      simp only [List.eraseIdx_cons_succ]
      refine (List.Perm.swap y x _).trans ?_
      exact (ih (by simpa using h)).cons y
theorem sizeLine_eq : sizeLine = 16777216 := by decide
theorem pmod_eq {i j : Int} (h : 0 < j) : pmod i j = some (i % j) := if_pos h
theorem pdiv_eq {i j : Int} (h : 0 < j) (h2 : j < 1073741824) : pdiv i j = some (i / j) := if_pos ⟨h, h2⟩
theorem pmul_l {i j : Int} (h : -(2 ^ 64) < i) (h2 : i < 2 ^ 64) : pmul i j = some (i * j) := if_pos (.inl ⟨h, h2⟩)
theorem pmul_r {i j : Int} (h : -(2 ^ 64) < j) (h2 : j < 2 ^ 64) : pmul i j = some (i * j) := if_pos (.inr ⟨h, h2⟩)

theorem sip_ok {n : Nat} {c : Cup} {many : Int} (hc : CupOk c) (hm : 0 < many) (hm2 : many < 1073741824) (hn : 100 ≤ n) :
    ∃ r, f__law_sip n c many = some r ∧ 0 ≤ r.1 ∧ r.1 < many ∧ CupOk r.2 := by
  unfold f__law_sip m__law_sip
  simp only [Option.bind_some, if_true]
  obtain ⟨z, e, iz, ez⟩ := whileM_inv (t := fun g : Cup => (some (decide ((0 : Int) < (g.1.length : Int)))).bind fun c => if c = true then (atI g.1 0).bind fun x => some (decide (x = 0)) else some false)
    (f := fun g => (cpop g).bind fun c => some c) CupOk (fun g => g.1.length) (fun g hg => by
      obtain ⟨l, b⟩ := g
      cases l with
      | nil => left; rfl
      | cons x r =>
        simp only [List.length_cons, Option.bind_some, atI_zero]
        rw [if_pos (by simp only [decide_eq_true_eq]; omega)]
        by_cases hx : x = 0
        · right
          refine ⟨by simp [hx], (r, b), rfl, ⟨fun y hy => hg.nn y (List.mem_cons_of_mem _ hy), hg.n2, ?_⟩, by simp⟩
          have := hg.len
          simp only [List.length_cons] at this
          show r.length ≤ 57
          omega
        · left
          simp [hx]) n c hc (by have := hc.len; omega)
  simp only [Option.bind_some] at e
  rw [e]
  simp only [Option.bind_some]
  obtain ⟨l, b⟩ := z
  cases l with
  | nil =>
    simp only [List.length_nil, Int.ofNat_zero, Int.lt_irrefl, decide_false, Bool.false_eq_true, if_false, Option.bind_some, Fl.bind]
    rw [pmul_r (by decide) (by decide)]
    simp only [Option.bind_some]
    rw [pmod_eq (by decide)]
    simp only [Option.bind_some]
    rw [pdiv_eq (by decide) (by decide)]
    simp only [Option.bind_some]
    rw [pmod_eq hm]
    exact ⟨_, rfl, Int.emod_nonneg _ (by omega), Int.emod_lt_of_pos _ hm, ⟨fun x h => (List.not_mem_nil h).elim, Int.emod_nonneg _ (by decide), Nat.zero_le _⟩⟩
  | cons x r =>
    rw [if_pos (by simp only [List.length_cons, decide_eq_true_eq]; omega)]
    simp only [atI_zero, Option.bind_some]
    rw [pdiv_eq hm hm2, pmod_eq hm]
    have hx : 0 ≤ x := iz.nn x (by simp)
    refine ⟨_, rfl, Int.emod_nonneg _ (by omega), Int.emod_lt_of_pos _ hm, ⟨fun y h => ?_, iz.n2, iz.len⟩⟩
    rcases List.mem_cons.mp h with h | h
    · subst h; exact Int.ediv_nonneg hx (by omega)
    · exact iz.nn y (List.mem_cons_of_mem _ h)
theorem mixed_ok {α : Type} {n : Nat} {c : Cup} {xs : List α} (hc : CupOk c) (hx : xs.length ≤ 1000000) (hn : xs.length + 100 ≤ n) :
    ∃ r, f__law_mixed n c xs = some r ∧ r.1.Perm xs ∧ CupOk r.2 := by
  unfold f__law_mixed m__law_mixed
  simp only [Option.bind_some, Option.map_some]
  have key := whileM_inv (G := Cup × List α × List α) (t := fun g => some (decide ((0 : Int) < (g.2.1.length : Int))))
    (f := fun g => ((((((f__law_sip n g.1 (g.2.1.length : Int)).bind fun r => some (r.1, (r.2, g.2.1, g.2.2))).bind fun a => some ((a.1, ()), a.2)).bind fun b => (lpopAt b.2.2.1 b.1).bind fun z => some (z.1, (b.2.1, z.2, b.2.2.2))).bind fun a => some ((a.1, ()), a.2)).bind fun b => (lapp b.2.2.2 b.1).bind fun z => some (z.1, (b.2.1, b.2.2.1, z.2))).map (·.2) |>.bind fun s => some (s.1, s.2.1, s.2.2))
    (fun g => CupOk g.1 ∧ (g.2.1 ++ g.2.2).Perm xs) (fun g => g.2.1.length) (fun g hg => by
      obtain ⟨c, l, o⟩ := g
      obtain ⟨h1, h2⟩ := hg
      have hl := h2.length_eq
      simp only [List.length_append] at hl
      by_cases hne : l.length = 0
      · left
        simp [hne]
      · right
        refine ⟨by simp only [Option.some.injEq, decide_eq_true_eq]; omega, ?_⟩
        obtain ⟨r, e1, r0, r1, ok⟩ := sip_ok (n := n) h1 (many := (l.length : Int)) (by omega) (by omega) (by omega)
        obtain ⟨x, e2, e3⟩ := lpopAt_some r0 r1 (by omega)
        simp only [e1, Option.bind_some, e3]
        rw [lapp_eq (by rw [sizeLine_eq]; omega)]
        refine ⟨_, rfl, ⟨ok, ?_⟩, ?_⟩
        · refine List.Perm.trans ?_ h2
          show (l.eraseIdx r.1.toNat ++ (o ++ [x])).Perm (l ++ o)
          rw [← List.append_assoc]
          refine List.perm_append_comm.trans ?_
          show (x :: (l.eraseIdx r.1.toNat ++ o)).Perm (l ++ o)
          rw [← List.cons_append]
          exact (erase_perm e2).append_right o
        · have := (erase_perm e2).length_eq
          simp only [List.length_cons] at this
          show (l.eraseIdx r.1.toNat).length < l.length
          omega) n (c, xs, []) ⟨hc, by simp⟩ (by show xs.length < n; omega)
  obtain ⟨z, e, ⟨h1, h2⟩, ez⟩ := key
  rw [e]
  refine ⟨_, rfl, ?_, h1⟩
  have : z.2.1 = [] := by
    have h := Option.some.inj ez
    simp only [decide_eq_false_iff_not] at h
    exact List.length_eq_zero_iff.mp (by omega)
  rw [this] at h2
  exact h2
end Mx
/-! M3: sheets: tables, steps. Own work. -/
namespace Mx
open PySem PySem.Spec L2 Rf K83

theorem obs {α : Type} (o : Option α) : (o.bind fun t => some t) = o := by cases o <;> rfl
section
variable {ι γ : Type}
theorem foldO_flat {f : ι → List γ → Option (List γ)} (k : ι → List γ) (g0 : List γ) {xs : List ι} (hs : ∀ pre x post, xs = pre ++ x :: post → f x (g0 ++ pre.flatMap k) = some (g0 ++ pre.flatMap k ++ k x)) : foldO f xs g0 = some (g0 ++ xs.flatMap k) := by
  obtain ⟨z, e, p⟩ := foldO_inv (f := f) (xs := xs) (g := g0) (fun pre g => g = g0 ++ pre.flatMap k) (by simp) fun pre x post g e p => by
    subst p
    exact ⟨_, hs pre x post e, by simp⟩
  rw [e, p]
end
section
variable {κ α : Type} [DecidableEq κ]
theorem dput_new {d : List (κ × α)} {k : κ} (h : k ∉ d.map (·.1)) (x : α) : dput d k x = d ++ [(k, x)] := by
  unfold dput
  rw [any_key, if_neg]
  rw [dhas_iff]; exact h
theorem dmerge_new {e : List (κ × α)} : ∀ {d : List (κ × α)}, DN e → (∀ k, k ∈ e.map (·.1) → k ∉ d.map (·.1)) → dmerge d e = d ++ e := by
  induction e with
  | nil => intro d _ _; simp [dmerge]
  | cons p e ih =>
    intro d n h
    unfold DN at n
    rw [List.map_cons, List.nodup_cons] at n
    rw [dmerge_cons, dput_new (h p.1 (by simp)), ih n.2]
    · simp
    · intro k hk q
      rw [List.map_append, List.mem_append] at q
      rcases q with q | q
      · exact h k (by simp only [List.map_cons, List.mem_cons]; exact .inr hk) q
      · simp at q; subst q; exact n.1 hk
end
def rot1 (f : List Int) : List Int := f.drop 1 ++ f.take 1
def bpf (f : List Int) : List (Int × Int) := f.zip (rot1 f)
def bps (s : List (List Int)) : List (Int × Int) := s.flatMap bpf
theorem rot1_len (f : List Int) : (rot1 f).length = f.length := by unfold rot1; simp; omega
theorem rot1_get {f : List Int} {i : Nat} (h : i < f.length) : (rot1 f)[i]? = f[(i + 1) % f.length]? := by
  unfold rot1
  by_cases e : i + 1 < f.length
  · rw [List.getElem?_append_left (by simp; omega), List.getElem?_drop, Nat.mod_eq_of_lt e, Nat.add_comm]
  · have : i + 1 = f.length := by omega
    rw [this, Nat.mod_self, List.getElem?_append_right (by simp; omega)]
    rw [List.length_drop, List.getElem?_take, show i - (f.length - 1) = 0 by omega]
    simp
theorem bpf_keys (f : List Int) : (bpf f).map (·.1) = f := by
  unfold bpf
  rw [List.map_fst_zip]
  rw [rot1_len]; exact Nat.le_refl _
theorem bps_keys (s : List (List Int)) : (bps s).map (·.1) = s.flatten := by
  unfold bps
  rw [List.map_flatMap]
  simp only [bpf_keys]
  induction s <;> simp_all
theorem bpf_get {f : List Int} {i : Nat} (h : i < f.length) : (bpf f)[i]? = some (f[i], f[(i + 1) % f.length]'(Nat.mod_lt _ (by omega))) := by
  unfold bpf
  rw [List.getElem?_zip_eq_some]
  refine ⟨List.getElem?_eq_getElem h, ?_⟩
  rw [rot1_get h]
  exact List.getElem?_eq_getElem _
theorem bpf_len (f : List Int) : (bpf f).length = f.length := by
  have := congrArg List.length (bpf_keys f)
  simpa using this
theorem mem_bpf {f : List Int} {p : Int × Int} : p ∈ bpf f ↔ ∃ i, ∃ h : i < f.length, p = (f[i], f[(i + 1) % f.length]'(Nat.mod_lt _ (by omega))) := by
  rw [List.mem_iff_getElem?]
  constructor
  · rintro ⟨i, e⟩
    have hi : i < f.length := by
      have := (List.getElem?_eq_some_iff.mp e).1
      rwa [bpf_len] at this
    rw [bpf_get hi] at e
    exact ⟨i, hi, (Option.some.inj e).symm⟩
  · rintro ⟨i, h, e⟩
    exact ⟨i, by rw [bpf_get h, e]⟩
/-- the table, put side by side -/
theorem put_face {ι : Type} {xs : List ι} {f : List Int} {g : List (Int × Int)} {F : ι → List (Int × Int) → Option (List (Int × Int))} (hx : xs.length = f.length)
    (hF : ∀ (i : Nat) (h : i < f.length) (x : ι) (g' : List (Int × Int)), xs[i]? = some x → F x g' = dputL g' f[i] (f[(i + 1) % f.length]'(Nat.mod_lt _ (by omega))))
    (nd : f.Nodup) (hd : ∀ x, x ∈ f → x ∉ g.map (·.1)) (hl : g.length + f.length ≤ sizeLine) : foldO F xs g = some (g ++ bpf f) := by
  obtain ⟨z, e, p⟩ := foldO_inv (f := F) (xs := xs) (g := g) (fun pre g' => g' = g ++ (bpf f).take pre.length) (by simp) fun pre x post g' e p => by
    subst p
    have hi : pre.length < f.length := by
      have := congrArg List.length e
      simp at this
      omega
    have hxi : xs[pre.length]? = some x := by rw [e]; simp
    rw [hF pre.length hi x _ hxi]
    have hkeys : (g ++ (bpf f).take pre.length).map (·.1) = g.map (·.1) ++ f.take pre.length := by
      rw [List.map_append, List.map_take, bpf_keys]
    have hnot : f[pre.length] ∉ (g ++ (bpf f).take pre.length).map (·.1) := by
      rw [hkeys, List.mem_append]
      rintro (q | q)
      · exact hd _ (List.getElem_mem hi) q
      · obtain ⟨j, hj, ej⟩ := List.mem_iff_getElem.mp q
        rw [List.getElem_take] at ej
        have hj2 : j < pre.length := by
          simp at hj; omega
        exact List.pairwise_iff_getElem.mp nd j pre.length (by omega) hi hj2 ej
    refine ⟨g ++ (bpf f).take (pre.length + 1), ?_, by simp⟩
    rw [dputL_eq (by
      have := congrArg List.length hkeys
      simp only [List.length_map, List.length_append, List.length_take] at this ⊢
      rw [bpf_len] at *
      omega), dput_new hnot, List.take_add_one, bpf_get hi]
    simp
  rw [e, p, hx, List.take_of_length_le (by rw [bpf_len]; exact Nat.le_refl _)]
/-- the table of a sheet -/
theorem put_sheet {s : List (List Int)} {F : List Int → List (Int × Int) → Option (List (Int × Int))} (nd : s.flatten.Nodup) (hl : s.flatten.length ≤ sizeLine)
    (hF : ∀ f, f ∈ s → ∀ g : List (Int × Int), (∀ x, x ∈ f → x ∉ g.map (·.1)) → g.length + f.length ≤ sizeLine → F f g = some (g ++ bpf f)) : foldO F s [] = some (bps s) := by
  have := foldO_flat (f := F) (xs := s) bpf [] fun pre f post e => by
    subst e
    simp only [List.nil_append]
    refine hF f (by simp) _ ?_ ?_
    · intro x hx q
      have h1 : (pre.flatMap bpf).map (·.1) = pre.flatten := bps_keys pre
      rw [h1] at q
      rw [List.flatten_append, List.nodup_append] at nd
      exact nd.2.2 x q x (by simp [hx]) rfl
    · have h1 : (pre.flatMap bpf).length = pre.flatten.length := by
        have := congrArg List.length (bps_keys pre)
        simpa [bps] using this
      rw [h1]
      simp only [List.flatten_append, List.flatten_cons, List.length_append] at hl
      omega
  simpa [bps] using this
theorem nodup_face {s : List (List Int)} (nd : s.flatten.Nodup) {f : List Int} (h : f ∈ s) : f.Nodup := List.Nodup.sublist (List.sublist_flatten_of_mem h) nd
theorem flat_len {s : List (List Int)} {f : List Int} (h : f ∈ s) : f.length ≤ s.flatten.length := (List.sublist_flatten_of_mem h).length_le
theorem behind_table_ok {s : List (List Int)} (nd : s.flatten.Nodup) (hl : s.flatten.length ≤ 1000000) : f_behind_table s = some (bps s) := by
  unfold f_behind_table m_behind_table
  simp only [Option.bind_some, Option.map_some]
  rw [put_sheet (s := s) nd (by rw [sizeLine_eq]; omega)]
  · rfl
  · intro f hf g h1 h2
    rw [put_face (xs := enumI 0 f) (f := f) (enumI_length 0 f) _ (nodup_face nd hf) h1 h2]
    · rfl
    · intro i hi x g' hx
      obtain ⟨e1, e2⟩ := enumI_get hx
      rw [List.getElem?_eq_getElem hi] at e2
      have e3 : x.2 = f[i] := (Option.some.inj e2).symm
      rw [pmod_eq (by omega)]
      simp only [Option.bind_some]
      have e4 : (x.1 + 1) % (f.length : Int) = (((i + 1) % f.length : Nat) : Int) := by
        rw [e1]; simp
      rw [e4, atI_nat (Nat.mod_lt _ (by omega))]
      simp only [Option.bind_some]
      rw [e3]
      exact obs _
theorem face_table_ok {s : List (List Int)} (nd : s.flatten.Nodup) (hl : s.flatten.length ≤ 1000000) : ∃ d, f_face_table s = some d ∧ d.map (·.1) = s.flatten := by
  unfold f_face_table m_face_table
  simp only [Option.bind_some, Option.map_some]
  obtain ⟨z, e, p⟩ := foldO_inv (f := fun (x_15 : Int × List Int) (g_16 : List (Int × Int)) => (foldO (fun x_19 g_20 => (dputL g_20 x_19 x_15.1).bind fun t => some t) x_15.2 g_16).bind fun g => some g) (xs := enumI 0 s) (g := []) (fun pre g => g.map (·.1) = (pre.map (·.2)).flatten) (by simp) fun pre x post g e p => by
    have es : s = pre.map (·.2) ++ x.2 :: post.map (·.2) := by
      have := congrArg (List.map (·.2)) e
      rw [enumI_map] at this
      simpa using this
    obtain ⟨z, e2, p2⟩ := foldO_inv (f := fun x_19 g_20 => (dputL g_20 x_19 x.1).bind fun t => some t) (xs := x.2) (g := g) (fun pre2 g2 => g2.map (·.1) = (pre.map (·.2)).flatten ++ pre2) (by simp [p]) fun pre2 y post2 g2 e2 p2 => by
      have hn : y ∉ g2.map (·.1) := by
        rw [p2, List.mem_append]
        rw [es, List.flatten_append, List.flatten_cons, e2, List.nodup_append] at nd
        rintro (q | q)
        · exact nd.2.2 y q y (by simp) rfl
        · have := nd.2.1
          rw [List.append_assoc, List.nodup_append] at this
          exact this.2.2 y q y (by simp) rfl
      have hlen : g2.length ≤ 1000000 := by
        have := congrArg List.length p2
        rw [List.length_map] at this
        rw [this]
        rw [es, e2] at hl
        simp only [List.flatten_append, List.flatten_cons, List.length_append] at hl ⊢
        omega
      refine ⟨g2 ++ [(y, x.1)], ?_, by simp [p2]⟩
      rw [dputL_eq (by rw [sizeLine_eq]; omega), dput_new hn]
      rfl
    exact ⟨z, by rw [e2]; rfl, by simp [p2]⟩
  have e' := e
  simp only [Option.bind_some] at e' ⊢
  rw [e']
  exact ⟨z, rfl, by rw [p, enumI_map]⟩
theorem isort_of {xs : List Int} {n : Nat} (p : xs.Perm (rngL 0 n)) : isort xs = rngL 0 n := by
  refine (isort_unique p.symm ?_).symm
  rw [rngL_eq]
  refine List.Pairwise.map _ (fun a b h => ?_) List.pairwise_lt_range
  omega
theorem sides_of_ok {s : List (List Int)} {n : Nat} (p : s.flatten.Perm (rngL 0 n)) (hl : n ≤ 1000000) : f_sides_of s = some (rngL 0 n) := by
  have hlen : s.flatten.length = n := by
    rw [p.length_eq, rngL_length]; omega
  obtain ⟨d, e, k⟩ := face_table_ok (p.nodup_iff.mpr (rngL_nodup 0 n)) (by omega)
  unfold f_sides_of m_sides_of
  simp only [Option.bind_some, e, k]
  rw [isort_of p]
  rfl
end Mx
/-! M4: solids, steps, where words lead. Own work. -/
namespace Mx
open PySem PySem.Spec L2 Rf K83
def tw (x : Int) : Int := x + 1 - 2 * (x % 2)
theorem xor1 (n : Nat) : n ^^^ 1 = n + 1 - 2 * (n % 2) := by
  have h1 := Nat.div_add_mod (n ^^^ 1) 2
  rw [Nat.xor_div_two] at h1
  have h3 : n / 2 ^^^ 1 / 2 = n / 2 := by simp
  rw [h3] at h1
  have h4 : (n ^^^ 1) % 2 = 1 ↔ ¬ (n % 2 = 1 ↔ 1 % 2 = 1) := Nat.xor_mod_two_eq_one
  have h2 := Nat.div_add_mod n 2
  have h5 := Nat.mod_lt n (show 0 < 2 by decide)
  have h6 := Nat.mod_lt (n ^^^ 1) (show 0 < 2 by decide)
  by_cases e : n % 2 = 1
  · have : ¬ (n ^^^ 1) % 2 = 1 := by rw [h4]; simp [e]
    omega
  · have : (n ^^^ 1) % 2 = 1 := by rw [h4]; simp [e]
    omega
theorem bitXor_one {x : Int} (h : 0 ≤ x) : Builtin.bitXor x 1 = tw x := by
  obtain ⟨n, rfl⟩ := Int.eq_ofNat_of_zero_le h
  rw [Bits.bitXor_pp h (by decide)]
  have : ((n : Int).toNat ^^^ (1 : Int).toNat) = n ^^^ 1 := rfl
  rw [this, xor1]
  unfold tw
  omega
theorem tw_tw (x : Int) : tw (tw x) = x := by unfold tw; omega
structure Sd (s : List (List Int)) (N : Nat) : Prop where
  perm : s.flatten.Perm (rngL 0 N)
  even : N % 2 = 0
  small : N ≤ 1000
def In (N : Nat) (x : Int) : Prop := 0 ≤ x ∧ x < N
section
variable {s : List (List Int)} {N : Nat}
theorem Sd.nd (h : Sd s N) : s.flatten.Nodup := h.perm.nodup_iff.mpr (rngL_nodup 0 N)
theorem Sd.len (h : Sd s N) : s.flatten.length = N := by rw [h.perm.length_eq, rngL_length]; omega
theorem Sd.mem (h : Sd s N) {x : Int} : x ∈ s.flatten ↔ In N x := by rw [h.perm.mem_iff, mem_rngL]; rfl
theorem Sd.behind (h : Sd s N) : f_behind_table s = some (bps s) := behind_table_ok h.nd (by rw [h.len]; have := h.small; omega)
theorem Sd.sides (h : Sd s N) : f_sides_of s = some (rngL 0 N) := sides_of_ok h.perm (by have := h.small; omega)
theorem Sd.dn (h : Sd s N) : DN (bps s) := by unfold DN; rw [bps_keys]; exact h.nd
def B (s : List (List Int)) (x : Int) : Int := (dget (bps s) x).getD 0
theorem bps_snd_mem {p : Int × Int} (h : p ∈ bps s) : p.2 ∈ s.flatten := by
  obtain ⟨f, hf, hp⟩ := List.mem_flatMap.mp h
  obtain ⟨i, hi, e⟩ := mem_bpf.mp hp
  rw [e]
  exact List.mem_flatten.mpr ⟨f, hf, List.getElem_mem _⟩
theorem Sd.get (h : Sd s N) {x : Int} (hx : In N x) : dget (bps s) x = some (B s x) ∧ In N (B s x) := by
  obtain ⟨y, e⟩ := dget_some_of (d := bps s) (k := x) (by rw [bps_keys]; exact h.mem.mpr hx)
  unfold B
  rw [e]
  exact ⟨rfl, h.mem.mp (bps_snd_mem (dget_mem e))⟩
theorem Sd.tw (h : Sd s N) {x : Int} (hx : In N x) : In N (tw x) := by
  have := h.even
  obtain ⟨a, b⟩ := hx
  unfold Mx.tw In
  omega
def rps (s : List (List Int)) : List (Int × Int) := s.flatten.map fun x => (x, tw x)
theorem rps_keys : (rps s).map (·.1) = s.flatten := by
  unfold rps
  rw [List.map_map]
  exact List.map_id _
theorem Sd.getR (h : Sd s N) {x : Int} (hx : In N x) : dget (rps s) x = some (Mx.tw x) := by
  refine dget_of_mem (by unfold DN; rw [rps_keys]; exact h.nd) ?_
  exact List.mem_map.mpr ⟨x, h.mem.mpr hx, rfl⟩
def stp (s : List (List Int)) : List (Str × List (Int × Int)) := [("t", bps s), ("r", rps s)]
theorem steps_ok (h : Sd s N) : f__law_steps s = some (stp s) := by
  have hs := h.small
  have hl := h.len
  unfold f__law_steps m__law_steps
  simp only [bs, mps]
  rw [put_sheet (s := s) h.nd (by rw [sizeLine_eq]; omega)]
  · simp only [bs, bps_keys]
    rw [compO_map (fun x => (x, Mx.tw x))]
    · simp only [bs]
      rw [fits_eq (by rw [sizeLine_eq]; simp only [List.length_map]; omega)]
      simp only [bs]
      rw [show s.flatten.map (fun x => (x, Mx.tw x)) = rps s from rfl, dmerge_new (by unfold DN; rw [rps_keys]; exact h.nd) (by simp), List.nil_append]
      rfl
    · intro x hx
      rw [pmod_eq (by decide)]
      simp only [bs]
      rw [pmul_l (i := 2) (by decide) (by decide)]
      rfl
  · intro f hf g h1 h2
    have hfl := flat_len hf
    rw [rng1_eq (by omega) (by omega)]
    simp only [bs]
    rw [put_face (xs := rngL 0 (f.length : Int)) (f := f) (by rw [rngL_length]; omega) _ (nodup_face h.nd hf) h1 h2]
    · rfl
    · intro i hi x g' hx
      have e1 := rngL_get hx
      rw [pmod_eq (by omega)]
      simp only [bs]
      have e4 : (x + 1) % (f.length : Int) = (((i + 1) % f.length : Nat) : Int) := by
        rw [e1]; simp
      have e5 : x = (i : Int) := by omega
      subst e5
      rw [e4, atI_nat (Nat.mod_lt _ (by omega)), atI_nat hi]
      simp only [bs]
      exact obs _
/-! ### words -/
theorem ch_t {c : Nat} : ((⟨#[c]⟩ : Str) = ("t" : Str)) ↔ c = 116 := by
  constructor
  · intro e
    have := congrArg (fun z : Str => z.cps.toList) e
    simp only [cps_t] at this
    simpa using this
  · intro e; subst e; decide +kernel
theorem ch_r {c : Nat} : ((⟨#[c]⟩ : Str) = ("r" : Str)) ↔ c = 114 := by
  constructor
  · intro e
    have := congrArg (fun z : Str => z.cps.toList) e
    simp only [cps_r] at this
    simpa using this
  · intro e; subst e; decide +kernel
def W (w : Str) : Prop := rt w.cps.toList
theorem fold_word {w : Str} {F : Str → Int → Option Int} {G : Int → Nat → Int} {x : Int} (P : Int → Prop) (hx : P x) (hF : ∀ c, c ∈ w.cps.toList → ∀ y, P y → F ⟨#[c]⟩ y = some (G y c) ∧ P (G y c)) :
    foldO F (w.cps.toList.map fun c => (⟨#[c]⟩ : Str)) x = some (w.cps.toList.foldl G x) ∧ P (w.cps.toList.foldl G x) := by
  generalize w.cps.toList = l at hF
  induction l generalizing x with
  | nil => exact ⟨rfl, hx⟩
  | cons c l ih =>
    obtain ⟨a, b⟩ := hF c (by simp) x hx
    rw [List.map_cons, foldO, a]
    exact ih b fun d hd => hF d (by simp [hd])
theorem Sd.led (h : Sd s N) {x : Int} (hx : In N x) {w : Str} (hw : W w) : f_led_side (bps s) x w = some (ldl (B s) Mx.tw x w.cps.toList) ∧ In N (ldl (B s) Mx.tw x w.cps.toList) := by
  have key := fold_word (w := w) (x := x) (F := fun x_38 g_39 => ((if decide (x_38 = ("t" : Str)) = true then dget (bps s) g_39 else some (Builtin.bitXor g_39 1))).bind fun here_41 => some here_41) (G := fun y c => if c = 116 then B s y else Mx.tw y) (In N) hx fun c hc y hy => by
    by_cases e : c = 116
    · have := ch_t.mpr e
      simp only [this, e, decide_true, if_true, (h.get hy).1]
      exact ⟨rfl, (h.get hy).2⟩
    · have e2 : ¬ (⟨#[c]⟩ : Str) = ("t" : Str) := fun q => e (ch_t.mp q)
      simp only [e2, e, decide_false, if_false, bitXor_one hy.1]
      exact ⟨rfl, h.tw hy⟩
  unfold f_led_side m_led_side
  simp only [bs, mps] at key ⊢
  rw [key.1]
  exact ⟨rfl, key.2⟩
theorem dget_stp_t : dget (stp s) "t" = some (bps s) := by
  unfold stp
  rw [dget_cons, if_pos rfl]
theorem dget_stp_r : dget (stp s) "r" = some (rps s) := by
  unfold stp
  rw [dget_cons, if_neg (show ¬ ("t" : Str) = "r" by decide +kernel), dget_cons, if_pos rfl]
theorem Sd.lead (h : Sd s N) {x : Int} (hx : In N x) {w : Str} (hw : W w) : f__law_lead (stp s) x w = some (ldl (B s) Mx.tw x w.cps.toList) := by
  have key := fold_word (w := w) (x := x) (F := fun x_494 g_495 => ((dget (stp s) x_494).bind fun d => dget d g_495).bind fun side => some side) (G := fun y c => if c = 116 then B s y else Mx.tw y) (In N) hx fun c hc y hy => by
    rcases hw c hc with e | e
    · subst e
      rw [ch_r.mpr rfl, dget_stp_r]
      simp only [bs, h.getR hy]
      exact ⟨rfl, h.tw hy⟩
    · subst e
      rw [ch_t.mpr rfl, dget_stp_t]
      simp only [bs, (h.get hy).1]
      exact ⟨rfl, (h.get hy).2⟩
  unfold f__law_lead m__law_lead
  simp only [bs, mps] at key ⊢
  rw [key.1]
  rfl
def mapW (s : List (List Int)) (N : Nat) (w : Str) : List Int := (rngL 0 N).map fun x => ldl (B s) tw x w.cps.toList
theorem Sd.wordmap (h : Sd s N) {w : Str} (hw : W w) : f_word_map s w = some (mapW s N w) := by
  have hs := h.small
  unfold f_word_map m_word_map
  simp only [bs, h.behind, h.sides]
  rw [compO_map (fun x => ldl (B s) Mx.tw x w.cps.toList) fun x hx => (h.led (mem_rngL.mp hx) hw).1]
  simp only [bs]
  rw [fits_eq (by rw [sizeLine_eq, List.length_map, rngL_length]; omega)]
  rfl
theorem bps_len (h : Sd s N) : (bps s).length = N := by
  have := congrArg List.length (bps_keys s)
  rw [List.length_map, h.len] at this
  exact this
theorem Sd.lawmap (h : Sd s N) {w : Str} (hw : W w) : f__law_map (stp s) w = some (mapW s N w) := by
  have hs := h.small
  unfold f__law_map m__law_map
  simp only [bs, dget_stp_t, bps_len h]
  rw [rng1_eq (by omega) (by omega)]
  simp only [bs]
  rw [compO_map (fun x => ldl (B s) Mx.tw x w.cps.toList) fun x hx => h.lead (mem_rngL.mp hx) hw]
  simp only [bs]
  rw [fits_eq (by rw [sizeLine_eq, List.length_map, rngL_length]; omega)]
  rfl
theorem Sd.likes (h : Sd s N) {v w : Str} (hv : W v) (hw : W w) : f_are_like_words s v w = some (decide (mapW s N v = mapW s N w)) := by
  unfold f_are_like_words m_are_like_words
  simp only [bs, h.wordmap hv, h.wordmap hw]
  rfl
theorem Sd.wordside (h : Sd s N) {x : Int} (hx : In N x) {w : Str} (hw : W w) : f_word_side s x w = some (ldl (B s) Mx.tw x w.cps.toList) := by
  unfold f_word_side m_word_side
  simp only [bs, h.behind, (h.led hx hw).1]
  rfl
end
end Mx
/-! M5: the first words, by ranks and by a queue. Own work. -/
namespace Mx
open PySem PySem.Spec L2 Rf K83

theorem nodup_len {α : Type} [DecidableEq α] : ∀ {l m : List α}, l.Nodup → (∀ x, x ∈ l → x ∈ m) → l.length ≤ m.length
  | [], _, _, _ => Nat.zero_le _
  | x :: l, m, nd, h => by
    rw [List.nodup_cons] at nd
    have hm := h x (by simp)
    have := nodup_len (l := l) (m := m.erase x) nd.2 fun y hy => by
      have hyx : y ≠ x := fun e => nd.1 (e ▸ hy)
      exact (List.mem_erase_of_ne hyx).mpr (h y (by simp [hy]))
    rw [List.length_erase_of_mem hm] at this
    have hp : 0 < m.length := List.length_pos_of_mem hm
    simp only [List.length_cons]
    omega
theorem keys_le {α : Type} {d : List (Int × α)} {N : Nat} (n : DN d) (h : ∀ x, x ∈ d.map (·.1) → In N x) : d.length ≤ N := by
  have h2 := nodup_len n (m := rngL 0 N) fun x hx => mem_rngL.mpr (h x hx)
  rw [rngL_length, List.length_map] at h2
  omega

def ch (s : List (List Int)) (c : Nat) (x : Int) : Int := if c = 1 then tw x else B s x
def ltr (c : Nat) : Str := if c = 1 then "r" else "t"
def c12 (c : Nat) : Prop := c = 1 ∨ c = 2
theorem wS_c {c : Nat} (h : c12 c) (a : Nat) : wS a ++ ltr c = wS (2 * a + c) := by
  rcases h with e | e
  · subst e; exact wS_r a
  · subst e; exact wS_t a
theorem wn_c {c : Nat} (h : c12 c) (a : Nat) : wn (2 * a + c) = wn a + 1 := by
  rcases h with e | e
  · subst e; exact wn_r a
  · subst e; exact wn_t a
theorem ld_c {c : Nat} (h : c12 c) (s : List (List Int)) (x : Int) (a : Nat) : ld (B s) tw x (2 * a + c) = ch s c (ld (B s) tw x a) := by
  rcases h with e | e
  · subst e; exact ld_r _ _ _ _
  · subst e; exact ld_t _ _ _ _
theorem ltr_len {c : Nat} : (ltr c).length = 1 := by
  unfold ltr
  split
  · exact len_r
  · exact len_t
section
variable {s : List (List Int)} {N : Nat} {s0 : Int}
theorem Sd.ch (h : Sd s N) {x : Int} (hx : In N x) (c : Nat) : In N (Mx.ch s c x) := by
  unfold Mx.ch
  split
  · exact h.tw hx
  · exact (h.get hx).2
/-- a dict of first words: closed, the words lead there -/
structure ClD (s : List (List Int)) (s0 : Int) (D : List (Int × Str)) : Prop where
  start : dget D s0 = some (wS 0)
  codes : ∀ x w, dget D x = some w → ∃ a, w = wS a ∧ ld (B s) tw s0 a = x
  cl : ∀ c, c12 c → ∀ x a, dget D x = some (wS a) → ∃ b, dget D (ch s c x) = some (wS b) ∧ b ≤ 2 * a + c
theorem ClD.least {D : List (Int × Str)} (h : ClD s s0 D) : ∀ n, ∃ a, dget D (ld (B s) tw s0 n) = some (wS a) ∧ a ≤ n := by
  intro n
  induction n using Nat.strongRecOn with
  | _ n ih =>
    rcases num_cases n with e | ⟨m, l, e⟩ | ⟨m, l, e⟩
    · subst e
      exact ⟨0, by rw [ld_zero]; exact h.start, Nat.le_refl 0⟩
    · obtain ⟨a, e1, q⟩ := ih m l
      obtain ⟨b, e2, q2⟩ := h.cl 1 (.inl rfl) _ _ e1
      exact ⟨b, by rw [e, ld_c (.inl rfl)]; exact e2, by omega⟩
    · obtain ⟨a, e1, q⟩ := ih m l
      obtain ⟨b, e2, q2⟩ := h.cl 2 (.inr rfl) _ _ e1
      exact ⟨b, by rw [e, ld_c (.inr rfl)]; exact e2, by omega⟩
theorem ClD.unique {D E : List (Int × Str)} (h : ClD s s0 D) (k : ClD s s0 E) {x : Int} {v w : Str} (e : dget D x = some v) (f : dget E x = some w) : v = w := by
  obtain ⟨a, rfl, la⟩ := h.codes x v e
  obtain ⟨b, rfl, lb⟩ := k.codes x w f
  obtain ⟨a', e1, l1⟩ := h.least b
  rw [lb, e] at e1
  obtain ⟨b', e2, l2⟩ := k.least a
  rw [la, f] at e2
  have h1 := wS_inj (Option.some.inj e1)
  have h2 := wS_inj (Option.some.inj e2)
  have : a = b := by omega
  rw [this]

/-! ### by ranks -/
structure Fd (s : List (List Int)) (N : Nat) (s0 : Int) (told : List (Int × Str)) (k : Nat) (found : List (Int × Str)) : Prop where
  dn : DN found
  key : ∀ x w, dget found x = some w → x ∉ told.map (·.1) ∧ In N x ∧ ∃ b, w = wS b ∧ ld (B s) tw s0 b = x ∧ wn b = k + 1
theorem Fd.len {told found : List (Int × Str)} {k : Nat} (f : Fd s N s0 told k found) : found.length ≤ N := keys_le f.dn fun x hx => by
  obtain ⟨w, e⟩ := dget_some_of hx
  exact (f.key x w e).2.1
def better (found found' : List (Int × Str)) : Prop := ∀ y b, dget found y = some (wS b) → ∃ b', dget found' y = some (wS b') ∧ b' ≤ b
theorem better.refl (d : List (Int × Str)) : better d d := fun y b e => ⟨b, e, Nat.le_refl b⟩
theorem better.trans {d e f : List (Int × Str)} (a : better d e) (b : better e f) : better d f := fun y c q => by
  obtain ⟨c', q1, l1⟩ := a y c q
  obtain ⟨c'', q2, l2⟩ := b y c' q1
  exact ⟨c'', q2, by omega⟩
theorem rank_step (h : Sd s N) {told found : List (Int × Str)} {k : Nat} (f : Fd s N s0 told k found) {x : Int} {a c : Nat} (hc : c12 c) (hx : dget told x = some (wS a)) (ha : ld (B s) tw s0 a = x) (hk : wn a = k) (hk2 : k ≤ 1000) (hi : In N x) :
    ∃ found', (((dget told x).bind fun w => scat w (ltr c)).bind fun word => (((if (!dhas told (ch s c x)) = true then (if (!dhas found (ch s c x)) = true then some true else (dget found (ch s c x)).bind fun y => some (slt word y)) else some false).bind fun d => if d = true then ((dputL found (ch s c x) word).bind fun found => (some found)) else (some found)).bind fun b => (some b))) = some found' ∧
      Fd s N s0 told k found' ∧ better found found' ∧ (ch s c x ∈ told.map (·.1) ∨ ∃ b, dget found' (ch s c x) = some (wS b) ∧ b ≤ 2 * a + c) := by
  rw [hx]
  simp only [bs]
  have hs := h.small
  rw [scat_eq (by rw [wS_len, hk, ltr_len, sizeLine_eq]; omega), wS_c hc]
  simp only [bs]
  have hl := f.len
  have gIn := h.ch hi c
  have gld : ld (B s) tw s0 (2 * a + c) = ch s c x := by rw [ld_c hc, ha]
  have gn : wn (2 * a + c) = k + 1 := by rw [wn_c hc, hk]
  have put : ch s c x ∉ told.map (·.1) → (∀ b, dget found (ch s c x) = some (wS b) → 2 * a + c ≤ b) → ∃ found', dputL found (ch s c x) (wS (2 * a + c)) = some found' ∧ Fd s N s0 told k found' ∧ better found found' ∧ dget found' (ch s c x) = some (wS (2 * a + c)) := by
    intro nt lb
    refine ⟨dput found (ch s c x) (wS (2 * a + c)), dputL_eq (by rw [sizeLine_eq]; omega) _ _, ⟨f.dn.dput _ _, fun y w e => ?_⟩, fun y b e => ?_, by rw [dget_dput, if_pos rfl]⟩
    · rw [dget_dput] at e
      by_cases q : ch s c x = y
      · rw [if_pos q] at e
        cases e
        subst q
        exact ⟨nt, gIn, _, rfl, gld, gn⟩
      · rw [if_neg q] at e
        exact f.key y w e
    · rw [dget_dput]
      by_cases q : ch s c x = y
      · subst q
        rw [if_pos rfl]
        exact ⟨_, rfl, lb b e⟩
      · rw [if_neg q]
        exact ⟨b, e, Nat.le_refl b⟩
  by_cases t : ch s c x ∈ told.map (·.1)
  · have t2 : dhas told (ch s c x) = true := dhas_iff.mpr t
    simp only [t2, Bool.not_true, Bool.false_eq_true, if_false, bs]
    exact ⟨found, rfl, f, better.refl _, .inl t⟩
  · have t2 : dhas told (ch s c x) = false := dhas_false.mpr t
    simp only [t2, Bool.not_false, if_true]
    by_cases q : ch s c x ∈ found.map (·.1)
    · have q2 : dhas found (ch s c x) = true := dhas_iff.mpr q
      obtain ⟨w, e⟩ := dget_some_of q
      obtain ⟨_, _, b, rfl, lb, nb⟩ := f.key _ w e
      simp only [q2, Bool.not_true, Bool.false_eq_true, if_false, e, bs]
      rw [slt_wS (by omega)]
      by_cases l : 2 * a + c < b
      · simp only [l, decide_true, if_true]
        obtain ⟨found', e1, e2, e3, e4⟩ := put t fun b' e' => by
          rw [e] at e'
          have := wS_inj (Option.some.inj e')
          omega
        exact ⟨found', by rw [e1]; rfl, e2, e3, .inr ⟨_, e4, Nat.le_refl _⟩⟩
      · simp only [l, decide_false, Bool.false_eq_true, if_false]
        exact ⟨found, rfl, f, better.refl _, .inr ⟨b, e, by omega⟩⟩
    · have q2 : dhas found (ch s c x) = false := dhas_false.mpr q
      simp only [q2, Bool.not_false, if_true, bs]
      obtain ⟨found', e1, e2, e3, e4⟩ := put t fun b' e' => absurd (mem_keys_of e') q
      exact ⟨found', by rw [e1]; rfl, e2, e3, .inr ⟨_, e4, Nat.le_refl _⟩⟩

structure Rk (s : List (List Int)) (N : Nat) (s0 : Int) (g : List (Int × Str) × List Int) (k : Nat) : Prop where
  dn : DN g.1
  start : dget g.1 s0 = some (wS 0)
  key : ∀ x w, dget g.1 x = some w → In N x ∧ ∃ a, w = wS a ∧ ld (B s) tw s0 a = x ∧ wn a ≤ k
  rank : ∀ x, x ∈ g.2 ↔ ∃ a, dget g.1 x = some (wS a) ∧ wn a = k
  cl : ∀ c, c12 c → ∀ x a, dget g.1 x = some (wS a) → wn a < k → ∃ b, dget g.1 (ch s c x) = some (wS b) ∧ b ≤ 2 * a + c
  k1 : k ≤ g.1.length
  k2 : g.2 ≠ [] → k + 1 ≤ g.1.length
theorem isort_mem {l : List Int} {x : Int} : x ∈ isort l ↔ x ∈ l := (isort_perm l).mem_iff
theorem Rk.len {g : List (Int × Str) × List Int} {k : Nat} (r : Rk s N s0 g k) : g.1.length ≤ N := keys_le r.dn fun x hx => by
  obtain ⟨w, e⟩ := dget_some_of hx
  exact (r.key x w e).1
theorem isort_nil : isort [] = [] := by unfold isort; simp
theorem dget_upd {d e : List (Int × Str)} (n : DN e) (hd : ∀ k, k ∈ e.map (·.1) → k ∉ d.map (·.1)) {x : Int} {w : Str} : dget (dmerge d e) x = some w ↔ dget e x = some w ∨ dget d x = some w := by
  rw [dget_dmerge n]
  cases q : dget e x with
  | none => simp
  | some v =>
    have : dget d x = none := dget_none.mpr (hd x (mem_keys_of q))
    simp [this]
theorem rank_turn (h : Sd s N) {g : List (Int × Str) × List Int} {k : Nat} (r : Rk s N s0 g k) (hne : g.2 ≠ []) :
    ∃ g', ((foldO (fun x_60 g_61 => (((((dget (bps s) x_60).bind fun y => some (("t" : Str), y)).bind fun x => some [x]).bind fun xs => some ((("r" : Str), Builtin.bitXor x_60 1) :: xs)).bind fun xs =>
              foldO (fun x_64 g_65 => ((dget g.1 x_60).bind fun x => scat x x_64.1).bind fun word_67 =>
                  ((if (!dhas g.1 x_64.2) = true then if (!dhas g_65 x_64.2) = true then some true else (dget g_65 x_64.2).bind fun y => some (slt word_67 y) else some false).bind fun d => if d = true then (dputL g_65 x_64.2 word_67).bind fun found_69 => some found_69 else some g_65).bind fun found_69 => some found_69) xs g_61).bind fun found_69 => some found_69) g.2 []).bind
        fun g_62 => (dupd g.1 g_62).bind fun told_71 => some (told_71, isort (g_62.map (·.1)))) = some g' ∧
      Rk s N s0 g' (k + 1) ∧ (N - g'.1.length) + (if g'.2 = [] then 0 else 1) < (N - g.1.length) + 1 := by
  have hs := h.small
  have hlen := r.len
  have hk := r.k2 hne
  obtain ⟨found, ef, ff, pf⟩ := foldO_inv (f := fun x_60 g_61 => (((((dget (bps s) x_60).bind fun y => some (("t" : Str), y)).bind fun x => some [x]).bind fun xs => some ((("r" : Str), Builtin.bitXor x_60 1) :: xs)).bind fun xs =>
              foldO (fun x_64 g_65 => ((dget g.1 x_60).bind fun x => scat x x_64.1).bind fun word_67 =>
                  ((if (!dhas g.1 x_64.2) = true then if (!dhas g_65 x_64.2) = true then some true else (dget g_65 x_64.2).bind fun y => some (slt word_67 y) else some false).bind fun d => if d = true then (dputL g_65 x_64.2 word_67).bind fun found_69 => some found_69 else some g_65).bind fun found_69 => some found_69) xs g_61).bind fun found_69 => some found_69)
    (xs := g.2) (g := []) (fun pre found => Fd s N s0 g.1 k found ∧ ∀ x, x ∈ pre → ∀ a, dget g.1 x = some (wS a) → ∀ c, c12 c → ch s c x ∈ g.1.map (·.1) ∨ ∃ b, dget found (ch s c x) = some (wS b) ∧ b ≤ 2 * a + c)
    ⟨⟨DN.nil, fun x w e => by cases e⟩, fun x hx => by cases hx⟩ (fun pre x post found e ⟨ff, pf⟩ => by
      have hx : x ∈ g.2 := by rw [e]; simp
      obtain ⟨a, ea, na⟩ := (r.rank x).mp hx
      obtain ⟨hi, a', ea', la, _⟩ := r.key x _ ea
      have := wS_inj ea'
      subst this
      simp only [(h.get hi).1, bs, bitXor_one hi.1]
      obtain ⟨f1, e1, F1, b1, p1⟩ := rank_step h ff (c := 1) (.inl rfl) ea la na (by omega) hi
      obtain ⟨f2, e2, F2, b2, p2⟩ := rank_step h F1 (c := 2) (.inr rfl) ea la na (by omega) hi
      refine ⟨f2, ?_, F2, fun y hy a2 ea2 c hc => ?_⟩
      · have q1 : ch s 1 x = tw x := rfl
        have q2 : ch s 2 x = B s x := rfl
        have q3 : ltr 1 = ("r" : Str) := rfl
        have q4 : ltr 2 = ("t" : Str) := rfl
        rw [q1, q3] at e1
        rw [q2, q4] at e2
        simp only [foldO]
        rw [e1]
        simp only [bs]
        rw [e2]
        simp only [bs]
      · rcases List.mem_append.mp hy with hy | hy
        · rcases pf y hy a2 ea2 c hc with q | ⟨b, q, l⟩
          · exact .inl q
          · obtain ⟨b', q', l'⟩ := (b1.trans b2) _ _ q
            exact .inr ⟨b', q', by omega⟩
        · rw [List.mem_singleton] at hy
          subst hy
          have := wS_inj (Option.some.inj (ea.symm.trans ea2))
          subst this
          rcases hc with hc | hc
          · subst hc
            rcases p1 with q | ⟨b, q, l⟩
            · exact .inl q
            · obtain ⟨b', q', l'⟩ := b2 _ _ q
              exact .inr ⟨b', q', by omega⟩
          · subst hc
            exact p2)
  rw [ef]
  simp only [bs]
  have fl := ff.len
  have dis : ∀ y, y ∈ found.map (·.1) → y ∉ g.1.map (·.1) := fun y hy => by
    obtain ⟨w, e⟩ := dget_some_of hy
    exact (ff.key y w e).1
  have up : ∀ {x : Int} {w : Str}, dget (dmerge g.1 found) x = some w ↔ dget found x = some w ∨ dget g.1 x = some w := dget_upd ff.dn dis
  rw [show dupd g.1 found = some (dmerge g.1 found) from if_pos (by rw [sizeLine_eq]; omega)]
  simp only [bs]
  have ln := length_dmerge ff.dn dis
  have R : Rk s N s0 (dmerge g.1 found, isort (found.map (·.1))) (k + 1) := by
    refine ⟨r.dn.dmerge, up.mpr (.inr r.start), fun x w e => ?_, fun x => ?_, fun c hc x a e l => ?_, ?_, fun hne2 => ?_⟩
    · rcases up.mp e with e | e
      · obtain ⟨_, hi, b, q1, q2, q3⟩ := ff.key x w e
        exact ⟨hi, b, q1, q2, by omega⟩
      · obtain ⟨hi, b, q1, q2, q3⟩ := r.key x w e
        exact ⟨hi, b, q1, q2, by omega⟩
    · rw [isort_mem]
      constructor
      · intro hx
        obtain ⟨w, e⟩ := dget_some_of hx
        obtain ⟨_, hi, b, q1, q2, q3⟩ := ff.key x w e
        subst q1
        exact ⟨b, up.mpr (.inl e), q3⟩
      · rintro ⟨a, e, na⟩
        rcases up.mp e with e | e
        · exact mem_keys_of e
        · obtain ⟨hi, b, q1, q2, q3⟩ := r.key x _ e
          have := wS_inj q1
          subst this
          omega
    · rcases up.mp e with e | e
      · obtain ⟨_, hi, b, q1, q2, q3⟩ := ff.key x _ e
        have := wS_inj q1
        subst this
        have l' : wn a < k + 1 := l
        omega
      · by_cases na : wn a < k
        · obtain ⟨b, q, l2⟩ := r.cl c hc x a e na
          exact ⟨b, up.mpr (.inr q), l2⟩
        · have na2 : wn a = k := by
            have l' : wn a < k + 1 := l
            omega
          have hx : x ∈ g.2 := (r.rank x).mpr ⟨a, e, na2⟩
          rcases pf x hx a e c hc with q | ⟨b, q, l2⟩
          · obtain ⟨w, e2⟩ := dget_some_of q
            obtain ⟨hi, b, q1, q2, q3⟩ := r.key _ w e2
            subst q1
            refine ⟨b, up.mpr (.inr e2), ?_⟩
            have : wn b < wn (2 * a + c) := by rw [wn_c hc]; omega
            have := wn_lt this
            omega
          · exact ⟨b, up.mpr (.inl q), l2⟩
    · show k + 1 ≤ (dmerge g.1 found).length
      omega
    · show k + 1 + 1 ≤ (dmerge g.1 found).length
      have : found ≠ [] := fun z => hne2 (by subst z; exact isort_nil)
      have := List.length_pos_iff.mpr this
      omega
  refine ⟨_, rfl, R, ?_⟩
  have Rl := R.len
  show N - (dmerge g.1 found).length + (if isort (found.map (·.1)) = [] then 0 else 1) < _
  by_cases z : found = []
  · subst z
    have : isort (([] : List (Int × Str)).map (·.1)) = [] := isort_nil
    rw [if_pos this]
    omega
  · have := List.length_pos_iff.mpr z
    have Rl2 : (dmerge g.1 found).length ≤ N := Rl
    split <;> omega
/-- first_words: closed, total on what it reaches -/
theorem first_words_ok (h : Sd s N) (h0 : In N s0) {n : Nat} (hn : N + 10 ≤ n) : ∃ D, f_first_words n s s0 = some D ∧ ClD s s0 D ∧ DN D ∧ ∀ x w, dget D x = some w → In N x ∧ w.length ≤ 1000 := by
  have hs := h.small
  obtain ⟨z, e, ⟨k, r⟩, ez⟩ := whileM_inv (G := List (Int × Str) × List Int) (t := fun g => some !g.2.isEmpty)
    (f := fun g => (foldO (fun x_60 g_61 => (((((dget (bps s) x_60).bind fun y => some (("t" : Str), y)).bind fun x => some [x]).bind fun xs => some ((("r" : Str), Builtin.bitXor x_60 1) :: xs)).bind fun xs =>
              foldO (fun x_64 g_65 => ((dget g.1 x_60).bind fun x => scat x x_64.1).bind fun word_67 =>
                  ((if (!dhas g.1 x_64.2) = true then if (!dhas g_65 x_64.2) = true then some true else (dget g_65 x_64.2).bind fun y => some (slt word_67 y) else some false).bind fun d => if d = true then (dputL g_65 x_64.2 word_67).bind fun found_69 => some found_69 else some g_65).bind fun found_69 => some found_69) xs g_61).bind fun found_69 => some found_69) g.2 []).bind
        fun g_62 => (dupd g.1 g_62).bind fun told_71 => some (told_71, isort (g_62.map (·.1))))
    (fun g => ∃ k, Rk s N s0 g k) (fun g => (N - g.1.length) + (if g.2 = [] then 0 else 1)) (fun g ⟨k, r⟩ => by
      by_cases hne : g.2 = []
      · left; rw [hne]; rfl
      · right
        refine ⟨by cases q : g.2 with
          | nil => exact absurd q hne
          | cons a b => rfl, ?_⟩
        obtain ⟨g', e, R, l⟩ := rank_turn h r hne
        refine ⟨g', e, ⟨k + 1, R⟩, ?_⟩
        show _ < N - g.1.length + (if g.2 = [] then 0 else 1)
        rw [if_neg hne]
        exact l) n ([(s0, "")], [s0]) ⟨0, by
      have e0 : (wS 0) = ("" : Str) := Str.ext' (by rw [wS_cps, wl_zero]; decide +kernel)
      have get0 : ∀ x w, dget [(s0, ("" : Str))] x = some w ↔ x = s0 ∧ w = wS 0 := fun x w => by
        rw [dget_cons, dget_nil]
        by_cases q : s0 = x
        · subst q; simp only [if_true, e0, Option.some.injEq, true_and]; exact eq_comm
        · simp only [q, if_false]
          constructor
          · intro z; cases z
          · intro z; exact absurd z.1.symm q
      refine ⟨by unfold DN; simp, (get0 _ _).mpr ⟨rfl, rfl⟩, fun x w e => ?_, fun x => ?_, fun c hc x a e l => absurd l (Nat.not_lt_zero _), Nat.zero_le _, fun _ => Nat.le_refl _⟩
      · obtain ⟨q1, q2⟩ := (get0 _ _).mp e
        subst q1
        exact ⟨h0, 0, q2, ld_zero _ _ _, by rw [wn_zero]; exact Nat.le_refl _⟩
      · simp only [List.mem_singleton]
        constructor
        · intro q; subst q; exact ⟨0, (get0 _ _).mpr ⟨rfl, rfl⟩, wn_zero⟩
        · rintro ⟨a, e, _⟩; exact ((get0 _ _).mp e).1⟩ (by
      show N - 1 + _ < n
      split <;> omega)
  have hz : z.2 = [] := by
    have q := Option.some.inj ez
    cases w : z.2 with
    | nil => rfl
    | cons a b => rw [w] at q; cases q
  refine ⟨z.1, ?_, ⟨r.start, fun x w e => ?_, fun c hc x a e => ?_⟩, r.dn, fun x w e => ?_⟩
  · unfold f_first_words m_first_words
    simp only [bs, mps, h.behind]
    rw [e]
    rfl
  · obtain ⟨_, a, q1, q2, _⟩ := r.key x w e
    exact ⟨a, q1, q2⟩
  · obtain ⟨_, a', q1, q2, q3⟩ := r.key x _ e
    have := wS_inj q1
    subst this
    refine r.cl c hc x a e ?_
    rcases Nat.lt_or_ge (wn a) k with l | l
    · exact l
    · have : x ∈ z.2 := (r.rank x).mpr ⟨a, e, by omega⟩
      rw [hz] at this
      cases this
  · obtain ⟨hi, a, q1, q2, q3⟩ := r.key x w e
    refine ⟨hi, ?_⟩
    have := r.k1
    have := r.len
    rw [q1, wS_len]
    omega
end
end Mx
/-! M6: the first words by a queue. Own work. -/
namespace Mx
open PySem PySem.Spec L2 Rf K83
theorem rt_chars : (("rt" : Str).cps.toList.map fun c => (⟨#[c]⟩ : Str)) = [ltr 1, ltr 2] := by decide +kernel
section
variable {s : List (List Int)} {N : Nat} {s0 : Int}
theorem stp_get (h : Sd s N) {x : Int} (hx : In N x) {c : Nat} (hc : c12 c) : ((dget (Mx.stp s) (ltr c)).bind fun d => dget d x) = some (ch s c x) := by
  rcases hc with e | e
  · subst e
    rw [show ltr 1 = ("r" : Str) from rfl, dget_stp_r, bs, h.getR hx]
    rfl
  · subst e
    rw [show ltr 2 = ("t" : Str) from rfl, dget_stp_t, bs, (h.get hx).1]
    rfl
structure Qu (s : List (List Int)) (N : Nat) (s0 : Int) (found : List (Int × Str)) (todo : List Int) : Prop where
  dn : DN found
  start : dget found s0 = some (wS 0)
  key : ∀ x w, dget found x = some w → In N x ∧ ∃ a, w = wS a ∧ ld (B s) tw s0 a = x ∧ wn a < found.length
  mem : ∀ x, x ∈ todo ↔ x ∈ found.map (·.1)
  len : todo.length = found.length
  asc : todo.Pairwise fun x y => ∀ a b, dget found x = some (wS a) → dget found y = some (wS b) → a < b
theorem Qu.le {found : List (Int × Str)} {todo : List Int} (q : Qu s N s0 found todo) : found.length ≤ N := keys_le q.dn fun x hx => by
  obtain ⟨w, e⟩ := dget_some_of hx
  exact (q.key x w e).1
def ext (d e : List (Int × Str)) : Prop := ∀ y w, dget d y = some w → dget e y = some w
theorem queue_step (h : Sd s N) {g : List (Int × Str) × List Int} (q : Qu s N s0 g.1 g.2) {x : Int} {a c : Nat} (hc : c12 c) (ea : dget g.1 x = some (wS a)) (bd : ∀ y b, dget g.1 y = some (wS b) → b < 2 * a + c) :
    ∃ g', (((dget (stp s) (ltr c)).bind fun d => dget d x).bind fun there_530 => (if (!dhas g.1 there_530) = true then (((dget g.1 x).bind fun x => scat x (ltr c)).bind fun x => dputL g.1 there_530 x).bind fun found_532 => (Option.map (fun x => x.snd) ((lapp g.2 (there_530, ())).bind fun z => some (z.fst, z.snd))).bind fun s_536 => some (found_532, s_536) else some (g.1, g.2)).bind fun b_531 => some (b_531.fst, b_531.snd)) = some g' ∧
      Qu s N s0 g'.1 g'.2 ∧ ext g.1 g'.1 ∧ (∃ m, g'.2 = g.2 ++ m) ∧ (∃ b, dget g'.1 (ch s c x) = some (wS b) ∧ b ≤ 2 * a + c) ∧ ∀ y b, dget g'.1 y = some (wS b) → b < 2 * a + c + 1 := by
  obtain ⟨hi, a', ea', la, na⟩ := q.key x _ ea
  have := wS_inj ea'
  subst this
  have hs := h.small
  have hle := q.le
  rw [stp_get h hi hc, bs, ea, bs, scat_eq (by rw [wS_len, ltr_len, sizeLine_eq]; omega), wS_c hc, bs]
  by_cases t : ch s c x ∈ g.1.map (·.1)
  · have t2 : dhas g.1 (ch s c x) = true := dhas_iff.mpr t
    rw [t2]
    obtain ⟨w, e⟩ := dget_some_of t
    obtain ⟨_, b, rfl, _⟩ := q.key _ w e
    exact ⟨g, rfl, q, fun _ _ e => e, ⟨[], by simp⟩, ⟨b, e, Nat.le_of_lt (bd _ b e)⟩, fun y b e => Nat.lt_succ_of_lt (bd y b e)⟩
  · have t2 : dhas g.1 (ch s c x) = false := dhas_false.mpr t
    rw [t2, dputL_eq (by rw [sizeLine_eq]; omega), bs, lapp_eq (by rw [q.len, sizeLine_eq]; omega)]
    have gd : ∀ {y : Int} {w : Str}, dget (dput g.1 (ch s c x) (wS (2 * a + c))) y = some w ↔ (y = ch s c x ∧ w = wS (2 * a + c)) ∨ dget g.1 y = some w := fun {y w} => by
      rw [dget_dput]
      by_cases z : ch s c x = y
      · subst z
        rw [if_pos rfl]
        have : dget g.1 (ch s c x) = none := dget_none.mpr t
        rw [this]
        simp [eq_comm]
      · rw [if_neg z]
        constructor
        · exact .inr
        · rintro (⟨z2, _⟩ | z2)
          · exact absurd z2.symm z
          · exact z2
    have ln := length_dput_new (x := wS (2 * a + c)) t
    refine ⟨(dput g.1 (ch s c x) (wS (2 * a + c)), g.2 ++ [ch s c x]), rfl, ⟨q.dn.dput _ _, gd.mpr (.inr q.start), fun y w e => ?_, fun y => ?_, ?_, ?_⟩, fun y w e => gd.mpr (.inr e), ⟨_, rfl⟩, ⟨_, gd.mpr (.inl ⟨rfl, rfl⟩), Nat.le_refl _⟩, fun y b e => ?_⟩
    · rcases gd.mp e with ⟨e1, e2⟩ | e
      · subst e1
        refine ⟨h.ch hi c, _, e2, by rw [ld_c hc, la], ?_⟩
        rw [wn_c hc]
        show _ < (dput g.1 (ch s c x) (wS (2 * a + c))).length
        omega
      · obtain ⟨z1, b, z2, z3, z4⟩ := q.key y w e
        refine ⟨z1, b, z2, z3, ?_⟩
        show _ < (dput g.1 (ch s c x) (wS (2 * a + c))).length
        omega
    · show y ∈ g.2 ++ [ch s c x] ↔ y ∈ (dput g.1 (ch s c x) (wS (2 * a + c))).map (·.1)
      rw [mem_keys_dput, List.mem_append, List.mem_singleton, q.mem]
      exact Or.comm
    · show (g.2 ++ [ch s c x]).length = (dput g.1 (ch s c x) (wS (2 * a + c))).length
      rw [ln, List.length_append, q.len]; rfl
    · show (g.2 ++ [ch s c x]).Pairwise _
      rw [List.pairwise_append]
      have old : ∀ {y : Int} {b : Nat}, y ∈ g.2 → dget (dput g.1 (ch s c x) (wS (2 * a + c))) y = some (wS b) → dget g.1 y = some (wS b) := fun {y b} hy e => by
        rcases gd.mp e with ⟨e1, _⟩ | e
        · subst e1; exact absurd ((q.mem _).mp hy) t
        · exact e
      refine ⟨?_, by simp, fun y hy z hz a1 b1 e1 e2 => ?_⟩
      · refine q.asc.imp_of_mem fun {y z} hy hz r a1 b1 e1 e2 => r a1 b1 (old hy e1) (old hz e2)
      · rw [List.mem_singleton] at hz
        subst hz
        rcases gd.mp e2 with ⟨_, e3⟩ | e3
        · have := wS_inj e3
          subst this
          exact bd y a1 (old hy e1)
        · exact absurd (mem_keys_of e3) t
    · rcases gd.mp e with ⟨_, e2⟩ | e
      · have := wS_inj e2
        subst this
        exact Nat.lt_succ_self _
      · exact Nat.lt_succ_of_lt (bd y b e)
structure Qi (s : List (List Int)) (N : Nat) (s0 : Int) (g : List (Int × Str) × List Int × Int) (i : Nat) : Prop where
  at_ : g.2.2 = (i : Int)
  qu : Qu s N s0 g.1 g.2.1
  le : i ≤ g.2.1.length
  cl : ∀ j x, j < i → g.2.1[j]? = some x → ∀ c, c12 c → ∀ a, dget g.1 x = some (wS a) → ∃ b, dget g.1 (ch s c x) = some (wS b) ∧ b ≤ 2 * a + c
  bd : ∀ x, g.2.1[i]? = some x → ∀ a, dget g.1 x = some (wS a) → ∀ y b, dget g.1 y = some (wS b) → b < 2 * a + 1
theorem firsts_ok (h : Sd s N) (h0 : In N s0) {n : Nat} (hn : N + 10 ≤ n) : ∃ D, f__law_firsts n (stp s) s0 = some D ∧ ClD s s0 D ∧ ∀ x w, dget D x = some w → In N x ∧ w.length ≤ 1000 := by
  have hs := h.small
  have e0 : (wS 0) = ("" : Str) := Str.ext' (by rw [wS_cps, wl_zero]; decide +kernel)
  have get0 : ∀ x w, dget [(s0, ("" : Str))] x = some w ↔ x = s0 ∧ w = wS 0 := fun x w => by
    rw [dget_cons, dget_nil]
    by_cases q : s0 = x
    · subst q; simp only [if_true, e0, Option.some.injEq, true_and]; exact eq_comm
    · simp only [q, if_false]
      constructor
      · intro z; cases z
      · intro z; exact absurd z.1.symm q
  obtain ⟨z, e, ⟨i, r⟩, ez⟩ := whileM_inv (G := List (Int × Str) × List Int × Int) (t := fun g => some (decide (g.2.2 < (g.2.1.length : Int))))
    (f := fun g_523 => (atI g_523.2.1 g_523.2.2).bind fun here_525 => (foldO (fun x_527 g_528 => ((dget (stp s) x_527).bind fun d => dget d here_525).bind fun there_530 => (if (!dhas g_528.1 there_530) = true then (((dget g_528.1 here_525).bind fun x => scat x x_527).bind fun x => dputL g_528.1 there_530 x).bind fun found_532 => (Option.map (fun x => x.snd) ((lapp g_528.2 (there_530, ())).bind fun z => some (z.fst, z.snd))).bind fun s_536 => some (found_532, s_536) else some (g_528.1, g_528.2)).bind fun b_531 => some (b_531.fst, b_531.snd))
        (("rt" : Str).cps.toList.map fun c => (⟨#[c]⟩ : Str)) (g_523.1, g_523.2.1)).bind fun g_529 => some (g_529.1, g_529.2, g_523.2.2 + 1))
    (fun g => ∃ i, Qi s N s0 g i) (fun g => N - g.2.2.toNat) (fun g ⟨i, r⟩ => by
      have hl := r.qu.le
      have hlen := r.qu.len
      by_cases q : i < g.2.1.length
      · right
        refine ⟨by rw [r.at_]; simp only [Option.some.injEq, decide_eq_true_eq]; omega, ?_⟩
        rw [r.at_, atI_nat q, bs, rt_chars]
        have hx : g.2.1[i] ∈ g.2.1 := List.getElem_mem q
        have gx : g.2.1[i]? = some g.2.1[i] := List.getElem?_eq_getElem q
        generalize g.2.1[i] = x at hx gx
        obtain ⟨w, ew⟩ := dget_some_of ((r.qu.mem x).mp hx)
        obtain ⟨_, a, rfl, la, na⟩ := r.qu.key x w ew
        obtain ⟨g1, e1, q1, x1, ⟨m1, t1⟩, c1, b1⟩ := queue_step h (g := (g.1, g.2.1)) r.qu (c := 1) (.inl rfl) ew (r.bd x gx a ew)
        obtain ⟨g2, e2, q2, x2, ⟨m2, t2⟩, c2, b2⟩ := queue_step h q1 (c := 2) (.inr rfl) (x1 x _ ew) (b1)
        have t12 : g2.2 = g.2.1 ++ (m1 ++ m2) := by rw [t2, t1, List.append_assoc]
        refine ⟨(g2.1, g2.2, (i : Int) + 1), ?_, ⟨i + 1, by simp, q2, ?_, fun j y hj ey c hc a' ea' => ?_, fun y ey a' ea' y' b' eb' => ?_⟩, ?_⟩
        · simp only [foldO]
          rw [e1, bs, e2]
          rfl
        · show i + 1 ≤ g2.2.length
          rw [t12, List.length_append]; omega
        · have ey2 : g.2.1[j]? = some y := by
            have : g2.2[j]? = some y := ey
            rw [t12, List.getElem?_append_left (by omega)] at this
            exact this
          have hy : y ∈ g.2.1 := List.mem_of_getElem? ey2
          obtain ⟨w, ew'⟩ := dget_some_of ((r.qu.mem y).mp hy)
          have ew2 := x2 _ _ (x1 _ _ ew')
          have : w = wS a' := Option.some.inj (ew2.symm.trans ea')
          subst this
          by_cases ji : j < i
          · obtain ⟨b, eb, lb⟩ := r.cl j y ji ey2 c hc a' ew'
            exact ⟨b, x2 _ _ (x1 _ _ eb), lb⟩
          · have ji2 : j = i := by omega
            subst ji2
            rw [gx] at ey2
            have := Option.some.inj ey2
            subst this
            have := wS_inj (Option.some.inj (ew.symm.trans ew'))
            subst this
            rcases hc with hc | hc
            · subst hc
              obtain ⟨b, eb, lb⟩ := c1
              exact ⟨b, x2 _ _ eb, lb⟩
            · subst hc; exact c2
        · -- the next one is greater
          have ey2 : g2.2[i + 1]? = some y := ey
          have gx2 : g2.2[i]? = some x := by rw [t12, List.getElem?_append_left q]; exact gx
          have ew2 := x2 _ _ (x1 _ _ ew)
          obtain ⟨hi1, ei1⟩ := List.getElem?_eq_some_iff.mp gx2
          obtain ⟨hi2, ei2⟩ := List.getElem?_eq_some_iff.mp ey2
          have := List.pairwise_iff_getElem.mp q2.asc i (i + 1) hi1 hi2 (by omega) a a' (by rw [ei1]; exact ew2) (by rw [ei2]; exact ea')
          have := b2 y' b' eb'
          omega
        · show N - ((i : Int) + 1).toNat < N - ((i : Int)).toNat
          omega
      · left
        rw [r.at_]
        simp only [Option.some.injEq, decide_eq_false_iff_not]
        omega) n ([(s0, "")], [s0], 0) ⟨0, ⟨rfl, ⟨by unfold DN; simp, (get0 _ _).mpr ⟨rfl, rfl⟩, fun x w e => by
          obtain ⟨q1, q2⟩ := (get0 _ _).mp e
          subst q1
          exact ⟨h0, 0, q2, ld_zero _ _ _, by rw [wn_zero]; exact Nat.one_pos⟩, fun x => by simp, rfl, by simp⟩, Nat.zero_le _, fun j x hj => absurd hj (Nat.not_lt_zero _), fun x ex a ea y b eb => by
            have := wS_inj ((get0 _ _).mp eb).2
            omega⟩⟩ (by
      show N - 0 < n
      omega)
  have hz : z.2.1.length ≤ i := by
    have q := Option.some.inj ez
    rw [r.at_] at q
    simp only [decide_eq_false_iff_not] at q
    omega
  refine ⟨z.1, ?_, ⟨r.qu.start, fun x w e => ?_, fun c hc x a e => ?_⟩, fun x w e => ?_⟩
  · unfold f__law_firsts m__law_firsts
    simp only [bs, mps]
    rw [e]
    rfl
  · obtain ⟨_, a, q1, q2, _⟩ := r.qu.key x w e
    exact ⟨a, q1, q2⟩
  · have hx : x ∈ z.2.1 := (r.qu.mem x).mpr (mem_keys_of e)
    obtain ⟨j, ej⟩ := List.mem_iff_getElem?.mp hx
    have hj := (List.getElem?_eq_some_iff.mp ej).1
    exact r.cl j x (by omega) ej c hc a e
  · obtain ⟨hi, a, q1, q2, q3⟩ := r.qu.key x w e
    refine ⟨hi, ?_⟩
    have := r.qu.le
    rw [q1, wS_len]
    omega
end
end Mx
/-! M7: comparing, all words, plain words. Own work. -/
namespace Mx
open PySem PySem.Spec L2 Rf K83
section
variable {ι G α β γ ρ τ : Type}
theorem bmap (x : Option α) (f : α → β) (g : β → Option γ) : (Option.map f x).bind g = x.bind fun a => g (f a) := by cases x <;> rfl
theorem mapb (x : Option α) (f : α → Option β) (g : β → γ) : Option.map g (x.bind f) = x.bind fun a => Option.map g (f a) := by cases x <;> rfl
theorem bass (x : Option α) (f : α → Option β) (g : β → Option γ) : (x.bind f).bind g = x.bind fun a => (f a).bind g := by cases x <;> rfl
theorem fbn {β' : Type} (b : β) (k : β → Option (Fl β' γ ρ)) : (Fl.nx b : Fl β γ ρ).bind k = k b := congrArg id (show (Fl.nx b : Fl β γ ρ).bind k = k b from rfl)
theorem fbr {β' : Type} (r : ρ) (k : β → Option (Fl β' γ ρ)) : (Fl.rt r : Fl β γ ρ).bind k = some (.rt r) := congrArg id (show (Fl.rt r : Fl β γ ρ).bind k = some (.rt r) from rfl)
theorem frr (r : ρ) : (Fl.rt r : Fl β γ ρ).ret = some r := congrArg id (show (Fl.rt r : Fl β γ ρ).ret = some r from rfl)
theorem fon (b : β) : (Fl.nx b : Fl β Empty ρ).ofE = (Fl.nx b : Fl β γ ρ) := congrArg id (show (Fl.nx b : Fl β Empty ρ).ofE = (Fl.nx b : Fl β γ ρ) from rfl)
theorem whileX_ex {t : G → Option Bool} {f : G → Option (Fl G G ρ)} {K : Fl G γ ρ → Option τ} {Q : τ → Prop} (I : G → Prop) (μ : G → Nat) {n : Nat} {g : G}
    (h : ∀ g, I g → t g = some false ∨ (t g = some true ∧ ∃ g', f g = some (.nx g') ∧ I g' ∧ μ g' < μ g)) (h0 : I g) (hn : μ g < n) (hk : ∀ z, I z → t z = some false → ∃ r, K (.nx z) = some r ∧ Q r) : ∃ r, (whileX t f n g).bind K = some r ∧ Q r := by
  induction n generalizing g with
  | zero => omega
  | succ n ih =>
    rcases h g h0 with e | ⟨e, g', e2, i2, l2⟩
    · obtain ⟨r, e3, q⟩ := hk g h0 e
      exact ⟨r, by rw [whileX, e, bs]; simp only [Bool.false_eq_true, if_false]; rw [bs]; exact e3, q⟩
    · obtain ⟨r, e3, q⟩ := ih i2 (by omega)
      exact ⟨r, by rw [whileX, e, bs, if_pos rfl, e2, bs]; exact e3, q⟩
theorem foldX_ex {f : ι → G → Option (Fl G G ρ)} {K : Fl G γ ρ → Option τ} {Q : τ → Prop} (P : List ι → G → Prop) {xs : List ι} {g : G} (h0 : P [] g) (hs : ∀ pre x post g, xs = pre ++ x :: post → P pre g → ∃ g', f x g = some (.nx g') ∧ P (pre ++ [x]) g') (hk : ∀ z, P xs z → ∃ r, K (.nx z) = some r ∧ Q r) : ∃ r, (foldX f xs g).bind K = some r ∧ Q r := by
  obtain ⟨z, e, p⟩ := foldX_nx (γ := γ) P h0 hs
  obtain ⟨r, e2, q⟩ := hk z p
  exact ⟨r, by rw [e, bs]; exact e2, q⟩
theorem foldO_ex {f : ι → G → Option G} {K : G → Option τ} {Q : τ → Prop} (P : List ι → G → Prop) {xs : List ι} {g : G} (h0 : P [] g) (hs : ∀ pre x post g, xs = pre ++ x :: post → P pre g → ∃ g', f x g = some g' ∧ P (pre ++ [x]) g') (hk : ∀ z, P xs z → ∃ r, K z = some r ∧ Q r) : ∃ r, (foldO f xs g).bind K = some r ∧ Q r := by
  obtain ⟨z, e, p⟩ := foldO_inv P h0 hs
  obtain ⟨r, e2, q⟩ := hk z p
  exact ⟨r, by rw [e, bs]; exact e2, q⟩
theorem whileM_ex {t : G → Option Bool} {f : G → Option G} {K : G → Option τ} {Q : τ → Prop} (I : G → Prop) (μ : G → Nat) {n : Nat} {g : G}
    (h : ∀ g, I g → t g = some false ∨ (t g = some true ∧ ∃ g', f g = some g' ∧ I g' ∧ μ g' < μ g)) (h0 : I g) (hn : μ g < n) (hk : ∀ z, I z → t z = some false → ∃ r, K z = some r ∧ Q r) : ∃ r, (whileM t f n g).bind K = some r ∧ Q r := by
  obtain ⟨z, e, i, ez⟩ := whileM_inv I μ h n g h0 hn
  obtain ⟨r, e2, q⟩ := hk z i ez
  exact ⟨r, by rw [e, bs]; exact e2, q⟩
theorem compO_ex {f : ι → Option α} {K : List α → Option τ} {Q : τ → Prop} (g : ι → α) {xs : List ι} (hf : ∀ x, x ∈ xs → f x = some (g x)) (hk : ∃ r, K (xs.map g) = some r ∧ Q r) : ∃ r, (compO (fun _ => some true) f xs).bind K = some r ∧ Q r := by
  rw [compO_map g hf, bs]
  exact hk
end

/-! ### the law's own comparing -/
mutual
def sz : Dat → Nat
  | .t l => 1 + szs l
  | _ => 1
def szs : List Dat → Nat
  | [] => 0
  | d :: l => sz d + szs l
end
theorem sz_pos (d : Dat) : 1 ≤ sz d := by cases d <;> simp [sz]
def szp (r : List (Dat × Dat)) : Nat := (r.map fun p => sz p.1).sum
theorem szp_app (a b : List (Dat × Dat)) : szp (a ++ b) = szp a + szp b := by unfold szp; simp
theorem szp_twin (l : List Dat) : szp (l.map fun d => (d, d)) = szs l := by
  induction l with
  | nil => rfl
  | cons d l ih =>
    show sz d + szp (l.map fun d => (d, d)) = _
    rw [ih]; rfl
theorem szp_len (r : List (Dat × Dat)) : r.length ≤ szp r := by
  induction r with
  | nil => exact Nat.zero_le _
  | cons p r ih =>
    show r.length + 1 ≤ sz p.1 + szp r
    have := sz_pos p.1
    omega
theorem kTt (l : List Dat) : isK "tuple" (.t l) = true := by show (kitB "tuple" "tuple").getD false = true; decide +kernel
theorem kTi (i : Int) : isK "tuple" (.i i) = false := by show (kitB "int" "tuple").getD false = false; decide +kernel
theorem kTb (i : Bool) : isK "tuple" (.b i) = false := by show (kitB "bool" "tuple").getD false = false; decide +kernel
theorem kTs (i : Str) : isK "tuple" (.s i) = false := by show (kitB "str" "tuple").getD false = false; decide +kernel
theorem kTn : isK "tuple" .n = false := by show (kitB "NoneType" "tuple").getD false = false; decide +kernel
theorem kLi (i : Int) : isK "list" (.i i) = false := by show (kitB "int" "list").getD false = false; decide +kernel
theorem kLb (i : Bool) : isK "list" (.b i) = false := by show (kitB "bool" "list").getD false = false; decide +kernel
theorem kLs (i : Str) : isK "list" (.s i) = false := by show (kitB "str" "list").getD false = false; decide +kernel
theorem kLn : isK "list" .n = false := by show (kitB "NoneType" "list").getD false = false; decide +kernel
theorem kBi (i : Int) : isK "bool" (.i i) = false := by show (kitB "int" "bool").getD false = false; decide +kernel
theorem kBb (i : Bool) : isK "bool" (.b i) = true := by show (kitB "bool" "bool").getD false = true; decide +kernel
theorem kBs (i : Str) : isK "bool" (.s i) = false := by show (kitB "str" "bool").getD false = false; decide +kernel
theorem kIi (i : Int) : isK "int" (.i i) = true := by show (kitB "int" "int").getD false = true; decide +kernel
theorem kIs (i : Str) : isK "int" (.s i) = false := by show (kitB "str" "int").getD false = false; decide +kernel
theorem kSs (i : Str) : isK "str" (.s i) = true := by show (kitB "str" "str").getD false = true; decide +kernel
theorem same_ok {n : Nat} {d : Dat} (h : sz d ≤ 1000000) (hn : sz d < n) : f__law_same n d d = some true := by
  unfold f__law_same m__law_same
  simp only [bs, mps]
  suffices H : ∃ r, _ = some r ∧ r = true by
    obtain ⟨r, e, q⟩ := H
    rw [q] at e
    exact e
  rw [bass]
  refine whileX_ex (fun r : List (Dat × Dat) => (∀ p, p ∈ r → p.1 = p.2) ∧ szp r ≤ 1000000) szp (fun g ⟨h1, h2⟩ => ?_) ⟨fun p hp => ?_, ?_⟩ ?_ fun z _ _ => ⟨true, rfl, rfl⟩
  · by_cases hne : g = []
    · left; subst hne; rfl
    · right
      refine ⟨by simp only [Option.some.injEq, decide_eq_true_eq]; have := List.length_pos_iff.mpr hne; omega, ?_⟩
      obtain ⟨p, r, e, e2⟩ := lpop_some hne
      subst e
      obtain ⟨d, d'⟩ := p
      have hd : d = d' := h1 (d, d') (by simp)
      subst hd
      have hr : ∀ p, p ∈ r → p.1 = p.2 := fun p hp => h1 p (by simp [hp])
      have hsz : szp (r ++ [(d, d)]) = szp r + sz d := by rw [szp_app]; rfl
      rw [hsz] at h2 ⊢
      have hp := sz_pos d
      rw [e2]
      simp only [bs]
      cases d with
      | t l =>
        have hl : l.length ≤ szs l := by
          have := szp_len (l.map fun d => (d, d))
          rw [szp_twin, List.length_map] at this
          exact this
        have h3 : szp r + (1 + szs l) ≤ 1000000 := h2
        simp only [kTt, if_true, xlen, xat, bs, Bool.not_true, Bool.false_eq_true, if_false, ne_eq, not_true_eq_false, decide_false, Fl.bind]
        rw [rng1_eq (by omega) (by omega)]
        simp only [bs]
        rw [compO_map (fun x : Int => ((l[x.toNat]?).getD .n, (l[x.toNat]?).getD .n))]
        · have hm : (rngL 0 (l.length : Int)).map (fun x : Int => ((l[x.toNat]?).getD .n, (l[x.toNat]?).getD .n)) = l.map fun d => (d, d) := by
            rw [rngL_eq, List.map_map]
            apply List.ext_getElem
            · simp
            · intro i h1 h2
              have : i < l.length := by simpa using h1
              simp [this]
          rw [hm]
          simp only [bs]
          rw [fits_eq (by rw [sizeLine_eq, List.length_map]; omega)]
          simp only [bs]
          have hlr := szp_len r
          rw [show lcat r (l.map fun d => (d, d)) = some (r ++ l.map fun d => (d, d)) from if_pos (by rw [sizeLine_eq, List.length_map]; omega)]
          refine ⟨_, rfl, ⟨fun p hp => ?_, ?_⟩, ?_⟩
          · rcases List.mem_append.mp hp with q | q
            · exact hr p q
            · obtain ⟨d, _, e⟩ := List.mem_map.mp q
              rw [← e]
          · rw [szp_app, szp_twin]; omega
          · rw [szp_app, szp_twin]
            show _ < szp r + (1 + szs l)
            omega
        · intro x hx
          obtain ⟨h4, h5⟩ := mem_rngL.mp hx
          obtain ⟨i, rfl⟩ := Int.eq_ofNat_of_zero_le h4
          have hi : i < l.length := by omega
          rw [atI_nat hi]
          simp [hi]
      | i v =>
        simp only [kTi, kLi, kBi, kIi, xnone, xne, if_true, bs, Bool.not_true, Bool.false_eq_true, if_false, ne_eq, not_true_eq_false, decide_false, Fl.bind]
        exact ⟨r, rfl, ⟨hr, by omega⟩, by omega⟩
      | b v =>
        simp only [kTb, kLb, kBb, xnone, xne, if_true, bs, Bool.not_true, Bool.false_eq_true, if_false, ne_eq, not_true_eq_false, decide_false, Fl.bind]
        exact ⟨r, rfl, ⟨hr, by omega⟩, by omega⟩
      | s v =>
        simp only [kTs, kLs, kBs, kIs, kSs, xnone, xne, if_true, bs, Bool.not_true, Bool.false_eq_true, if_false, ne_eq, not_true_eq_false, decide_false, Fl.bind]
        exact ⟨r, rfl, ⟨hr, by omega⟩, by omega⟩
      | n =>
        simp only [kTn, kLn, xnone, if_true, bs, Bool.not_true, Bool.false_eq_true, if_false, Fl.bind]
        exact ⟨r, rfl, ⟨hr, by omega⟩, by omega⟩
  · rw [List.mem_singleton] at hp
    rw [hp]
  · show sz d + 0 ≤ _
    omega
  · show sz d + 0 < n
    omega
theorem same_I {n : Nat} (hn : 5000 ≤ n) (x : Int) : f__law_same n (Dt.enc (A := isI) x) (Dt.enc (A := isI) x) = some true := same_ok (by show 1 ≤ _; omega) (by show 1 < _; omega)
theorem same_B {n : Nat} (hn : 5000 ≤ n) (x : Bool) : f__law_same n (Dt.enc (A := isB) x) (Dt.enc (A := isB) x) = some true := same_ok (by show 1 ≤ _; omega) (by show 1 < _; omega)
theorem same_S {n : Nat} (hn : 5000 ≤ n) (x : Str) : f__law_same n (Dt.enc (A := isS) x) (Dt.enc (A := isS) x) = some true := same_ok (by show 1 ≤ _; omega) (by show 1 < _; omega)
theorem same_T {n : Nat} (hn : 5000 ≤ n) (xs : List Int) (h : xs.length ≤ 1000) : f__law_same n (Dt.enc (A := isT isI) xs) (Dt.enc (A := isT isI) xs) = some true := by
  have : sz (Dt.enc (A := isT isI) xs) = 1 + xs.length := by
    show 1 + szs (xs.map Dat.i) = _
    congr 1
    clear h
    induction xs with
    | nil => rfl
    | cons x xs ih =>
      show 1 + szs (xs.map Dat.i) = _
      rw [ih]; simp; omega
  exact same_ok (by omega) (by omega)

/-! ### all words -/
def numL (l : List Nat) : Nat := l.foldl (fun a c => 2 * a + (if c = 114 then 1 else 2)) 0
theorem numL_app (l : List Nat) (c : Nat) : numL (l ++ [c]) = 2 * numL l + (if c = 114 then 1 else 2) := by unfold numL; rw [List.foldl_append]; rfl
theorem wl_numL : ∀ (k : Nat) (l : List Nat), l.length = k → rt l → wl (numL l) = l := by
  intro k
  induction k with
  | zero => intro l e _; rw [List.length_eq_zero_iff.mp e]; exact wl_zero
  | succ k ih =>
    intro l e h
    have hne : l ≠ [] := by intro q; rw [q] at e; cases e
    have hl := List.dropLast_concat_getLast hne
    have ih' := ih l.dropLast (by rw [List.length_dropLast, e]; rfl) fun c hc => h c ((List.dropLast_sublist l).subset hc)
    rcases h _ (List.getLast_mem hne) with q | q
    · rw [← hl, q, numL_app, if_pos rfl, wl_r, ih']
    · rw [← hl, q, numL_app, if_neg (by decide), wl_t, ih']
theorem wS_num {w : Str} (h : W w) : wS (numL w.cps.toList) = w := Str.ext' (by rw [wS_cps]; exact wl_numL _ _ rfl h)
def aw6 : Bool := match f__law_all_words 6 with
  | some L => decide (L.map (fun w => numL w.cps.toList) = List.range 127) && L.all fun w => w.cps.toList.all fun c => decide (c = 114) || decide (c = 116)
  | none => false
theorem aw6_ok : aw6 = true := by decide +kernel
theorem all_words : f__law_all_words 6 = some ((List.range 127).map wS) := by
  have h := aw6_ok
  unfold aw6 at h
  cases e : f__law_all_words 6 with
  | none => rw [e] at h; cases h
  | some L =>
    rw [e] at h
    simp only [Bool.and_eq_true, decide_eq_true_eq, List.all_eq_true, Bool.or_eq_true] at h
    obtain ⟨h1, h2⟩ := h
    rw [← h1, List.map_map]
    congr 1
    conv => lhs; rw [← List.map_id L]
    apply List.map_congr_left
    intro w hw
    exact (wS_num fun c hc => h2 w hw c hc).symm
end Mx
/-! M8: texts, drawn words, plain words. Own work. -/
namespace Mx
open PySem PySem.Spec L2 Rf K83
theorem nil_cps : ("" : Str).cps.toList = [] := by decide +kernel
theorem rr_cps : ("rr" : Str).cps.toList = [114, 114] := by decide +kernel
theorem tlen : ("t" : Str).cps.toList.length = 1 := by rw [cps_t]; rfl
theorem rlen : ("r" : Str).cps.toList.length = 1 := by rw [cps_r]; rfl
theorem rrlen : ("rr" : Str).cps.toList.length = 2 := by rw [rr_cps]; rfl
theorem join_cps : ∀ ys : List Str, (Txt.join "" ys).cps.toList = ys.flatMap (·.cps.toList) := by
  intro ys
  unfold Txt.join Builtin.Str.glued
  have key : ∀ (r : List Str) (a : Array Nat), (r.foldl (fun acc p => acc ++ ("" : Str).cps ++ p.cps) a).toList = a.toList ++ r.flatMap (·.cps.toList) := by
    intro r
    induction r with
    | nil => intro a; simp
    | cons x r ih =>
      intro a
      rw [List.foldl_cons, ih]
      have : (a ++ ("" : Str).cps ++ x.cps).toList = a.toList ++ x.cps.toList := by
        rw [Array.toList_append, Array.toList_append, nil_cps, List.append_nil]
      rw [this]
      simp
  show ((ys.drop 1).foldl (fun (acc : Array Nat) (p : Str) => acc ++ ("" : Str).cps ++ p.cps) (ys.headD Str.empty).cps).toList = _
  rw [key]
  cases ys with
  | nil => rfl
  | cons y r => simp
theorem flatMap_len (ys : List Str) : (ys.flatMap (·.cps.toList)).length = (ys.map (·.length)).sum := by
  induction ys with
  | nil => rfl
  | cons y r ih => simp [ih, Str.length]
theorem sjoin_ok {ys : List Str} (h : (ys.flatMap (·.cps.toList)).length ≤ 16777216) : ∃ z, sjoin "" ys = some z ∧ z.cps.toList = ys.flatMap (·.cps.toList) := by
  refine ⟨_, if_pos ?_, join_cps ys⟩
  rw [← flatMap_len, str_len, nil_cps]
  simpa using h
def one (c : Nat) : Str := ⟨#[c]⟩
theorem one_cps (c : Nat) : (one c).cps.toList = [c] := rfl
theorem ones (l : List Nat) : (l.map one).flatMap (·.cps.toList) = l := by
  induction l with
  | nil => rfl
  | cons c l ih => simp [one, ih]
theorem str_of {z : Str} {l : List Nat} (h : z.cps.toList = l) : z = ⟨l.toArray⟩ := Str.ext' (by rw [h])
theorem sjoin_ones {l : List Nat} (h : l.length ≤ 16777216) : sjoin "" (l.map one) = some ⟨l.toArray⟩ := by
  obtain ⟨z, e, ez⟩ := sjoin_ok (ys := l.map one) (by rw [ones]; exact h)
  rw [ones] at ez
  rw [e, str_of ez]

theorem sat_ok {w : Str} {i : Nat} (h : i < w.cps.toList.length) (hl : w.cps.toList.length ≤ 1000000) : sat w (i : Int) = some (one w.cps.toList[i]) := by
  unfold sat
  rw [if_pos (by rw [str_len, sizeLine_eq]; omega), atI_nat h]
  rfl
section
variable {ι α S : Type}
theorem compS_ok {f : ι → S → Option (α × S)} (P : S → Prop) (Qa : α → Prop) : ∀ {xs : List ι} {s : S}, (∀ x, x ∈ xs → ∀ s, P s → ∃ r, f x s = some r ∧ Qa r.1 ∧ P r.2) → P s → ∃ r, compS f xs s = some r ∧ r.1.length = xs.length ∧ (∀ a, a ∈ r.1 → Qa a) ∧ P r.2
  | [], s, _, p => ⟨([], s), rfl, rfl, fun a h => (List.not_mem_nil h).elim, p⟩
  | x :: xs, s, h, p => by
    obtain ⟨r, e, q, p1⟩ := h x (by simp) s p
    obtain ⟨r2, e2, l2, q2, p2⟩ := compS_ok P Qa (xs := xs) (fun y hy => h y (by simp [hy])) p1
    refine ⟨(r.1 :: r2.1, r2.2), by rw [compS, e, bs, e2]; rfl, by simp [l2], fun a ha => ?_, p2⟩
    rcases List.mem_cons.mp ha with z | z
    · rw [z]; exact q
    · exact q2 a z
end
/-! ### cuts -/
theorem scut_pre {w : Str} {i : Int} (h0 : 0 ≤ i) (hl : w.cps.toList.length ≤ 1000000) : ∃ z, scut w none (some i) = some z ∧ z.cps.toList = w.cps.toList.take i.toNat := by
  refine ⟨_, if_pos (by rw [str_len, sizeLine_eq]; omega), ?_⟩
  unfold cutS
  rw [HT.sIx_none]
  have : HT.sIx w.length w.length (some i) = min i.toNat w.length := by
    show (if i < 0 then _ else _) = _
    rw [if_neg (by omega)]
  rw [this]
  simp only [List.drop_zero, Nat.sub_zero, str_len]
  rcases Nat.le_total i.toNat w.cps.toList.length with q | q
  · rw [Nat.min_eq_left q]
  · rw [Nat.min_eq_right q, List.take_of_length_le (Nat.le_refl _), List.take_of_length_le q]
theorem scut_suf {w : Str} {i : Int} (h0 : 0 ≤ i) (hl : w.cps.toList.length ≤ 1000000) : ∃ z, scut w (some i) none = some z ∧ z.cps.toList = w.cps.toList.drop i.toNat := by
  refine ⟨_, if_pos (by rw [str_len, sizeLine_eq]; omega), ?_⟩
  unfold cutS
  rw [HT.sIx_none]
  have : HT.sIx w.length 0 (some i) = min i.toNat w.length := by
    show (if i < 0 then _ else _) = _
    rw [if_neg (by omega)]
  rw [this]
  simp only [str_len]
  show (List.take _ (List.drop _ _)) = _
  rcases Nat.le_total i.toNat w.cps.toList.length with q | q
  · rw [Nat.min_eq_left q, List.take_of_length_le]
    simp
  · rw [Nat.min_eq_right q, List.take_of_length_le (by simp), List.drop_eq_nil_of_le (Nat.le_refl _), List.drop_eq_nil_of_le q]
theorem scat_cps {x y : Str} (h : x.cps.toList.length + y.cps.toList.length ≤ 16777216) : ∃ z, scat x y = some z ∧ z.cps.toList = x.cps.toList ++ y.cps.toList :=
  ⟨_, scat_eq (by rw [str_len, str_len, sizeLine_eq]; exact h), str_app x y⟩
theorem srev_ok {w : Str} (hl : w.cps.toList.length ≤ 1000000) : ∃ z, srev w = some z ∧ z.cps.toList = w.cps.toList.reverse :=
  ⟨_, if_pos (by rw [str_len, sizeLine_eq]; omega), rfl⟩
theorem smul_ok {w : Str} {n : Int} (hn : n ≤ 1000000) (h0 : 0 ≤ n) (hl : w.cps.toList.length * n.toNat ≤ 16777216) : ∃ z, smul w n = some z ∧ z.cps.toList = (List.replicate n.toNat w.cps.toList).flatten := by
  refine ⟨_, if_pos ⟨?_, by rw [str_len, sizeLine_eq]; exact hl⟩, rfl⟩
  unfold smR
  simp only [Bool.and_eq_true, decide_eq_true_eq]
  omega
theorem slen_ok {w : Str} (hl : w.cps.toList.length ≤ 1000000) : slen w = some (w.cps.toList.length : Int) := by
  unfold slen
  rw [if_pos (by rw [str_len, sizeLine_eq]; omega), str_len]
theorem rt_app {l m : List Nat} (a : rt l) (b : rt m) : rt (l ++ m) := fun c h => (List.mem_append.mp h).elim (a c) (b c)
theorem rt_take {l : List Nat} (a : rt l) (n : Nat) : rt (l.take n) := fun c h => a c (List.mem_of_mem_take h)
theorem rt_drop {l : List Nat} (a : rt l) (n : Nat) : rt (l.drop n) := fun c h => a c (List.mem_of_mem_drop h)
theorem rt_rev {l : List Nat} (a : rt l) : rt l.reverse := fun c h => a c (by simpa using h)
theorem rt_rep {l : List Nat} (a : rt l) (n : Nat) : rt (List.replicate n l).flatten := fun c h => by
  obtain ⟨m, hm, hc⟩ := List.mem_flatten.mp h
  rw [(List.mem_replicate.mp hm).2] at hc
  exact a c hc
theorem rep_len (l : List Nat) (n : Nat) : (List.replicate n l).flatten.length = n * l.length := by
  induction n with
  | zero => simp
  | succ n ih => rw [List.replicate_succ, List.flatten_cons, List.length_append, ih, Nat.succ_mul]; omega
/-! ### a drawn word -/
theorem habit_tab {i k : Int} (h0 : 0 ≤ i) (h1 : i < 4) (k0 : 0 ≤ k) (k1 : k < 2 + if ([1, 2] : List Int).contains i = true then 1 else 0) : ∃ w, atI ([("rt" : Str), "rrt", "ttr", "rt"]) i = some w ∧ ∃ c, sat w k = some (one c) ∧ (c = 114 ∨ c = 116) := by
  have tab : ∀ i k : Nat, i < 4 → k < (if i = 1 ∨ i = 2 then 3 else 2) → (((atI ([("rt" : Str), "rrt", "ttr", "rt"]) (i : Int)).bind fun w => sat w (k : Int)).bind fun z => some (decide (z = one 114) || decide (z = one 116))) = some true := by
    intro i k hi hk
    have : i = 0 ∨ i = 1 ∨ i = 2 ∨ i = 3 := by omega
    rcases this with e | e | e | e <;> subst e <;> simp at hk <;> (first
      | (have : k = 0 ∨ k = 1 := by omega
         rcases this with e | e <;> subst e <;> decide +kernel)
      | (have : k = 0 ∨ k = 1 ∨ k = 2 := by omega
         rcases this with e | e | e <;> subst e <;> decide +kernel))
  obtain ⟨a, rfl⟩ := Int.eq_ofNat_of_zero_le h0
  obtain ⟨b, rfl⟩ := Int.eq_ofNat_of_zero_le k0
  have hb : b < (if a = 1 ∨ a = 2 then 3 else 2) := by
    have : a = 0 ∨ a = 1 ∨ a = 2 ∨ a = 3 := by omega
    rcases this with e | e | e | e <;> subst e <;> simp at k1 ⊢ <;> omega
  have t := tab a b (by omega) hb
  cases e : atI ([("rt" : Str), "rrt", "ttr", "rt"]) (a : Int) with
  | none => rw [e] at t; cases t
  | some w =>
    rw [e, bs] at t
    refine ⟨w, rfl, ?_⟩
    cases e2 : sat w (b : Int) with
    | none => rw [e2] at t; cases t
    | some z =>
      rw [e2, bs] at t
      have := Option.some.inj t
      simp only [Bool.or_eq_true, decide_eq_true_eq] at this
      rcases this with q | q
      · exact ⟨114, by rw [q], .inl rfl⟩
      · exact ⟨116, by rw [q], .inr rfl⟩
theorem ones_of : ∀ {ys : List Str}, (∀ y, y ∈ ys → ∃ c, y = one c ∧ (c = 114 ∨ c = 116)) → ∃ l, ys = l.map one ∧ rt l
  | [], _ => ⟨[], rfl, fun c h => (List.not_mem_nil h).elim⟩
  | y :: ys, h => by
    obtain ⟨c, e, q⟩ := h y (by simp)
    obtain ⟨l, e2, q2⟩ := ones_of (ys := ys) fun z hz => h z (by simp [hz])
    refine ⟨c :: l, by rw [e, e2]; rfl, fun d hd => ?_⟩
    rcases List.mem_cons.mp hd with z | z
    · rw [z]; exact q
    · exact q2 d z
theorem word_ok {n : Nat} {c : Cup} {m : Int} (hc : CupOk c) (m0 : 0 < m) (m1 : m ≤ 500) (hn : 100 ≤ n) :
    ∃ r : Str × Cup, f__law_word n c m = some r ∧ W r.1 ∧ r.1.cps.toList.length < 800 ∧ CupOk r.2 ∧ (m ≤ 12 → r.1.cps.toList.length ≤ 36) := by
  unfold f__law_word m__law_word
  simp only [bs, mps, bass, bmap, mapb]
  obtain ⟨a, e1, a0, a1, c1⟩ := sip_ok (n := n) hc (many := 4) (by decide) (by decide) hn
  rw [e1]; simp only [bs]
  obtain ⟨b, e2, b0, b1, c2⟩ := sip_ok (n := n) c1 (many := m) m0 (by omega) hn
  rw [e2]; simp only [bs]
  rw [rng1_eq b0 (by omega)]; simp only [bs]
  obtain ⟨r, e3, l3, q3, c3⟩ := compS_ok (f := fun x_554 s_571 => (atI ([("rt" : Str), "rrt", "ttr", "rt"]) a.1).bind fun a_3 => (f__law_sip n s_571 (2 + if ([1, 2] : List Int).contains a.1 = true then 1 else 0)).bind fun y_575 => (sat a_3 y_575.1).bind fun z => some (z, y_575.2)) CupOk (fun z => ∃ c, z = one c ∧ (c = 114 ∨ c = 116)) (xs := rngL 0 b.1) (s := b.2) (fun x _ s hs => by
    obtain ⟨y, e4, y0, y1, c4⟩ := sip_ok (n := n) hs (many := 2 + if ([1, 2] : List Int).contains a.1 = true then 1 else 0) (by split <;> decide) (by split <;> decide) hn
    obtain ⟨w, e5, d, e6, q6⟩ := habit_tab a0 a1 y0 y1
    rw [e5, bs, e4, bs, e6, bs]
    exact ⟨_, rfl, ⟨d, rfl, q6⟩, c4⟩) c2
  rw [e3]; simp only [bs]
  rw [rngL_length] at l3
  rw [fits_eq (by rw [sizeLine_eq]; omega)]; simp only [bs]
  obtain ⟨l, el, rl⟩ := ones_of q3
  have ll : l.length = r.1.length := by rw [el, List.length_map]
  rw [el, sjoin_ones (by omega)]; simp only [bs]
  rw [slen_ok (by show l.length ≤ _; omega)]; simp only [bs]
  have plain : ∃ r_1 : Str × Cup, some ((⟨l.toArray⟩ : Str), r.2) = some r_1 ∧ W r_1.1 ∧ r_1.1.cps.toList.length < 800 ∧ CupOk r_1.2 ∧ (m ≤ 12 → r_1.1.cps.toList.length ≤ 36) := by
    refine ⟨_, rfl, rl, ?_, c3, fun _ => ?_⟩
    · show l.length < 800; omega
    · show l.length ≤ 36; omega
  by_cases h3 : a.1 = 3
  · simp only [h3, decide_true, if_true, bs]
    by_cases h9 : (l.length : Int) < 90
    · obtain ⟨y, e4, y0, y1, c4⟩ := sip_ok (n := n) c3 (many := 3) (by decide) (by decide) hn
      obtain ⟨z, e5, ez⟩ := smul_ok (w := ⟨l.toArray⟩) (n := 1 + y.1) (by omega) (by omega) (by
        show l.length * (1 + y.1).toNat ≤ _
        have : l.length * (1 + y.1).toNat ≤ 90 * 3 := Nat.mul_le_mul (by omega) (by omega)
        omega)
      have hz : z.cps.toList.length ≤ 3 * l.length := by
        rw [ez, rep_len]
        exact Nat.mul_le_mul_right _ (by omega)
      rw [show decide (((⟨l.toArray⟩ : Str).cps.toList.length : Int) < 90) = true from decide_eq_true h9]
      simp only [if_true, e4, bs, e5]
      refine ⟨_, rfl, ?_, ?_, c4, fun h12 => ?_⟩
      · show rt z.cps.toList
        rw [ez]
        exact rt_rep rl _
      · show z.cps.toList.length < 800; omega
      · show z.cps.toList.length ≤ 36; omega
    · rw [show decide (((⟨l.toArray⟩ : Str).cps.toList.length : Int) < 90) = false from decide_eq_false h9]
      simp only [Bool.false_eq_true, if_false, bs]
      exact plain
  · simp only [h3, decide_false, Bool.false_eq_true, if_false, bs]
    exact plain
/-! ### plain words -/
def plStep (st : List Nat) (c : Nat) : List Nat := if c = 114 ∧ st.getLast? = some 114 then st.dropLast else st ++ [c]
def plL (l : List Nat) : List Nat := l.foldl plStep []
theorem plStep_len (st : List Nat) (c : Nat) : (plStep st c).length ≤ st.length + 1 := by
  unfold plStep
  split
  · rw [List.length_dropLast]; omega
  · simp
theorem plFold_len : ∀ (l st : List Nat), (l.foldl plStep st).length ≤ st.length + l.length
  | [], st => by simp
  | c :: l, st => by
    rw [List.foldl_cons]
    have h1 := plFold_len l (plStep st c)
    have h2 := plStep_len st c
    simp only [List.length_cons]
    omega
theorem atI_last {α : Type} (xs : List α) (x : α) : atI (xs ++ [x]) (-1) = some x := by
  unfold atI ixN
  rw [if_neg (by decide), if_pos (by simp; omega), bs]
  have : (-1 + ((xs ++ [x]).length : Int)).toNat = xs.length := by simp; omega
  rw [this]
  simp
theorem ch_one_r {c : Nat} : (one c = ("r" : Str)) ↔ c = 114 := ch_r
theorem pl_fold {F : Str → List Str → Option (List Str)} (hF : ∀ c st, st.length ≤ 1000000 → F (one c) (st.map one) = some ((plStep st c).map one)) : ∀ (l st : List Nat), st.length + l.length ≤ 1000000 → foldO F (l.map one) (st.map one) = some ((l.foldl plStep st).map one)
  | [], st, _ => rfl
  | c :: l, st, h => by
    simp only [List.length_cons] at h
    rw [List.map_cons, foldO, hF c st (by omega), bs, pl_fold hF l _ (by have := plStep_len st c; omega)]
    rfl
theorem pl_push {st : List Nat} (c : Nat) (h : st.length ≤ 1000000) : ((lapp (st.map one) (one c, ())).bind fun a => some a.2) = some ((st ++ [c]).map one) := by
  rw [lapp_eq (by rw [sizeLine_eq, List.length_map]; omega), bs]
  simp
theorem law_plain_ok {w : Str} (hl : w.cps.toList.length ≤ 100000) : f__law_plain w = some ⟨(plL w.cps.toList).toArray⟩ := by
  unfold f__law_plain m__law_plain
  simp only [bs, mps, bass, bmap, mapb]
  have key := pl_fold (F := fun (x_594 : Str) (g_595 : List Str) => (if decide (x_594 = ("r" : Str)) = true then if decide ((0 : Int) < (g_595.length : Int)) = true then (atI g_595 (-1)).bind fun x => some (decide (x = ("r" : Str))) else some false else some false).bind fun a => (if a = true then (lpop g_595 ()).bind fun a => some a.2 else (lapp g_595 (x_594, ())).bind fun a => some a.2).bind fun s_601 => some s_601) (fun c st h => by
    by_cases hc : c = 114
    · subst hc
      simp only [ch_one_r.mpr rfl, decide_true, if_true]
      rcases List.eq_nil_or_concat st with e | ⟨u, d, e⟩
      · subst e
        rfl
      · subst e
        have hp : decide ((0 : Int) < (((u.concat d).map one).length : Int)) = true := decide_eq_true (by simp)
        rw [List.concat_eq_append] at hp h ⊢
        simp only [hp, if_true]
        rw [List.map_append, show [d].map one = [one d] from rfl, atI_last]
        simp only [bs]
        by_cases hd : d = 114
        · subst hd
          simp only [ch_one_r.mpr rfl, decide_true, if_true]
          rw [lpop_concat]
          unfold plStep
          rw [if_pos ⟨rfl, by simp⟩]
          simp [bs]
        · have : ¬ one d = ("r" : Str) := fun q => hd (ch_one_r.mp q)
          simp only [this, decide_false, Bool.false_eq_true, if_false]
          have hpu := pl_push (st := u ++ [d]) 114 h
          rw [List.map_append, show [d].map one = [one d] from rfl, show one 114 = ("r" : Str) from ch_one_r.mpr rfl] at hpu
          rw [hpu, bs]
          unfold plStep
          rw [if_neg (by simp [hd])]
    · have : ¬ one c = ("r" : Str) := fun q => hc (ch_one_r.mp q)
      simp only [this, decide_false, Bool.false_eq_true, if_false, bs]
      rw [pl_push c h, bs]
      unfold plStep
      rw [if_neg (fun q => hc q.1)]) w.cps.toList [] (by rw [List.length_nil]; omega)
  rw [show ([] : List Nat).map one = [] from rfl] at key
  have key2 := key
  rw [show (w.cps.toList.map fun c => (⟨#[c]⟩ : Str)) = w.cps.toList.map one from rfl, key2]
  simp only [bs]
  have := plFold_len w.cps.toList []
  rw [sjoin_ones (by simp only [List.length_nil] at this; omega)]
  rfl
theorem plain_ok {w : Str} (hl : w.cps.toList.length ≤ 100000) : f_plain_word w = some ⟨(plL w.cps.toList).toArray⟩ := by
  unfold f_plain_word m_plain_word
  simp only [bs, mps, bass, bmap, mapb]
  have key := pl_fold (F := fun (x_86 : Str) (g_87 : List Str) => (if decide (x_86 = ("r" : Str)) = true then if (!g_87.isEmpty) = true then (atI g_87 (-1)).bind fun x => some (decide (x = ("r" : Str))) else some false else some false).bind fun a => (if a = true then (lpop g_87 ()).bind fun a => some a.2 else (lapp g_87 (x_86, ())).bind fun a => some a.2).bind fun s_93 => some s_93) (fun c st h => by
    by_cases hc : c = 114
    · subst hc
      simp only [ch_one_r.mpr rfl, decide_true, if_true]
      rcases List.eq_nil_or_concat st with e | ⟨u, d, e⟩
      · subst e
        rfl
      · subst e
        have hp : (!((u.concat d).map one).isEmpty) = true := by simp
        rw [List.concat_eq_append] at hp h ⊢
        simp only [hp, if_true]
        rw [List.map_append, show [d].map one = [one d] from rfl, atI_last]
        simp only [bs]
        by_cases hd : d = 114
        · subst hd
          simp only [ch_one_r.mpr rfl, decide_true, if_true]
          rw [lpop_concat]
          unfold plStep
          rw [if_pos ⟨rfl, by simp⟩]
          simp [bs]
        · have : ¬ one d = ("r" : Str) := fun q => hd (ch_one_r.mp q)
          simp only [this, decide_false, Bool.false_eq_true, if_false]
          have hpu := pl_push (st := u ++ [d]) 114 h
          rw [List.map_append, show [d].map one = [one d] from rfl, show one 114 = ("r" : Str) from ch_one_r.mpr rfl] at hpu
          rw [hpu, bs]
          unfold plStep
          rw [if_neg (by simp [hd])]
    · have : ¬ one c = ("r" : Str) := fun q => hc (ch_one_r.mp q)
      simp only [this, decide_false, Bool.false_eq_true, if_false, bs]
      rw [pl_push c h, bs]
      unfold plStep
      rw [if_neg (fun q => hc q.1)]) w.cps.toList [] (by rw [List.length_nil]; omega)
  rw [show ([] : List Nat).map one = [] from rfl] at key
  have key2 := key
  rw [show (w.cps.toList.map fun c => (⟨#[c]⟩ : Str)) = w.cps.toList.map one from rfl, key2]
  simp only [bs]
  have := plFold_len w.cps.toList []
  rw [sjoin_ones (by simp only [List.length_nil] at this; omega)]
  rfl
/-- no neighbours rr -/
def red (st : List Nat) : Prop := ∀ u v, st ≠ u ++ 114 :: 114 :: v
theorem red_step {st : List Nat} (h : red st) (c : Nat) : red (plStep st c) := by
  unfold plStep
  split
  · intro u v e
    have hne : st ≠ [] := by
      intro z; subst z; simp at e
    have := List.dropLast_concat_getLast hne
    rw [e] at this
    exact h u (v ++ [st.getLast hne]) (by simpa using this.symm)
  · rename_i hc
    intro u v e
    rcases List.eq_nil_or_concat v with z | ⟨v', d, z⟩
    · subst z
      have e' : st ++ [c] = (u ++ [114]) ++ [114] := by rw [e]; simp
      obtain ⟨e1, e2⟩ := List.append_inj' e' rfl
      simp at e2
      exact hc ⟨e2, by rw [e1]; simp⟩
    · subst z
      have e' : st ++ [c] = (u ++ 114 :: 114 :: v') ++ [d] := by rw [e]; simp
      obtain ⟨e1, _⟩ := List.append_inj' e' rfl
      exact h u v' e1
theorem red_fold : ∀ (l : List Nat) {st : List Nat}, red st → red (l.foldl plStep st)
  | [], _, h => h
  | c :: l, _, h => red_fold l (red_step h c)
theorem red_nil : red [] := fun u v e => by simp at e
theorem rr_step {st : List Nat} (h : red st) : plStep (plStep st 114) 114 = st := by
  rcases List.eq_nil_or_concat st with e | ⟨u, d, e⟩
  · subst e; rfl
  · rw [List.concat_eq_append] at e
    subst e
    by_cases hd : d = 114
    · subst hd
      have h1 : plStep (u ++ [114]) 114 = u := by unfold plStep; rw [if_pos ⟨rfl, by simp⟩]; simp
      rw [h1]
      unfold plStep
      rw [if_neg]
      rintro ⟨_, q⟩
      rcases List.eq_nil_or_concat u with z | ⟨u', d', z⟩
      · subst z; simp at q
      · rw [List.concat_eq_append] at z
        subst z
        simp at q
        subst q
        exact h u' [] (by simp)
    · have h1 : plStep (u ++ [d]) 114 = u ++ [d] ++ [114] := by unfold plStep; rw [if_neg (by simp [hd])]
      rw [h1]
      unfold plStep
      rw [if_pos ⟨rfl, by simp⟩]
      simp
theorem rr_many {st : List Nat} (h : red st) : ∀ k, ((List.replicate k [114, 114]).flatten).foldl plStep st = st
  | 0 => rfl
  | k + 1 => by
    rw [List.replicate_succ, List.flatten_cons, List.foldl_append]
    have : [114, 114].foldl plStep st = st := rr_step h
    rw [this]
    exact rr_many h k
theorem pl_insert (l m : List Nat) (k : Nat) : plL (l ++ (List.replicate k [114, 114]).flatten ++ m) = plL (l ++ m) := by
  unfold plL
  rw [List.foldl_append, List.foldl_append, List.foldl_append, rr_many (red_fold l red_nil)]
end Mx
/-! M9: least common multiples, words back. Own work. -/
namespace Mx
open PySem PySem.Spec L2 Rf K83
def Sz (s : List (List Int)) : Prop := ∀ f, f ∈ s → 1 ≤ f.length ∧ f.length ≤ 12
def lcF (a : Nat) (s : List (List Int)) : Nat := s.foldl (fun a f => Nat.lcm a f.length) a
def Lc (s : List (List Int)) : Nat := lcF 1 s
theorem lcF_cons (a : Nat) (f : List Int) (s : List (List Int)) : lcF a (f :: s) = lcF (Nat.lcm a f.length) s := rfl
theorem dvd_lcF : ∀ (s : List (List Int)) (a : Nat), a ∣ lcF a s ∧ ∀ f, f ∈ s → f.length ∣ lcF a s
  | [], a => ⟨Nat.dvd_refl a, fun f h => (List.not_mem_nil h).elim⟩
  | f :: s, a => by
    obtain ⟨h1, h2⟩ := dvd_lcF s (Nat.lcm a f.length)
    refine ⟨Nat.dvd_trans (Nat.dvd_lcm_left _ _) h1, fun g hg => ?_⟩
    rcases List.mem_cons.mp hg with e | e
    · subst e; exact Nat.dvd_trans (Nat.dvd_lcm_right _ _) h1
    · exact h2 g e
theorem lcF_dvd : ∀ (s : List (List Int)) (a m : Nat), a ∣ m → (∀ f, f ∈ s → f.length ∣ m) → lcF a s ∣ m
  | [], a, m, h, _ => h
  | f :: s, a, m, h, k => lcF_dvd s _ m (Nat.lcm_dvd h (k f (by simp))) fun g hg => k g (by simp [hg])
theorem dvd_12 {k : Nat} (h1 : 1 ≤ k) (h2 : k ≤ 12) : k ∣ 27720 := by
  have : k = 1 ∨ k = 2 ∨ k = 3 ∨ k = 4 ∨ k = 5 ∨ k = 6 ∨ k = 7 ∨ k = 8 ∨ k = 9 ∨ k = 10 ∨ k = 11 ∨ k = 12 := by omega
  rcases this with e | e | e | e | e | e | e | e | e | e | e | e <;> subst e <;> decide
section
variable {s : List (List Int)} {N : Nat}
theorem Lc_dvd (z : Sz s) : Lc s ∣ 27720 := lcF_dvd s 1 _ (Nat.one_dvd _) fun f hf => dvd_12 (z f hf).1 (z f hf).2
theorem Lc_le (z : Sz s) : Lc s ≤ 27720 := Nat.le_of_dvd (by decide) (Lc_dvd z)
theorem Lc_pos (z : Sz s) : 0 < Lc s := Nat.pos_of_dvd_of_pos (Lc_dvd z) (by decide)
theorem least_sizes_ok (z : Sz s) : f_least_of_sizes s = some (Lc s : Int) := by
  unfold f_least_of_sizes m_least_of_sizes f_least_multiple m_least_multiple
  simp only [bs, mps, bass, bmap, mapb]
  have key : ∀ (t : List (List Int)) (a : Nat), 0 < a → a ∣ 27720 → (∀ f, f ∈ t → 1 ≤ f.length ∧ f.length ≤ 12) →
      foldO (fun (x_29 : List Int) (g_30 : Int) => (pmul g_30 (x_29.length : Int)).bind fun a => (pdiv a (pgcd g_30 (x_29.length : Int))).bind fun a => (Fl.rt (β := Unit) (γ := Empty) a).ret.bind fun told_32 => some told_32) t (a : Int) = some (lcF a t : Int) := by
    intro t
    induction t with
    | nil => intro a _ _ _; rfl
    | cons f t ih =>
      intro a a0 ad h
      obtain ⟨h1, h2⟩ := h f (by simp)
      have hd := Nat.lcm_dvd ad (dvd_12 h1 h2)
      have hg : Nat.gcd a f.length ≤ f.length := Nat.gcd_le_right _ (by omega)
      have hg0 : 0 < Nat.gcd a f.length := Nat.gcd_pos_of_pos_left _ a0
      rw [foldO, pmul_r (by omega) (by omega), bs]
      have e1 : pgcd (a : Int) (f.length : Int) = ((Nat.gcd a f.length : Nat) : Int) := rfl
      rw [e1, pdiv_eq (by omega) (by omega), bs]
      have e2 : (a : Int) * (f.length : Int) / ((Nat.gcd a f.length : Nat) : Int) = ((Nat.lcm a f.length : Nat) : Int) := by
        unfold Nat.lcm
        simp
      rw [e2]
      show (foldO _ t _) = _
      rw [ih _ (Nat.pos_of_dvd_of_pos hd (by decide)) hd fun g hg => h g (by simp [hg])]
      rfl
  have := key s 1 (by decide) (Nat.one_dvd _) z
  rw [show (1 : Int) = ((1 : Nat) : Int) from rfl, this, bs]
  rfl
theorem common_ok (z : Sz s) (hl : s.length ≤ 1000) {n : Nat} (hn : 30000 ≤ n) : f__law_common n s = some (Lc s : Int) := by
  unfold f__law_common m__law_common
  simp only [bs, mps, bass, bmap, mapb]
  rw [compO_map (fun f : List Int => (f.length : Int)) fun _ _ => rfl]
  simp only [bs]
  rw [fits_eq (by rw [sizeLine_eq, List.length_map]; omega)]
  simp only [bs]
  suffices H : ∃ r, _ = some r ∧ r = (Lc s : Int) by
    obtain ⟨r, e, q⟩ := H
    rw [q] at e
    exact e
  have Lp := Lc_pos z
  have Lb := Lc_le z
  have test : ∀ m : Int, ((compO (fun x_618 => (pmod m x_618).bind fun x => some (decide (0 < x))) (fun x => some x) (s.map fun f => (f.length : Int))).bind fun a => (fits a).bind fun a => some (decide ((0 : Int) < (a.length : Int)))) = some (decide (∃ f, f ∈ s ∧ 0 < m % (f.length : Int))) := fun m => by
    rw [compO_filter (fun x : Int => decide (0 < m % x)) (fun x => x) (fun x hx => by
      obtain ⟨f, hf, e⟩ := List.mem_map.mp hx
      rw [pmod_eq (by have := (z f hf).1; omega)]; rfl) fun _ _ _ => rfl, bs, fits_eq, bs]
    · congr 1
      apply Bool.eq_iff_iff.mpr
      simp only [decide_eq_true_eq, List.length_map]
      constructor
      · intro h
        have h2 : 0 < ((s.map fun f => (f.length : Int)).filter fun x => decide (0 < m % x)).length := by omega
        obtain ⟨x, hx⟩ := List.exists_mem_of_length_pos h2
        obtain ⟨h3, h4⟩ := List.mem_filter.mp hx
        obtain ⟨f, hf, e⟩ := List.mem_map.mp h3
        exact ⟨f, hf, by rw [e]; exact of_decide_eq_true h4⟩
      · rintro ⟨f, hf, h4⟩
        have : (f.length : Int) ∈ (s.map fun f => (f.length : Int)).filter fun x => decide (0 < m % x) := List.mem_filter.mpr ⟨List.mem_map.mpr ⟨f, hf, rfl⟩, decide_eq_true h4⟩
        have := List.length_pos_of_mem this
        omega
    · rw [List.length_map]
      refine Nat.le_trans (List.length_filter_le _ _) ?_
      rw [List.length_map, sizeLine_eq]; omega
  refine whileM_ex (fun g : Int => ∃ m : Nat, g = (m : Int) ∧ 1 ≤ m ∧ m ≤ Lc s) (fun g => Lc s - g.toNat) (fun g ⟨m, e, m1, m2⟩ => ?_) ⟨1, rfl, Nat.le_refl _, Lp⟩ (by show Lc s - 1 < n; omega) fun g ⟨m, e, m1, m2⟩ ht => ?_
  · rw [test]
    by_cases q : ∃ f, f ∈ s ∧ 0 < g % (f.length : Int)
    · right
      refine ⟨by rw [decide_eq_true q], g + 1, rfl, ⟨m + 1, by omega, by omega, ?_⟩, ?_⟩
      · rcases Nat.lt_or_ge m (Lc s) with l | l
        · omega
        · have : m = Lc s := by omega
          obtain ⟨f, hf, h4⟩ := q
          have hd : f.length ∣ m := by rw [this]; exact (dvd_lcF s 1).2 f hf
          have : g % (f.length : Int) = 0 := by rw [e]; exact Int.emod_eq_zero_of_dvd (Int.natCast_dvd_natCast.mpr hd)
          omega
      · rcases Nat.lt_or_ge m (Lc s) with l | l
        · show Lc s - (g + 1).toNat < Lc s - g.toNat
          omega
        · have : m = Lc s := by omega
          obtain ⟨f, hf, h4⟩ := q
          have hd : f.length ∣ m := by rw [this]; exact (dvd_lcF s 1).2 f hf
          have : g % (f.length : Int) = 0 := by rw [e]; exact Int.emod_eq_zero_of_dvd (Int.natCast_dvd_natCast.mpr hd)
          omega
    · left
      rw [decide_eq_false q]
  · rw [test] at ht
    have q : ¬ ∃ f, f ∈ s ∧ 0 < g % (f.length : Int) := of_decide_eq_false (Option.some.inj ht)
    refine ⟨g, rfl, ?_⟩
    have : Lc s ∣ m := lcF_dvd s 1 m (Nat.one_dvd _) fun f hf => by
      have h1 := (z f hf).1
      have h2 : ¬ 0 < g % (f.length : Int) := fun h => q ⟨f, hf, h⟩
      have h3 := Int.emod_nonneg g (show (f.length : Int) ≠ 0 by omega)
      have h4 : (m : Int) % (f.length : Int) = 0 := by rw [← e]; omega
      exact Int.natCast_dvd_natCast.mp (Int.dvd_of_emod_eq_zero h4)
    have := Nat.le_of_dvd (by omega) this
    rw [e]
    congr 1
    omega
/-! ### words back -/
def bkc (L c : Nat) : List Nat := if c = 116 then List.replicate (L - 1) 116 else [114]
def bkL (L : Nat) (l : List Nat) : List Nat := l.reverse.flatMap (bkc L)
theorem bkc_len {L : Nat} (h : L ≤ 60) (c : Nat) : (bkc L c).length ≤ 60 := by
  unfold bkc
  split
  · simp; omega
  · simp
theorem flat_len60 {L : Nat} (h : L ≤ 60) : ∀ l : List Nat, (l.flatMap (bkc L)).length ≤ 60 * l.length
  | [] => by simp
  | c :: l => by
    rw [List.flatMap_cons, List.length_append, List.length_cons]
    have := flat_len60 h l
    have := bkc_len h c
    omega
theorem bkL_len {L : Nat} (h : L ≤ 60) (l : List Nat) : (bkL L l).length ≤ 60 * l.length := by
  have := flat_len60 h l.reverse
  rw [List.length_reverse] at this
  exact this
theorem rt_bkc (L c : Nat) : rt (bkc L c) := by
  unfold bkc
  split
  · intro d hd; right; exact (List.mem_replicate.mp hd).2
  · intro d hd; left; simpa using hd
theorem rt_bkL (L : Nat) (l : List Nat) : rt (bkL L l) := fun d hd => by
  obtain ⟨c, _, h⟩ := List.mem_flatMap.mp hd
  exact rt_bkc L c d h
theorem t_cps : ∀ k : Nat, (List.replicate k [116]).flatten = List.replicate k 116
  | 0 => rfl
  | k + 1 => by rw [List.replicate_succ, List.flatten_cons, t_cps k]; rfl
theorem back_core {L : Nat} (h60 : L ≤ 60) {l : List Nat} (hl : l.length ≤ 1000) {T : Str} (hT : T.cps.toList = List.replicate (L - 1) 116) {F : Str → Option Str} (hF : ∀ c, c ∈ l → F (one c) = some (if c = 116 then T else "r")) :
    ((compO (fun _ => some true) F (l.map one)).bind fun a => (fits a).bind fun a => sjoin "" a) = some ⟨(l.flatMap (bkc L)).toArray⟩ := by
  have e1 : compO (fun _ => some true) F (l.map one) = some (l.map fun c => if c = 116 then T else ("r" : Str)) := by
    have := compO_map (f := F) (fun y : Str => if y = one 116 then T else ("r" : Str)) (xs := l.map one) fun y hy => by
      obtain ⟨c, hc, rfl⟩ := List.mem_map.mp hy
      rw [hF c hc]
      congr 1
      have : (one c = one 116) ↔ c = 116 := ⟨fun q => by
        have := congrArg (fun z : Str => z.cps.toList) q
        simpa [one] using this, fun q => by rw [q]⟩
      simp [this]
    rw [this, List.map_map]
    congr 1
    apply List.map_congr_left
    intro c _
    have : (one c = one 116) ↔ c = 116 := ⟨fun q => by
      have := congrArg (fun z : Str => z.cps.toList) q
      simpa [one] using this, fun q => by rw [q]⟩
    simp [this]
  rw [e1, bs, fits_eq (by rw [sizeLine_eq, List.length_map]; omega), bs]
  have e2 : (l.map fun c => if c = 116 then T else ("r" : Str)).flatMap (·.cps.toList) = l.flatMap (bkc L) := by
    rw [List.flatMap_map]
    have : (fun c => (if c = 116 then T else ("r" : Str)).cps.toList) = bkc L := by
      funext c
      unfold bkc
      split
      · exact hT
      · exact cps_r
    rw [← this]
  have hlen := flat_len60 h60 l
  obtain ⟨z, e3, ez⟩ := sjoin_ok (ys := l.map fun c => if c = 116 then T else ("r" : Str)) (by rw [e2]; omega)
  rw [e3, str_of ez, e2]
theorem laps_ok {L : Nat} (h0 : 0 < L) (h60 : L ≤ 60) : ∃ T, smul "t" ((L : Int) - 1) = some T ∧ T.cps.toList = List.replicate (L - 1) 116 := by
  obtain ⟨T, e, eT⟩ := smul_ok (w := "t") (n := (L : Int) - 1) (by omega) (by omega) (by rw [cps_t]; simp; omega)
  refine ⟨T, e, ?_⟩
  rw [eT, cps_t, t_cps]
  congr 1
  omega
theorem back_ok (z : Sz s) {w : Str} (hw : W w) (h60 : Lc s ≤ 60) (hl : w.cps.toList.length ≤ 1000) : f_word_back s w = some ⟨(bkL (Lc s) w.cps.toList).toArray⟩ := by
  unfold f_word_back m_word_back
  simp only [bs, mps, bass, bmap, mapb]
  rw [least_sizes_ok z, bs]
  obtain ⟨T, e, eT⟩ := laps_ok (Lc_pos z) h60
  rw [e, bs]
  obtain ⟨v, e2, ev⟩ := srev_ok (w := w) (by omega)
  rw [e2, bs, ev]
  have := back_core h60 (l := w.cps.toList.reverse) (by rw [List.length_reverse]; exact hl) eT (F := fun x_106 => if decide (x_106 = ("r" : Str)) = true then some ("r" : Str) else some T) fun c hc => by
    rcases hw c (by simpa using hc) with q | q
    · subst q
      rw [ch_one_r.mpr rfl]
      rfl
    · subst q
      have : ¬ one 116 = ("r" : Str) := fun z => by have := ch_one_r.mp z; omega
      simp [this]
  rw [show (w.cps.toList.reverse.map fun c => (⟨#[c]⟩ : Str)) = w.cps.toList.reverse.map one from rfl]
  have e5 : ∀ (x : Option (List Str)), (x.bind fun a => (fits a).bind fun a => (sjoin "" a).bind fun a => (Fl.rt (β := Unit) (γ := Empty) a).ret) = (x.bind fun a => (fits a).bind fun a => sjoin "" a) := fun x => by
    cases x with
    | none => rfl
    | some x => rw [bs, bs]; cases fits x with
      | none => rfl
      | some y => rw [bs, bs]; exact obs _
  rw [e5]
  exact this
theorem lawback_ok (z : Sz s) (hs : s.length ≤ 1000) {n : Nat} (hn : 30000 ≤ n) {w : Str} (hw : W w) (h60 : Lc s ≤ 60) (hl : w.cps.toList.length ≤ 1000) : f__law_back n s w = some ⟨(bkL (Lc s) w.cps.toList).toArray⟩ := by
  unfold f__law_back m__law_back
  simp only [bs, mps, bass, bmap, mapb]
  rw [common_ok z hs hn, bs]
  obtain ⟨T, e, eT⟩ := laps_ok (Lc_pos z) h60
  rw [e, bs]
  obtain ⟨v, e2, ev⟩ := srev_ok (w := w) (by omega)
  rw [e2, bs, ev]
  have := back_core h60 (l := w.cps.toList.reverse) (by rw [List.length_reverse]; exact hl) eT (F := fun x_624 => if decide (x_624 = ("t" : Str)) = true then some T else some ("r" : Str)) fun c hc => by
    rcases hw c (by simpa using hc) with q | q
    · subst q
      have : ¬ one 114 = ("t" : Str) := fun z => by have := ch_t.mp z; omega
      simp [this]
    · subst q
      rw [show one 116 = ("t" : Str) from ch_t.mpr rfl]
      rfl
  rw [show (w.cps.toList.reverse.map fun c => (⟨#[c]⟩ : Str)) = w.cps.toList.reverse.map one from rfl]
  have e5 : ∀ (x : Option (List Str)), (x.bind fun a => (fits a).bind fun a => (sjoin "" a).bind fun a => (Fl.rt (β := Unit) (γ := Empty) a).ret) = (x.bind fun a => (fits a).bind fun a => sjoin "" a) := fun x => by
    cases x with
    | none => rfl
    | some x => rw [bs, bs]; cases fits x with
      | none => rfl
      | some y => rw [bs, bs]; exact obs _
  rw [e5]
  exact this
/-! ### a word and its word back -/
theorem B_face (h : Sd s N) {f : List Int} (hf : f ∈ s) {i : Nat} (hi : i < f.length) : B s f[i] = f[(i + 1) % f.length]'(Nat.mod_lt _ (by omega)) := by
  have : (f[i], f[(i + 1) % f.length]'(Nat.mod_lt _ (by omega))) ∈ bps s := List.mem_flatMap.mpr ⟨f, hf, mem_bpf.mpr ⟨i, hi, rfl⟩⟩
  unfold B
  rw [dget_of_mem h.dn this]
  rfl
theorem B_iter (h : Sd s N) {f : List Int} (hf : f ∈ s) {i : Nat} (hi : i < f.length) : ∀ j, ldl (B s) tw f[i] (List.replicate j 116) = f[(i + j) % f.length]'(Nat.mod_lt _ (by omega))
  | 0 => by
    show f[i] = _
    congr 1
    rw [Nat.add_zero, Nat.mod_eq_of_lt hi]
  | j + 1 => by
    rw [List.replicate_succ', ldl_app, B_iter h hf hi j]
    show B s _ = _
    rw [B_face h hf (Nat.mod_lt _ (by omega))]
    congr 1
    rw [Nat.mod_add_mod]
    rfl
theorem B_cycle (h : Sd s N) {x : Int} (hx : In N x) : ldl (B s) tw x (List.replicate (Lc s) 116) = x := by
  obtain ⟨f, hf, hxf⟩ := List.mem_flatten.mp (h.mem.mpr hx)
  obtain ⟨i, hi, e⟩ := List.mem_iff_getElem.mp hxf
  rw [← e, B_iter h hf hi]
  congr 1
  obtain ⟨q, hq⟩ := (dvd_lcF s 1).2 f hf
  rw [show Lc s = lcF 1 s from rfl, hq, Nat.add_mul_mod_self_left, Nat.mod_eq_of_lt hi]
theorem bk_one (h : Sd s N) (z : Sz s) {x : Int} (hx : In N x) {c : Nat} (hc : c = 114 ∨ c = 116) : ldl (B s) tw x (c :: bkc (Lc s) c) = x := by
  rcases hc with e | e
  · subst e
    show tw (tw x) = x
    exact tw_tw x
  · subst e
    have := B_cycle h hx
    have hp := Lc_pos z
    unfold bkc
    rw [if_pos rfl, ← List.replicate_succ, show Lc s - 1 + 1 = Lc s by omega]
    exact this
theorem In_ldl (h : Sd s N) {x : Int} (hx : In N x) : ∀ l : List Nat, In N (ldl (B s) tw x l)
  | [] => hx
  | c :: l => by
    show In N (ldl (B s) tw (if c = 116 then B s x else tw x) l)
    refine In_ldl h ?_ l
    split
    · exact (h.get hx).2
    · exact h.tw hx
theorem back_id (h : Sd s N) (z : Sz s) : ∀ (l : List Nat) {x : Int}, In N x → rt l → ldl (B s) tw x (l ++ bkL (Lc s) l) = x
  | [], x, _, _ => rfl
  | c :: l, x, hx, hl => by
    have e : bkL (Lc s) (c :: l) = bkL (Lc s) l ++ bkc (Lc s) c := by
      unfold bkL
      rw [List.reverse_cons, List.flatMap_append]
      simp
    have hc := hl c (by simp)
    rw [e, show c :: l ++ (bkL (Lc s) l ++ bkc (Lc s) c) = [c] ++ ((l ++ bkL (Lc s) l) ++ bkc (Lc s) c) by simp, ldl_app, ldl_app, back_id h z l (In_ldl h hx [c]) fun d hd => hl d (by simp [hd]), ← ldl_app]
    exact bk_one h z hx hc
end
end Mx
/-! M10: the law's part on words that are like one another. Own work. -/
namespace Mx
open PySem PySem.Spec L2 Rf K83
theorem rt_step {st : List Nat} (h : rt st) {c : Nat} (hc : c = 114 ∨ c = 116) : rt (plStep st c) := by
  unfold plStep
  split
  · exact fun d hd => h d ((List.dropLast_sublist st).subset hd)
  · exact rt_app h fun d hd => by rw [List.mem_singleton] at hd; rw [hd]; exact hc
theorem rt_fold : ∀ (l : List Nat) {st : List Nat}, rt st → rt l → rt (l.foldl plStep st)
  | [], _, h, _ => h
  | c :: l, _, h, k => rt_fold l (rt_step h (k c (by simp))) fun d hd => k d (by simp [hd])
theorem rt_nil : rt [] := fun c h => (List.not_mem_nil h).elim
theorem rt_plL {l : List Nat} (h : rt l) : rt (plL l) := rt_fold l rt_nil h
section
variable {s : List (List Int)} {N : Nat}
theorem likes_ok (h : Sd s N) (z : Sz s) (hs : s.length ≤ 1000) {c : Cup} (hc : CupOk c) {n : Nat} (hn : 40000 ≤ n) :
    ∃ r, f__law_likes n c s (stp s) = some r ∧ r.1 = true ∧ CupOk r.2 := by
  unfold f__law_likes m__law_likes
  simp only [bs, mps, bass, bmap, mapb]
  obtain ⟨⟨w, c1⟩, e1, hw, hl, c1ok, h36⟩ := word_ok (n := n) hc (m := 12) (by decide) (by decide) (by omega)
  have hl36 : w.cps.toList.length ≤ 36 := h36 (by decide)
  have c1ok' : CupOk c1 := c1ok
  have hW : W w := hw
  clear h36 hl hw c1ok
  rw [e1]; simp only [bs]
  rw [common_ok z hs (by omega)]; simp only [bs]
  have lap : ∃ T, (if decide ((Lc s : Int) < 121) = true then smul "t" (Lc s : Int) else some ("" : Str)) = some T ∧ W T ∧ T.cps.toList.length ≤ 121 := by
    by_cases q : (Lc s : Int) < 121
    · rw [decide_eq_true q, if_pos rfl]
      obtain ⟨T, e, eT⟩ := smul_ok (w := "t") (n := (Lc s : Int)) (by omega) (by omega) (by rw [cps_t]; simp; omega)
      refine ⟨T, e, ?_, ?_⟩
      · show rt T.cps.toList
        rw [eT]
        exact rt_rep (fun d hd => by rw [cps_t] at hd; right; simpa using hd) _
      · rw [eT, rep_len, cps_t]
        simp; omega
    · rw [decide_eq_false q]
      refine ⟨"", rfl, ?_, ?_⟩
      · show rt ("" : Str).cps.toList
        rw [nil_cps]; exact rt_nil
      · rw [nil_cps]; decide
  obtain ⟨T, eT, WT, lT⟩ := lap
  rw [eT]; simp only [bs]
  rw [slen_ok (by omega)]; simp only [bs]
  obtain ⟨⟨i, c2⟩, e2, i0, i1, c2ok⟩ := sip_ok (n := n) c1ok' (many := (w.cps.toList.length : Int) + 1) (by omega) (by omega) (by omega)
  have i0' : 0 ≤ i := i0
  rw [e2]; simp only [bs]
  have eP := law_plain_ok (w := w) (by omega)
  rw [eP]; simp only [bs]
  obtain ⟨a6, e6, q6⟩ := scut_pre (w := w) i0' (by omega)
  obtain ⟨a8, e8, q8⟩ := scut_suf (w := w) i0' (by omega)
  have l6 : a6.cps.toList.length ≤ 36 := by rw [q6, List.length_take]; omega
  have l8 : a8.cps.toList.length ≤ 36 := by rw [q8, List.length_drop]; omega
  rw [e6]; simp only [bs]
  obtain ⟨a7, e7, q7⟩ := scat_cps (x := a6) (y := "rr") (by rw [rrlen]; omega)
  rw [e7]; simp only [bs]
  rw [e8]; simp only [bs]
  have l7 : a7.cps.toList.length ≤ 38 := by rw [q7, List.length_append, rrlen]; omega
  obtain ⟨a9, e9, q9⟩ := scat_cps (x := a7) (y := a8) (by omega)
  rw [e9]; simp only [bs]
  obtain ⟨a11, e11, q11⟩ := scat_cps (x := a6) (y := T) (by omega)
  rw [e11]; simp only [bs]
  have l11 : a11.cps.toList.length ≤ 157 := by rw [q11, List.length_append]; omega
  obtain ⟨a13, e13, q13⟩ := scat_cps (x := a11) (y := a8) (by omega)
  rw [e13]; simp only [bs]
  obtain ⟨a14, e14, q14⟩ := scat_cps (x := w) (y := "t") (by rw [tlen]; omega)
  rw [e14]; simp only [bs]
  obtain ⟨a15, e15, q15⟩ := srev_ok (w := w) (by omega)
  rw [e15]; simp only [bs]
  obtain ⟨⟨v, c3⟩, e16, hv, _, c3ok, h36⟩ := word_ok (n := n) c2ok (m := 12) (by decide) (by decide) (by omega)
  have hWv : W v := hv
  have c3ok' : CupOk c3 := c3ok
  rw [e16]; simp only [bs]
  obtain ⟨a17, e17, q17⟩ := scat_cps (x := w) (y := "r") (by rw [rlen]; omega)
  rw [e17]; simp only [bs]
  obtain ⟨a18, e18, q18⟩ := scat_cps (x := "t") (y := w) (by rw [tlen]; omega)
  rw [e18]; simp only [bs]
  have rT : rt ("t" : Str).cps.toList := fun d hd => by rw [cps_t] at hd; right; simpa using hd
  have rR : rt ("r" : Str).cps.toList := fun d hd => by rw [cps_r] at hd; left; simpa using hd
  have rRR : rt ("rr" : Str).cps.toList := fun d hd => by rw [rr_cps] at hd; left; simpa using hd
  have W6 : rt a6.cps.toList := by rw [q6]; exact rt_take hW _
  have W8 : rt a8.cps.toList := by rw [q8]; exact rt_drop hW _
  have all : ∀ x, x ∈ [w, ⟨(plL w.cps.toList).toArray⟩, a9, a13, a14, a15, v, a17, a18] → W x := by
    intro x hx
    simp only [List.mem_cons, List.not_mem_nil, or_false] at hx
    rcases hx with e | e | e | e | e | e | e | e | e <;> subst e
    · exact hW
    · exact rt_plL hW
    · show rt _; rw [q9, q7]; exact rt_app (rt_app W6 rRR) W8
    · show rt _; rw [q13, q11]; exact rt_app (rt_app W6 WT) W8
    · show rt _; rw [q14]; exact rt_app hW rT
    · show rt _; rw [q15]; exact rt_rev hW
    · exact hWv
    · show rt _; rw [q17]; exact rt_app hW rR
    · show rt _; rw [q18]; exact rt_app rT hW
  refine foldX_ex (fun _ _ => True) trivial (fun pre x post g e _ => ?_) fun g _ => ?_
  · have hx := all x (by rw [e]; simp)
    rw [h.lawmap hW, bs, h.lawmap hx, bs, h.likes hW hx, bs, same_B (by omega), bs]
    exact ⟨(), rfl, trivial⟩
  · simp only [fon, fbn]
    rw [plain_ok (w := w) (by omega)]; simp only [bs]
    rw [same_S (by omega)]
    simp only [bs, Bool.not_true, Bool.false_eq_true, if_false]
    obtain ⟨R5, e20, q20⟩ := smul_ok (w := "rr") (n := 5) (by decide) (by decide) (by rw [rrlen]; decide)
    have l20 : R5.cps.toList.length = 10 := by rw [q20, rr_cps]; rfl
    obtain ⟨a21, e21, q21⟩ := scat_cps (x := a6) (y := R5) (by omega)
    have l21 : a21.cps.toList.length ≤ 46 := by rw [q21, List.length_append]; omega
    obtain ⟨a22, e22, q22⟩ := scat_cps (x := a21) (y := a8) (by omega)
    have l22 : a22.cps.toList.length ≤ 82 := by rw [q22, List.length_append]; omega
    rw [e20]; simp only [bs]
    rw [e21]; simp only [bs]
    rw [e22]; simp only [bs]
    rw [plain_ok (w := a22) (by omega)]; simp only [bs]
    have same : plL a22.cps.toList = plL w.cps.toList := by
      rw [q22, q21, q20, rr_cps, pl_insert, q6, q8, List.take_append_drop]
    rw [same, same_S (by omega), mps]
    simp only [bs, Bool.not_true, Bool.false_eq_true, if_false, fbn]
    by_cases q : (Lc s : Int) < 61
    · rw [decide_eq_true q]
      simp only [if_true]
      have h60 : Lc s ≤ 60 := by omega
      rw [lawback_ok z hs (by omega) hW h60 (by omega), back_ok z hW h60 (by omega)]
      simp only [bs]
      rw [same_S (by omega)]
      simp only [bs, Bool.not_true, Bool.false_eq_true, if_false, fbn]
      have lb := bkL_len h60 w.cps.toList
      have lb' : (⟨(bkL (Lc s) w.cps.toList).toArray⟩ : Str).cps.toList.length ≤ 60 * 36 := by
        show (bkL (Lc s) w.cps.toList).length ≤ _
        omega
      rw [slen_ok (by omega)]
      simp only [bs]
      by_cases q3 : ((w.cps.toList.length : Int) + (((⟨(bkL (Lc s) w.cps.toList).toArray⟩ : Str).cps.toList.length : Nat) : Int) < 301)
      · rw [decide_eq_true q3]
        simp only [if_true]
        obtain ⟨a30, e30, q30⟩ := scat_cps (x := w) (y := ⟨(bkL (Lc s) w.cps.toList).toArray⟩) (by omega)
        have W30 : W a30 := by
          show rt _
          rw [q30]
          exact rt_app hW (rt_bkL _ _)
        have W0 : W "" := by
          show rt _
          rw [nil_cps]; exact rt_nil
        rw [e30]; simp only [bs]
        rw [h.likes W30 W0, bs]
        have : mapW s N a30 = mapW s N "" := by
          unfold mapW
          apply List.map_congr_left
          intro x hx
          rw [q30, nil_cps]
          exact back_id h z w.cps.toList (mem_rngL.mp hx) hW
        rw [decide_eq_true this]
        simp only [decide_true, Bool.not_true, bs, Bool.false_eq_true, if_false, fbn, frr]
        exact ⟨_, rfl, rfl, c3ok'⟩
      · rw [decide_eq_false q3]
        simp only [bs, Bool.false_eq_true, if_false, fbn, frr]
        exact ⟨_, rfl, rfl, c3ok'⟩
    · rw [decide_eq_false q]
      simp only [bs, Bool.false_eq_true, if_false, fbn, frr]
      exact ⟨_, rfl, rfl, c3ok'⟩
end
end Mx
/-! M11: the law's part on first words. Own work. -/
namespace Mx
open PySem PySem.Spec L2 Rf K83
section
variable {s : List (List Int)} {N : Nat}
/-- what steps keep holds at all sides or at none -/
def Conn (s : List (List Int)) (N : Nat) : Prop := ∀ P : Int → Prop, (∀ x, In N x → P x → ∀ c, c12 c → P (ch s c x)) → ∀ a b, In N a → In N b → P a → P b
theorem ClD.total {s0 : Int} {D : List (Int × Str)} (h : ClD s s0 D) (k : Conn s N) (h0 : In N s0) {x : Int} (hx : In N x) : ∃ w, dget D x = some w := by
  refine k (fun x => ∃ w, dget D x = some w) (fun y _ ⟨w, e⟩ c hc => ?_) s0 x h0 hx ⟨_, h.start⟩
  obtain ⟨a, rfl, _⟩ := h.codes y w e
  obtain ⟨b, e2, _⟩ := h.cl c hc y a e
  exact ⟨_, e2⟩
theorem scene_ok (h : Sd s N) (z : Sz s) (k : Conn s N) (hN : 0 < N) (hs : s.length ≤ 1000) {c : Cup} (hc : CupOk c) {n : Nat} (hn : 40000 ≤ n) :
    ∃ r, f__law_scene n c s = some r ∧ r.1 = true ∧ CupOk r.2 := by
  have hN2 := h.small
  unfold f__law_scene m__law_scene
  simp only [bs, mps, bass, bmap, mapb, steps_ok h, dget_stp_t, bps_len h]
  obtain ⟨⟨x, c1⟩, e1, x0, x1, c1ok⟩ := sip_ok (n := n) hc (many := (N : Int)) (by omega) (by omega) (by omega)
  have hx : In N x := ⟨x0, x1⟩
  rw [e1]; simp only [bs]
  rw [all_words]; simp only [bs]
  refine foldX_ex (fun pre met => DN met ∧ met.length ≤ pre.length ∧ (∀ y w, dget met y = some w → ∃ a, w = wS a ∧ a < pre.length ∧ ld (B s) tw x a = y ∧ ∀ b, b < a → ld (B s) tw x b ≠ y) ∧ ∀ b, b < pre.length → ∃ w, dget met (ld (B s) tw x b) = some w)
    ⟨DN.nil, Nat.le_refl _, (fun y w e => by cases e), fun b hb => absurd hb (Nat.not_lt_zero _)⟩ (fun pre w post met e ⟨m1, m2, m3, m4⟩ => ?_) fun met ⟨m1, m2, m3, m4⟩ => ?_
  · -- one word more
    have hlen := congrArg List.length e
    simp only [List.length_map, List.length_range, List.length_append, List.length_cons] at hlen
    have hw : w = wS pre.length := by
      have h1 : ((List.range 127).map wS)[pre.length]? = some w := by rw [e]; simp
      rw [List.getElem?_map, List.getElem?_range (by omega)] at h1
      exact (Option.some.inj h1).symm
    have hW : W w := by rw [hw]; show rt _; rw [wS_cps]; exact wl_rt _
    have el : ldl (B s) tw x w.cps.toList = ld (B s) tw x pre.length := by rw [hw, wS_cps]; rfl
    rw [h.lead hx hW, h.wordside hx hW, el]
    simp only [bs]
    rw [same_I (by omega)]
    simp only [bs, Bool.not_true, Bool.false_eq_true, if_false, fbn]
    have gIn : In N (ld (B s) tw x pre.length) := In_ldl h hx _
    by_cases q : ld (B s) tw x pre.length ∈ met.map (·.1)
    · have q2 : dhas met (ld (B s) tw x pre.length) = true := dhas_iff.mpr q
      rw [q2]
      simp only [Bool.not_true, Bool.false_eq_true, if_false, bs]
      refine ⟨met, rfl, m1, by simp; omega, fun y v ev => ?_, fun b hb => ?_⟩
      · obtain ⟨a, a1, a2, a3, a4⟩ := m3 y v ev
        exact ⟨a, a1, by simp; omega, a3, a4⟩
      · simp only [List.length_append, List.length_singleton] at hb
        by_cases hb2 : b < pre.length
        · exact m4 b hb2
        · have : b = pre.length := by omega
          rw [this]
          exact dget_some_of q
    · have q2 : dhas met (ld (B s) tw x pre.length) = false := dhas_false.mpr q
      rw [q2]
      simp only [Bool.not_false, if_true]
      rw [dputL_eq (by rw [sizeLine_eq]; omega)]
      simp only [bs]
      have ln := length_dput_new (x := w) q
      have hno : ∀ b, b < pre.length → ld (B s) tw x b ≠ ld (B s) tw x pre.length := fun b hb z => by
        obtain ⟨v, ev⟩ := m4 b hb
        rw [z] at ev
        exact q (mem_keys_of ev)
      refine ⟨_, rfl, m1.dput _ _, by simp; omega, fun y v ev => ?_, fun b hb => ?_⟩
      · rw [dget_dput] at ev
        split at ev
        · rename_i he
          cases ev
          exact ⟨pre.length, hw, by simp, he, fun b hb => by rw [← he]; exact hno b hb⟩
        · obtain ⟨a, a1, a2, a3, a4⟩ := m3 y v ev
          exact ⟨a, a1, by simp; omega, a3, a4⟩
      · simp only [List.length_append, List.length_singleton] at hb
        rw [dget_dput]
        split
        · exact ⟨_, rfl⟩
        · rename_i he
          by_cases hb2 : b < pre.length
          · exact m4 b hb2
          · have : b = pre.length := by omega
            exact absurd (by rw [this]) he
  · simp only [fbn]
    obtain ⟨D, eD, cD, lD⟩ := firsts_ok h hx (n := n) (by omega)
    rw [eD]; simp only [bs]
    rw [bass]
    refine foldX_ex (fun _ _ => True) trivial (fun pre y post g e _ => ?_) fun g _ => ?_
    · have hy : y ∈ met.map (·.1) := by
        have : y ∈ isort (met.map (·.1)) := by rw [e]; simp
        exact isort_mem.mp this
      obtain ⟨v, ev⟩ := dget_some_of hy
      obtain ⟨a, a1, a2, a3, a4⟩ := m3 y v ev
      obtain ⟨b, eb, lb⟩ := cD.least a
      rw [a3] at eb
      obtain ⟨b', eb', lb'⟩ := cD.codes y _ eb
      have hbb := wS_inj eb'
      subst hbb
      have hab : b = a := by
        rcases Nat.lt_or_ge b a with l | l
        · exact absurd lb' (a4 b l)
        · omega
      rw [eb, ev, a1, hab]
      simp only [bs, ne_eq, not_true_eq_false, decide_false, Bool.false_eq_true, if_false, fbn]
      exact ⟨(), trivial, trivial⟩
    · simp only [fbn]
      obtain ⟨E, eE, cE, nE, lE⟩ := first_words_ok h hx (n := n) (by omega)
      have tot : ∀ y, In N y → ∃ w, dget D y = some w ∧ dget E y = some w ∧ w.length ≤ 1000 := fun y hy => by
        obtain ⟨w, ew⟩ := cD.total k hx hy
        obtain ⟨v, ev⟩ := cE.total k hx hy
        have := cD.unique cE ew ev
        subst this
        exact ⟨w, ew, ev, (lD y w ew).2⟩
      have steps : f_word_steps n s x = some ((rngL 0 N).map fun y => (((dget D y).getD "").length : Int)) := by
        unfold f_word_steps m_word_steps
        simp only [bs, mps, bass, bmap, mapb, eE, h.sides]
        rw [compO_map (fun y => (((dget D y).getD "").length : Int)) fun y hy => ?_]
        · simp only [bs]
          rw [fits_eq (by rw [sizeLine_eq, List.length_map, rngL_length]; omega)]
          rfl
        · obtain ⟨w, e2, e3, l3⟩ := tot y (mem_rngL.mp hy)
          rw [e3, e2, bs]
          unfold slen
          rw [if_pos (by rw [sizeLine_eq]; omega)]
          rfl
      rw [steps]; simp only [bs]
      rw [rng1_eq (by omega) (by omega)]; simp only [bs]
      rw [compO_map (fun y => (((dget D y).getD "").length : Int)) fun y hy => by
        obtain ⟨w, e2, e3, l3⟩ := tot y (mem_rngL.mp hy)
        rw [e2, bs]
        unfold slen
        rw [if_pos (by rw [sizeLine_eq]; omega)]
        rfl]
      simp only [bs]
      rw [fits_eq (by rw [sizeLine_eq, List.length_map, rngL_length]; omega)]; simp only [bs]
      rw [same_T (by omega) _ (by rw [List.length_map, rngL_length]; omega)]
      simp only [bs, Bool.not_true, Bool.false_eq_true, if_false, fbn]
      rw [rng1_eq (by decide) (by decide)]; simp only [bs]
      rw [bass]
      refine foldX_ex (fun _ g => CupOk g) c1ok (fun pre y post g e hg => ?_) fun g hg => ?_
      · obtain ⟨⟨o, c2⟩, e2, o0, o1, c2ok⟩ := sip_ok (n := n) hg (many := (N : Int)) (by omega) (by omega) (by omega)
        have ho : In N o := ⟨o0, o1⟩
        obtain ⟨w, e3, e4, l3⟩ := tot o ho
        rw [e2]; simp only [bs]
        have ef : f_first_word n s x o = some w := by
          unfold f_first_word m_first_word
          simp only [bs, mps, bass, bmap, mapb, eE, e4, frr]
        rw [ef, e3]; simp only [bs]
        rw [same_S (by omega)]
        simp only [bs, Bool.not_true, Bool.false_eq_true, if_false, fbn]
        exact ⟨_, rfl, c2ok⟩
      · simp only [fbn]
        obtain ⟨r, e5, r1, r2⟩ := likes_ok h z hs hg hn
        rw [e5]; simp only [bs, frr]
        exact ⟨_, rfl, r1, r2⟩
end
end Mx
/-! M12: solids that are put in order, known solids. Own work. -/
namespace Mx
open PySem PySem.Spec L2 Rf K83
structure Good (s : List (List Int)) (N : Nat) : Prop where
  sd : Sd s N
  sz : Sz s
  conn : Conn s N
  pos : 0 < N
  few : s.length ≤ 1000
section
variable {s t : List (List Int)} {N : Nat}
theorem ldl_P {P : Int → Prop} (h : Sd s N) (hP : ∀ x, In N x → P x → P (B s x)) : ∀ (k : Nat) {x : Int}, In N x → P x → P (ldl (B s) tw x (List.replicate k 116))
  | 0, _, _, p => p
  | k + 1, x, hx, p => by
    rw [List.replicate_succ]
    exact ldl_P h hP k (h.get hx).2 (hP x hx p)
theorem two_way (h : Sd s N) (z : Sz s) {P : Int → Prop} (hP : ∀ x, In N x → P x → ∀ c, c12 c → P (ch s c x)) {x : Int} (hx : In N x) {c : Nat} (hc : c12 c) : P x ↔ P (ch s c x) := by
  refine ⟨fun p => hP x hx p c hc, fun p => ?_⟩
  rcases hc with e | e
  · subst e
    have := hP _ (h.tw hx) p 1 (.inl rfl)
    rw [show ch s 1 (tw x) = tw (tw x) from rfl, tw_tw] at this
    exact this
  · subst e
    have hB : In N (B s x) := (h.get hx).2
    have q := ldl_P h (fun y hy p => hP y hy p 2 (.inr rfl)) (Lc s - 1) hB p
    have e2 : ldl (B s) tw (B s x) (List.replicate (Lc s - 1) 116) = x := by
      have := B_cycle h hx
      rw [show Lc s = (Lc s - 1) + 1 by have := Lc_pos z; omega, List.replicate_succ] at this
      exact this
    rw [e2] at q
    exact q
/-- all sides hang together with side 0 -/
def Conn0 (s : List (List Int)) (N : Nat) : Prop := ∀ P : Int → Prop, (∀ x, In N x → ∀ c, c12 c → (P x ↔ P (ch s c x))) → ∀ x y, In N x → In N y → (P x ↔ P y)
theorem conn_of (h : Sd s N) (z : Sz s) (k : Conn0 s N) : Conn s N := fun P hP a b ha hb p => (k P (fun x hx c hc => two_way h z hP hx hc) a b ha hb).mp p
/-! ### faces turned about -/
def rotN (k : Nat) (f : List Int) : List Int := f.drop k ++ f.take k
theorem rotN_perm (k : Nat) (f : List Int) : (rotN k f).Perm f := by
  unfold rotN
  have := List.perm_append_comm (l₁ := f.drop k) (l₂ := f.take k)
  rw [List.take_append_drop] at this
  exact this
theorem rotN_get {k : Nat} {f : List Int} (hk : k ≤ f.length) {i : Nat} (hi : i < f.length) : (rotN k f)[i]? = f[(i + k) % f.length]? := by
  unfold rotN
  by_cases q : i < f.length - k
  · rw [List.getElem?_append_left (by rw [List.length_drop]; exact q), List.getElem?_drop, Nat.mod_eq_of_lt (by omega), Nat.add_comm]
  · rw [List.getElem?_append_right (by rw [List.length_drop]; omega), List.length_drop, List.getElem?_take, if_pos (by omega)]
    congr 1
    have : i + k = (i - (f.length - k)) + f.length := by omega
    rw [this, Nat.add_mod_right, Nat.mod_eq_of_lt (by omega)]
theorem bpf_rot {k : Nat} {f : List Int} (hk : k ≤ f.length) {p : Int × Int} (hp : p ∈ bpf (rotN k f)) : p ∈ bpf f := by
  obtain ⟨i, hi, e⟩ := mem_bpf.mp hp
  have hlen : (rotN k f).length = f.length := (rotN_perm k f).length_eq
  have hi' : i < f.length := by omega
  have g1 := rotN_get hk hi'
  have hm : (i + 1) % (rotN k f).length < f.length := by rw [hlen]; exact Nat.mod_lt _ (by omega)
  have g2 := rotN_get hk hm
  rw [List.getElem?_eq_getElem hi, List.getElem?_eq_getElem (Nat.mod_lt _ (by omega))] at g1
  rw [List.getElem?_eq_getElem (by omega), List.getElem?_eq_getElem (Nat.mod_lt _ (by omega))] at g2
  refine mem_bpf.mpr ⟨(i + k) % f.length, Nat.mod_lt _ (by omega), ?_⟩
  rw [e, Option.some.inj g1, Option.some.inj g2]
  congr 1
  congr 1
  rw [hlen, Nat.mod_add_mod, Nat.mod_add_mod]
  congr 1
  omega
/-- t's faces, each turned about, in any sequence -/
theorem Good.turned (g : Good t N) {ks : List Nat} (hk : ks.length = t.length) (hk2 : ∀ (i k : Nat) (f : List Int), ks[i]? = some k → t[i]? = some f → k ≤ f.length) (hs : s.Perm (List.zipWith rotN ks t)) : Good s N := by
  have key : ∀ (ks : List Nat) (t : List (List Int)), ks.length = t.length → (List.zipWith rotN ks t).flatten.Perm t.flatten := by
    intro ks
    induction ks with
    | nil => intro t h; cases t with
      | nil => exact List.Perm.refl _
      | cons a b => simp at h
    | cons k ks ih =>
      intro t h
      cases t with
      | nil => simp at h
      | cons f t =>
        simp only [List.zipWith_cons_cons, List.flatten_cons]
        exact (rotN_perm k f).append (ih t (by simpa using h))
  have sub : ∀ f, f ∈ s → ∃ k f0, f0 ∈ t ∧ k ≤ f0.length ∧ f = rotN k f0 := fun f hf => by
    obtain ⟨i, hi⟩ := List.mem_iff_getElem?.mp (hs.mem_iff.mp hf)
    rw [List.getElem?_zipWith_eq_some] at hi
    obtain ⟨k, f0, e1, e2, e3⟩ := hi
    exact ⟨k, f0, List.mem_of_getElem? e2, hk2 i k f0 e1 e2, e3.symm⟩
  have sd : Sd s N := ⟨(hs.flatten.trans (key ks t hk)).trans g.sd.perm, g.sd.even, g.sd.small⟩
  have sz : Sz s := fun f hf => by
    obtain ⟨k, f0, h1, _, rfl⟩ := sub f hf
    rw [(rotN_perm k f0).length_eq]
    exact g.sz f0 h1
  have eB : ∀ x, In N x → B s x = B t x := fun x hx => by
    have h1 := dget_mem (sd.get hx).1
    obtain ⟨f, hf, hp⟩ := List.mem_flatMap.mp h1
    obtain ⟨k, f0, q1, q2, rfl⟩ := sub f hf
    have h2 : (x, B s x) ∈ bps t := List.mem_flatMap.mpr ⟨f0, q1, bpf_rot q2 hp⟩
    have h3 := dget_of_mem g.sd.dn h2
    unfold B at h3 ⊢
    rw [h3]
    rfl
  refine ⟨sd, sz, fun P hP a b ha hb p => g.conn P (fun x hx px c hc => ?_) a b ha hb p, g.pos, ?_⟩
  · have := hP x hx px c hc
    rcases hc with e | e
    · subst e; exact this
    · subst e
      rw [show ch s 2 x = B s x from rfl, eB x hx] at this
      exact this
  · have := hs.length_eq
    rw [List.length_zipWith, hk, Nat.min_self] at this
    rw [this]; exact g.few
theorem cut_hi (f : List Int) (k : Nat) (hk : k ≤ f.length) : cutL f (some (k : Int)) none = f.drop k := by
  unfold cutL
  rw [HT.sIx_none, HT.sIx_nat, Nat.min_eq_left hk, List.take_of_length_le (by simp)]
theorem cut_lo (f : List Int) (k : Nat) (hk : k ≤ f.length) : cutL f none (some (k : Int)) = f.take k := by
  unfold cutL
  rw [HT.sIx_none, HT.sIx_nat, Nat.min_eq_left hk]
  simp
theorem ordered_ok (g : Good t N) : ∃ s, f__law_ordered t = some s ∧ Good s N := by
  have hN := g.sd.small
  unfold f__law_ordered m__law_ordered
  simp only [bs, mps, bass, bmap, mapb]
  obtain ⟨z, e, ks, k1, k2, k3⟩ := foldO_inv (f := fun (x_167 : List Int) (g_168 : List (List Int)) => (lmin x_167).bind fun a => (lindex x_167 a).bind fun at_170 => (lcat (cutL x_167 (some at_170) none) (cutL x_167 none (some at_170))).bind fun a => (lapp g_168 (a, ())).bind fun a => some a.2) (xs := t) (g := [])
    (fun pre z => ∃ ks : List Nat, ks.length = pre.length ∧ (∀ (i k : Nat) (f : List Int), ks[i]? = some k → pre[i]? = some f → k ≤ f.length) ∧ z = List.zipWith rotN ks pre) ⟨[], rfl, fun i k f h => by simp at h, rfl⟩ (fun pre f post z e ⟨ks, k1, k2, k3⟩ => by
      have hf : f ∈ t := by rw [e]; simp
      have hsz := g.sz f hf
      have hne : f ≠ [] := by intro q; rw [q] at hsz; simp at hsz
      obtain ⟨m, em⟩ : ∃ m, lmin f = some m := by
        unfold lmin
        cases q : f.min? with
        | none => rw [List.min?_eq_none_iff] at q; exact absurd q hne
        | some m => exact ⟨m, rfl⟩
      have hm : m ∈ f := List.min?_mem em
      obtain ⟨k, ek⟩ : ∃ k : Nat, f.findIdx? (· == m) = some k := by
        cases q : f.findIdx? (· == m) with
        | none =>
          rw [List.findIdx?_eq_none_iff] at q
          have := q m hm
          simp at this
        | some k => exact ⟨k, rfl⟩
      have hk : k < f.length := by
        have := (List.findIdx?_eq_some_iff_getElem.mp ek).1
        exact this
      rw [em, bs, show lindex f m = some (k : Int) by unfold lindex; rw [ek]; rfl, bs, cut_hi f k (by omega), cut_lo f k (by omega)]
      have hl : lcat (f.drop k) (f.take k) = some (rotN k f) := if_pos (by rw [sizeLine_eq]; simp; omega)
      rw [hl, bs, lapp_eq (by
        rw [k3, List.length_zipWith, k1, Nat.min_self, sizeLine_eq]
        have h1 := congrArg List.length e
        have := g.few
        simp at h1
        omega), bs]
      refine ⟨_, rfl, ks ++ [k], by simp [k1], fun i k' f' h1 h2 => ?_, ?_⟩
      · by_cases hi : i < ks.length
        · rw [List.getElem?_append_left hi] at h1
          rw [List.getElem?_append_left (by omega)] at h2
          exact k2 i k' f' h1 h2
        · have hi2 : i = ks.length := by
            have := (List.getElem?_eq_some_iff.mp h1).1
            simp at this
            omega
          subst hi2
          simp at h1
          rw [k1] at h2
          simp at h2
          subst h1; subst h2
          omega
      · rw [k3, List.zipWith_append k1]
        rfl)
  rw [e]; simp only [bs]
  have hall : (z.all fun x => !x.isEmpty) = true := by
    rw [List.all_eq_true]
    intro x hx
    rw [k3] at hx
    obtain ⟨i, hi⟩ := List.mem_iff_getElem?.mp hx
    rw [List.getElem?_zipWith_eq_some] at hi
    obtain ⟨k, f0, e1, e2, e3⟩ := hi
    have := (rotN_perm k f0).length_eq
    have hsz := g.sz f0 (List.mem_of_getElem? e2)
    cases x with
    | nil => rw [e3] at this; simp at this; omega
    | cons a b => rfl
  unfold tsort
  rw [if_pos hall]; simp only [bs, frr]
  exact ⟨_, rfl, g.turned k1 k2 (by rw [← k3]; exact List.mergeSort_perm _ _)⟩
/-! ### known solids -/
def insD (acc : List Int) (x : Int) : List Int := if acc.contains x then acc else acc ++ [x]
def reachS (s : List (List Int)) : Nat → List Int → List Int
  | 0, S => S
  | k + 1, S => reachS s k ((S.map (B s) ++ S.map tw).foldl insD S)
def goodB (s : List (List Int)) : Bool :=
  let N := s.flatten.length
  decide (N % 2 = 0) && decide (0 < N) && decide (N ≤ 1000) && decide (s.length ≤ 1000) && (s.all fun f => decide (1 ≤ f.length) && decide (f.length ≤ 12)) &&
    ((List.range N).all fun i => s.flatten.contains (i : Int)) && ((List.range N).all fun i => (reachS s 9 [0]).contains (i : Int))
theorem perm_of_all {l : List Int} (h : ∀ i, i < l.length → (i : Int) ∈ l) : l.Perm (rngL 0 (l.length : Int)) := by
  have h1 : ∀ (a b : List Int), a.Nodup → (∀ x, x ∈ a → x ∈ b) → b.length ≤ a.length → b.Perm a := by
    intro a
    induction a with
    | nil =>
      intro b _ _ hl
      have : b = [] := List.length_eq_zero_iff.mp (by simpa using hl)
      rw [this]
    | cons x a ih =>
      intro b nd hs hl
      rw [List.nodup_cons] at nd
      have hx := hs x (by simp)
      have := ih (b.erase x) nd.2 (fun y hy => (List.mem_erase_of_ne (fun e : y = x => nd.1 (e ▸ hy))).mpr (hs y (by simp [hy]))) (by
        rw [List.length_erase_of_mem hx]
        simp at hl
        omega)
      exact (List.perm_cons_erase hx).trans (this.cons x)
  refine h1 _ _ (rngL_nodup _ _) (fun x hx => ?_) (by rw [rngL_length]; omega)
  obtain ⟨a, b⟩ := mem_rngL.mp hx
  obtain ⟨i, rfl⟩ := Int.eq_ofNat_of_zero_le a
  exact h i (by omega)
theorem ins_foldl (P : Int → Prop) : ∀ (l acc : List Int), (∀ x, x ∈ l → P x) → (∀ x, x ∈ acc → P x) → ∀ x, x ∈ l.foldl insD acc → P x
  | [], acc, _, h, x, hx => h x hx
  | y :: l, acc, hl, h, x, hx => by
    refine ins_foldl P l (insD acc y) (fun z hz => hl z (by simp [hz])) (fun z hz => ?_) x hx
    unfold insD at hz
    split at hz
    · exact h z hz
    · rcases List.mem_append.mp hz with q | q
      · exact h z q
      · rw [List.mem_singleton] at q; rw [q]; exact hl y (by simp)
theorem reach_P (h : Sd s N) {P : Int → Prop} (hP : ∀ x, In N x → P x → P (B s x) ∧ P (tw x)) : ∀ (k : Nat) (S : List Int), (∀ x, x ∈ S → In N x ∧ P x) → ∀ x, x ∈ reachS s k S → In N x ∧ P x
  | 0, S, hS, x, hx => hS x hx
  | k + 1, S, hS, x, hx => by
    refine reach_P h hP k _ (fun y hy => ins_foldl (fun x => In N x ∧ P x) _ _ (fun z hz => ?_) hS y hy) x hx
    rcases List.mem_append.mp hz with q | q
    · obtain ⟨w, hw, e⟩ := List.mem_map.mp q
      obtain ⟨a, b⟩ := hS w hw
      rw [← e]
      exact ⟨(h.get a).2, (hP w a b).1⟩
    · obtain ⟨w, hw, e⟩ := List.mem_map.mp q
      obtain ⟨a, b⟩ := hS w hw
      rw [← e]
      exact ⟨h.tw a, (hP w a b).2⟩
theorem good_of (hg : goodB s = true) : Good s s.flatten.length := by
  unfold goodB at hg
  simp only [Bool.and_eq_true, decide_eq_true_eq, List.all_eq_true, List.mem_range, List.contains_iff_mem] at hg
  obtain ⟨⟨⟨⟨⟨⟨h1, h2⟩, h3⟩, h4⟩, h5⟩, h6⟩, h7⟩ := hg
  have sd : Sd s s.flatten.length := ⟨perm_of_all h6, h1, h3⟩
  have sz : Sz s := h5
  have h0 : In s.flatten.length 0 := ⟨by omega, by omega⟩
  refine ⟨sd, sz, conn_of sd sz fun P hP x y hx hy => ?_, h2, h4⟩
  have all : ∀ x, In s.flatten.length x → (P 0 ↔ P x) := fun x hx => by
    obtain ⟨a, b⟩ := hx
    obtain ⟨i, rfl⟩ := Int.eq_ofNat_of_zero_le a
    have := reach_P sd (P := fun x => P 0 ↔ P x) (fun y hy p => ⟨p.trans (hP y hy 2 (.inr rfl)), p.trans (hP y hy 1 (.inl rfl))⟩) 9 [0] (fun y hy => by
      rw [List.mem_singleton] at hy
      rw [hy]
      exact ⟨h0, Iff.rfl⟩) _ (h7 i (by omega))
    exact this.2
  exact (all x hx).symm.trans (all y hy)
end
end Mx
/-! M13: tetrahedron, cube, tori, two faces. Own work. -/
namespace Mx
open PySem PySem.Spec L2 Rf K83
theorem tetra_good : Good [[0, 2, 4], [1, 6, 8], [3, 9, 10], [5, 11, 7]] 12 := good_of (s := [[0, 2, 4], [1, 6, 8], [3, 9, 10], [5, 11, 7]]) (by decide +kernel)
theorem cube_good : Good [[0, 2, 4, 6], [1, 8, 10, 12], [3, 13, 14, 16], [5, 17, 18, 20], [7, 21, 22, 9], [11, 23, 19, 15]] 24 := good_of (s := [[0, 2, 4, 6], [1, 8, 10, 12], [3, 13, 14, 16], [5, 17, 18, 20], [7, 21, 22, 9], [11, 23, 19, 15]]) (by decide +kernel)
def rawT (a b c : Int) : Option (List (List Int)) := (pmul a b).bind fun a_1 => (rng1 a_1).bind fun a_2 => foldO (fun x_328 g_329 => (pmod x_328 a).bind fun x_331 => (pdiv x_328 a).bind fun y_332 => (pmul y_332 a).bind fun a_3 => (pmod (x_331 - 1) a).bind fun a_4 =>
  (if decide (0 < y_332) = true then (pmul (y_332 - 1) a).bind fun x => some (x + x_331) else (pmul (b - 1) a).bind fun x => (pmod (x_331 - c) a).bind fun y => some (x + y)).bind fun south_334 =>
    (pmul 4 x_328).bind fun a => (pmul 4 x_328).bind fun a_5 => (pmul 4 (a_3 + a_4)).bind fun a_6 => (pmul 4 south_334).bind fun a_7 => (lapp g_329 ([a, a_5 + 2, a_6 + 1, a_7 + 3], ())).bind fun a => some a.2) a_2 []
def okT (a b c : Int) : Bool := match rawT a b c with
  | some t => goodB t
  | none => false
theorem tori_all : ((List.range 3).all fun i => (List.range 3).all fun j => (List.range (i + 1)).all fun k => okT (1 + (i : Int)) (1 + (j : Int)) (k : Int)) = true := by decide +kernel
theorem rawT_ok {a b c : Int} {t : List (List Int)} {N : Nat} (e : rawT a b c = some t) (g : Good t N) : ∃ s, f__law_torus a b c = some s ∧ Good s N := by
  obtain ⟨s, es, gs⟩ := ordered_ok g
  refine ⟨s, ?_, gs⟩
  unfold f__law_torus m__law_torus
  simp only [bs, mps, bass, bmap, mapb]
  unfold rawT at e
  obtain ⟨x1, e1, e2⟩ := Option.bind_eq_some_iff.mp e
  obtain ⟨x2, e3, e4⟩ := Option.bind_eq_some_iff.mp e2
  rw [e1, bs, e3, bs, e4, bs, es, bs, frr]
theorem okT_ok {a b c : Int} (h : okT a b c = true) : ∃ s N, f__law_torus a b c = some s ∧ Good s N := by
  unfold okT at h
  cases e : rawT a b c with
  | none => rw [e] at h; cases h
  | some t =>
    rw [e] at h
    obtain ⟨s, es, gs⟩ := rawT_ok e (good_of h)
    exact ⟨s, _, es, gs⟩
theorem torus_ok {i j k : Int} (i0 : 0 ≤ i) (i1 : i < 3) (j0 : 0 ≤ j) (j1 : j < 3) (k0 : 0 ≤ k) (k1 : k < 1 + i) : ∃ s N, f__law_torus (1 + i) (1 + j) k = some s ∧ Good s N := by
  obtain ⟨a, rfl⟩ := Int.eq_ofNat_of_zero_le i0
  obtain ⟨b, rfl⟩ := Int.eq_ofNat_of_zero_le j0
  obtain ⟨c, rfl⟩ := Int.eq_ofNat_of_zero_le k0
  have h1 := List.all_eq_true.mp tori_all a (List.mem_range.mpr (by omega))
  have h2 := List.all_eq_true.mp h1 b (List.mem_range.mpr (by omega))
  have h3 := List.all_eq_true.mp h2 c (List.mem_range.mpr (by omega))
  exact okT_ok h3
def evn (n : Nat) : List Int := (rngL 0 (n : Int)).map fun k => 2 * k
def odd (n : Nat) : List Int := (rngL 0 (n : Int)).map fun k => 2 * k + 1
theorem two_all : ((List.range 6).all fun i => goodB [evn (i + 1), (odd (i + 1)).reverse]) = true := by decide +kernel
theorem two_good {n : Nat} (h0 : 1 ≤ n) (h1 : n ≤ 6) : ∃ N, Good [evn n, (odd n).reverse] N := by
  have h := List.all_eq_true.mp two_all (n - 1) (List.mem_range.mpr (by omega))
  have e : n - 1 + 1 = n := by omega
  rw [e] at h
  exact ⟨_, good_of h⟩
end Mx
/-! M14: drawn gluings. Own work. -/
namespace Mx
open PySem PySem.Spec L2 Rf K83
theorem rngL_succ (k : Nat) : rngL 0 ((k + 1 : Nat) : Int) = rngL 0 (k : Int) ++ [(k : Int)] := by
  rw [rngL_eq, rngL_eq, List.range_succ, List.map_append]
  rfl
theorem rngL_zero : rngL 0 ((0 : Nat) : Int) = [] := rfl
abbrev Key := Int × Int
def qd (q : List Int) (x : Int) : Int := (q[x.toNat]?).getD 0
def faceK (q : List Int) (x : Int) : List Key := (rngL 0 (qd q x)).map fun a => (x, a)
def allK (q : List Int) (k : Nat) : List Key := (rngL 0 (k : Int)).flatMap (faceK q)
def flatP (ps : List (Key × Key)) : List Key := ps.flatMap fun p => [p.1, p.2]
theorem allK_succ (q : List Int) (k : Nat) : allK q (k + 1) = allK q k ++ faceK q k := by
  unfold allK
  rw [rngL_succ, List.flatMap_append]
  simp
theorem mem_faceK {q : List Int} {x : Int} {p : Key} : p ∈ faceK q x ↔ p.1 = x ∧ 0 ≤ p.2 ∧ p.2 < qd q x := by
  unfold faceK
  rw [List.mem_map]
  constructor
  · rintro ⟨a, ha, e⟩
    obtain ⟨h1, h2⟩ := mem_rngL.mp ha
    rw [← e]; exact ⟨rfl, h1, h2⟩
  · rintro ⟨h1, h2, h3⟩
    exact ⟨p.2, mem_rngL.mpr ⟨h2, h3⟩, by rw [← h1]⟩
theorem mem_allK {q : List Int} {k : Nat} {p : Key} : p ∈ allK q k ↔ (0 ≤ p.1 ∧ p.1 < k) ∧ 0 ≤ p.2 ∧ p.2 < qd q p.1 := by
  unfold allK
  rw [List.mem_flatMap]
  constructor
  · rintro ⟨x, hx, hp⟩
    obtain ⟨h1, h2⟩ := mem_faceK.mp hp
    rw [h1]
    exact ⟨mem_rngL.mp hx, h2⟩
  · rintro ⟨h1, h2⟩
    exact ⟨p.1, mem_rngL.mpr h1, mem_faceK.mpr ⟨rfl, h2⟩⟩
theorem faceK_len (q : List Int) (x : Int) : (faceK q x).length = (qd q x).toNat := by
  unfold faceK
  rw [List.length_map, rngL_length]
  omega
theorem faceK_nodup (q : List Int) (x : Int) : (faceK q x).Nodup := by
  unfold faceK
  refine List.Pairwise.map _ (fun a b h e => h ?_) (rngL_nodup 0 _)
  exact (Prod.mk.inj e).2
theorem allK_nodup (q : List Int) : ∀ k, (allK q k).Nodup
  | 0 => List.nodup_nil
  | k + 1 => by
    rw [allK_succ, List.nodup_append]
    refine ⟨allK_nodup q k, faceK_nodup q k, fun a ha b hb e => ?_⟩
    have h1 := (mem_allK.mp ha).1.2
    have h2 := (mem_faceK.mp hb).1
    rw [e, h2] at h1
    omega
structure Qs (q : List Int) : Prop where
  ok : ∀ x, x ∈ q → 2 ≤ x ∧ x ≤ 12
  ne : q ≠ []
  few : q.length ≤ 30
  even : q.sum % 2 = 0
section
variable {q : List Int}
theorem qd_ok (h : Qs q) {k : Nat} (hk : k < q.length) : 2 ≤ qd q k ∧ qd q k ≤ 12 := by
  unfold qd
  rw [Int.toNat_natCast, List.getElem?_eq_getElem hk]
  exact h.ok _ (List.getElem_mem hk)
theorem allK_lo (h : Qs q) : ∀ k, k ≤ q.length → 2 * k ≤ (allK q k).length ∧ (allK q k).length ≤ 12 * k
  | 0, _ => ⟨Nat.le_refl _, Nat.le_refl _⟩
  | k + 1, hk => by
    obtain ⟨h1, h2⟩ := allK_lo h k (by omega)
    obtain ⟨h3, h4⟩ := qd_ok h (k := k) (by omega)
    rw [allK_succ, List.length_append, faceK_len]
    omega
theorem allK_sum : ∀ k, (∀ x, x ∈ q → 0 ≤ x) → k ≤ q.length → ((allK q k).length : Int) = (q.take k).sum
  | 0, _, _ => rfl
  | k + 1, h0, hk => by
    rw [allK_succ, List.length_append, faceK_len, List.take_add_one, List.sum_append, ← allK_sum k h0 (by omega)]
    have : qd q k = q[k] := by unfold qd; rw [Int.toNat_natCast, List.getElem?_eq_getElem (by omega)]; rfl
    rw [this, List.getElem?_eq_getElem (by omega)]
    have := h0 q[k] (List.getElem_mem _)
    simp
    omega
theorem allK_even (h : Qs q) : (allK q q.length).length % 2 = 0 := by
  have h1 := allK_sum (q := q) q.length (fun x hx => by have := (h.ok x hx).1; omega) (Nat.le_refl _)
  rw [List.take_length] at h1
  have := h.even
  omega
theorem flatP_len (ps : List (Key × Key)) : (flatP ps).length = 2 * ps.length := by
  induction ps with
  | nil => rfl
  | cons p ps ih => unfold flatP at ih ⊢; simp [ih]; omega
theorem flatP_app (a b : List (Key × Key)) : flatP (a ++ b) = flatP a ++ flatP b := by unfold flatP; simp
/-- the faces hang together by the pairs -/
def ConnK (q : List Int) (k : Nat) (ps : List (Key × Key)) : Prop := ∀ P : Key → Prop, (∀ x y : Key, x ∈ allK q k → y ∈ allK q k → x.1 = y.1 → (P x ↔ P y)) → (∀ p, p ∈ ps → (P p.1 ↔ P p.2)) → ∀ x y, x ∈ allK q k → y ∈ allK q k → (P x ↔ P y)
theorem ConnK.more {k : Nat} {ps ps' : List (Key × Key)} (h : ConnK q k ps) (hs : ∀ p, p ∈ ps → p ∈ ps') : ConnK q k ps' := fun P a b => h P a fun p hp => b p (hs p hp)
structure Gl (q : List Int) (k : Nat) (g : Cup × List Key × List (Key × Key)) : Prop where
  cup : CupOk g.1
  perm : (g.2.1 ++ flatP g.2.2).Perm (allK q k)
  many : g.2.2.length = k - 1
  conn : 0 < k → ConnK q k g.2.2
theorem lpop_mem {α : Type} {xs : List α} (h : xs ≠ []) : ∃ x ys, lpop xs () = some (x, ys) ∧ (x :: ys).Perm xs := by
  obtain ⟨x, ys, e, e2⟩ := lpop_some h
  exact ⟨x, ys, e2, by rw [e]; exact (List.perm_append_singleton x ys).symm⟩
theorem perm_move {free free' own own' fl : List Key} {u v : Key} (h1 : (u :: free').Perm free) (h2 : (v :: own').Perm own) : ((free' ++ own') ++ (fl ++ [u, v])).Perm ((free ++ fl) ++ own) := by
  rw [List.perm_iff_count]
  intro a
  have e1 := List.perm_iff_count.mp h1 a
  have e2 := List.perm_iff_count.mp h2 a
  simp only [List.count_append, List.count_cons, List.count_nil] at e1 e2 ⊢
  omega
theorem perm_two {free free' fl : List Key} {u v : Key} {f1 : List Key} (h1 : (u :: f1).Perm free) (h2 : (v :: free').Perm f1) : (free' ++ (fl ++ [u, v])).Perm (free ++ fl) := by
  rw [List.perm_iff_count]
  intro a
  have e1 := List.perm_iff_count.mp h1 a
  have e2 := List.perm_iff_count.mp h2 a
  simp only [List.count_append, List.count_cons, List.count_nil] at e1 e2 ⊢
  omega
theorem flatP_one (u v : Key) : flatP [(u, v)] = [u, v] := rfl
theorem face_step (h : Qs q) {k : Nat} (hk : k < q.length) {g : Cup × List Key × List (Key × Key)} (G : Gl q k g) {n : Nat} (hn : 2000 ≤ n) :
    ∃ g', ((atI q (k : Int)).bind fun a => (rng1 a).bind fun a => (compO (fun x_199 => (some true)) (fun x_199 => (some ((k : Int), x_199))) a).bind fun a => (fits a).bind fun a => (f__law_mixed n g.1 a).bind fun b_196 =>
      (if decide ((0 : Int) < (k : Int)) = true then (f__law_sip n b_196.2 (g.2.1.length : Int)).bind fun a => (lpopAt g.2.1 (a.1, ())).bind fun a_2 => (lpop b_196.1 ()).bind fun a_3 => (lapp g.2.2 ((a_2.1, a_3.1), ())).bind fun a_4 => some (a.2, a_2.2, a_4.2, a_3.2)
        else some (b_196.2, g.2.1, g.2.2, b_196.1)).bind fun b_201 => (lcat b_201.2.1 b_201.2.2.2).bind fun free_228 => some (b_201.1, free_228, b_201.2.2.1)) = some g' ∧ Gl q (k + 1) g' := by
  obtain ⟨c, free, pairs⟩ := g
  obtain ⟨Gc, Gp, Gm, Gk⟩ := G
  have Gm' : pairs.length = k - 1 := Gm
  have Gp' : (free ++ flatP pairs).Perm (allK q k) := Gp
  obtain ⟨q2, q12⟩ := qd_ok h hk
  obtain ⟨l1, l2⟩ := allK_lo h k (by omega)
  have hf := h.few
  have lenP := Gp'.length_eq
  rw [List.length_append, flatP_len] at lenP
  have eq : atI q (k : Int) = some (qd q k) := by
    rw [atI_nat hk]
    unfold qd
    rw [Int.toNat_natCast, List.getElem?_eq_getElem hk]
    rfl
  rw [eq, bs, rng1_eq (by omega) (by omega), bs, compO_map (fun x => ((k : Int), x)) fun _ _ => rfl, bs]
  have own0 : (rngL 0 (qd q k)).map (fun x => ((k : Int), x)) = faceK q k := rfl
  rw [own0, fits_eq (by rw [faceK_len, sizeLine_eq]; omega), bs]
  obtain ⟨⟨own, c1⟩, e1, p1, ok1⟩ := mixed_ok (n := n) (xs := faceK q k) Gc (by rw [faceK_len]; omega) (by rw [faceK_len]; omega)
  have p1' : own.Perm (faceK q k) := p1
  have lown := p1'.length_eq
  rw [faceK_len] at lown
  rw [e1, bs]
  by_cases hk0 : k = 0
  · subst hk0
    rw [decide_eq_false (by omega)]
    simp only [Bool.false_eq_true, if_false, bs]
    have e0 : pairs = [] := List.length_eq_zero_iff.mp Gm'
    subst e0
    rw [show lcat free own = some (free ++ own) from if_pos (by rw [sizeLine_eq]; omega), bs]
    refine ⟨_, rfl, ok1, ?_, rfl, fun _ => ?_⟩
    · show ((free ++ own) ++ flatP []).Perm _
      rw [allK_succ]
      rw [show flatP [] = [] from rfl, List.append_nil] at Gp' ⊢
      exact Gp'.append p1'
    · intro P hP _ x y hx hy
      refine hP x y hx hy ?_
      have h1 := (mem_allK.mp hx).1
      have h2 := (mem_allK.mp hy).1
      omega
  · have hkp : (0 : Int) < (k : Int) := by omega
    rw [decide_eq_true hkp]
    simp only [if_true]
    obtain ⟨⟨i, c2⟩, e2, i0, i1, ok2⟩ := sip_ok (n := n) ok1 (many := (free.length : Int)) (by omega) (by omega) (by omega)
    have i0' : 0 ≤ i := i0
    have i1' : i < free.length := i1
    rw [e2, bs]
    obtain ⟨u, eu, epop⟩ := lpopAt_some (xs := free) i0' i1' (by omega)
    have pu := erase_perm eu
    show ∃ g', (Option.bind ((lpopAt free (i, ())).bind _) _) = some g' ∧ _
    rw [epop, bs]
    obtain ⟨v, own', ev, pv⟩ := lpop_mem (xs := own) (by intro z; rw [z] at lown; simp at lown; omega)
    show ∃ g', (Option.bind ((lpop own ()).bind _) _) = some g' ∧ _
    rw [ev, bs]
    show ∃ g', (Option.bind ((lapp pairs ((u, v), ())).bind _) _) = some g' ∧ _
    rw [lapp_eq (by rw [sizeLine_eq]; omega), bs, bs]
    have lu := pu.length_eq
    have lv := pv.length_eq
    simp only [List.length_cons] at lu lv
    show ∃ g', ((lcat (free.eraseIdx i.toNat) own').bind _) = some g' ∧ _
    rw [show lcat (free.eraseIdx i.toNat) own' = some (free.eraseIdx i.toNat ++ own') from if_pos (by rw [sizeLine_eq]; omega), bs]
    refine ⟨_, rfl, ok2, ?_, ?_, fun _ => ?_⟩
    · show ((free.eraseIdx i.toNat ++ own') ++ flatP (pairs ++ [(u, v)])).Perm _
      rw [flatP_app, flatP_one, allK_succ]
      exact (perm_move pu pv).trans (Gp'.append p1')
    · show (pairs ++ [(u, v)]).length = _
      rw [List.length_append, Gm']; simp; omega
    · show ConnK q (k + 1) (pairs ++ [(u, v)])
      intro P hP hp
      have hv : v ∈ faceK q k := p1'.mem_iff.mp (pv.mem_iff.mp (by simp))
      have hu : u ∈ allK q k := Gp'.mem_iff.mp (List.mem_append_left _ (pu.mem_iff.mp (by simp)))
      have up : ∀ x, x ∈ allK q k → x ∈ allK q (k + 1) := fun x hx => by rw [allK_succ]; exact List.mem_append_left _ hx
      have vp : ∀ x, x ∈ faceK q k → x ∈ allK q (k + 1) := fun x hx => by rw [allK_succ]; exact List.mem_append_right _ hx
      have old := Gk (by omega) P (fun x y hx hy e => hP x y (up x hx) (up y hy) e) (fun p hp' => hp p (List.mem_append_left _ hp'))
      have huv : P u ↔ P v := hp (u, v) (by simp)
      have toU : ∀ x, x ∈ allK q (k + 1) → (P x ↔ P u) := fun x hx => by
        rw [allK_succ] at hx
        rcases List.mem_append.mp hx with z | z
        · exact old x u z hu
        · exact (hP x v (vp x z) (vp v hv) ((mem_faceK.mp z).1.trans (mem_faceK.mp hv).1.symm)).trans huv.symm
      exact fun x y hx hy => (toU x hx).trans (toU y hy).symm
end
end Mx
/-! M15: drawn gluings, numbered. Own work. -/
namespace Mx
open PySem PySem.Spec L2 Rf K83
section
variable {q : List Int}
theorem laug_last (xs : List Int) (x : Int) : laug (xs ++ [x]) (-1) 1 = some (xs ++ [x + 1]) := by
  unfold laug ixN
  rw [if_neg (by decide), if_pos (by simp; omega), bs]
  have : (-1 + ((xs ++ [x]).length : Int)).toNat = xs.length := by simp; omega
  rw [this]
  simp
theorem pair_up {all free : List Key} {pairs : List (Key × Key)} (hp : (free ++ flatP pairs).Perm all) (hev : free.length % 2 = 0) (hl : all.length ≤ 1000) {n : Nat} (hn : 2000 ≤ n) {τ : Type} {K : List Key × List (Key × Key) → Option τ} {Q : τ → Prop}
    (hk : ∀ ps, (flatP ps).Perm all → (∀ p, p ∈ pairs → p ∈ ps) → ∃ r, K ([], ps) = some r ∧ Q r) :
    ∃ r, ((whileM (fun g_242 : List Key × List (Key × Key) => some (decide ((0 : Int) < (g_242.1.length : Int)))) (fun g_243 => (lpop g_243.1 ()).bind fun a => (lpop a.2 ()).bind fun a_7 => (lapp g_243.2 ((a.1, a_7.1), ())).bind fun a => some (a_7.2, a.2)) n (free, pairs)).bind K) = some r ∧ Q r := by
  refine whileM_ex (fun g => (g.1 ++ flatP g.2).Perm all ∧ g.1.length % 2 = 0 ∧ ∀ p, p ∈ pairs → p ∈ g.2) (fun g => g.1.length) (fun g ⟨h1, h2, h3⟩ => ?_) ⟨hp, hev, fun p h => h⟩ ?_ fun z ⟨h1, h2, h3⟩ ez => ?_
  · obtain ⟨fr, ps⟩ := g
    have h1' : (fr ++ flatP ps).Perm all := h1
    have h2' : fr.length % 2 = 0 := h2
    by_cases z : fr = []
    · left; subst z; rfl
    · right
      have hpos := List.length_pos_iff.mpr z
      refine ⟨by rw [decide_eq_true]; show (0 : Int) < (fr.length : Int); omega, ?_⟩
      obtain ⟨u, f1, e1, p1⟩ := lpop_mem z
      have l1 := p1.length_eq
      simp only [List.length_cons] at l1
      obtain ⟨v, f2, e2, p2⟩ := lpop_mem (xs := f1) (by intro w; rw [w] at l1; simp at l1; omega)
      have l2 := p2.length_eq
      simp only [List.length_cons] at l2
      have ll := h1'.length_eq
      rw [List.length_append, flatP_len] at ll
      rw [show lpop (fr, ps).1 () = some (u, f1) from e1, bs]
      show ∃ g', ((lpop f1 ()).bind _) = some g' ∧ _
      rw [e2, bs]
      show ∃ g', ((lapp ps ((u, v), ())).bind _) = some g' ∧ _
      rw [lapp_eq (by rw [sizeLine_eq]; omega), bs]
      refine ⟨_, rfl, ⟨?_, ?_, fun p hp => List.mem_append_left _ (h3 p hp)⟩, ?_⟩
      · show (f2 ++ flatP (ps ++ [(u, v)])).Perm all
        rw [flatP_app, flatP_one]
        exact (perm_two p1 p2).trans h1'
      · show f2.length % 2 = 0
        omega
      · show f2.length < fr.length
        omega
  · show free.length < n
    have := hp.length_eq
    rw [List.length_append] at this
    omega
  · have hz : z.1 = [] := by
      have := of_decide_eq_false (Option.some.inj ez)
      exact List.length_eq_zero_iff.mp (by omega)
    obtain ⟨fr, ps⟩ := z
    have hz' : fr = [] := hz
    subst hz'
    exact hk ps h1 h3
def num (d : List (Key × Int)) (x : Key) : Int := (dget d x).getD 0
structure Nm (ps : List (Key × Key)) (k : Nat) (d : List (Key × Int)) : Prop where
  dn : DN d
  key : ∀ x, x ∈ d.map (·.1) → x ∈ flatP (ps.take k)
  len : d.length ≤ 2 * k
  val : ∀ (j : Nat) (p : Key × Key), j < k → ps[j]? = some p → ∃ t : Int, (t = 0 ∨ t = 1) ∧ dget d p.1 = some (2 * j + t) ∧ dget d p.2 = some (2 * j + 1 - t)
theorem num_step {ps : List (Key × Key)} (nd : (flatP ps).Nodup) {k : Nat} (hk : k < ps.length) (hl : ps.length ≤ 1000) {c : Cup} (hc : CupOk c) {d : List (Key × Int)} (D : Nm ps k d) {n : Nat} (hn : 2000 ≤ n) :
    ∃ g' : Cup × List (Key × Int), ((f__law_sip n c 2).bind fun b_279 => (pmul 2 1).bind fun a => (pmul a (k : Int)).bind fun a => (atI ps (k : Int)).bind fun a_11 => (if True then some a_11.1 else none).bind fun a_12 => (dputL d a_12 (a + b_279.1)).bind fun number_282 =>
      (pmul 2 1).bind fun a => (pmul a (k : Int)).bind fun a => (atI ps (k : Int)).bind fun a_13 => (if True then some a_13.2 else none).bind fun a_14 => (dputL number_282 a_14 (a + 1 - b_279.1)).bind fun number_283 => some (b_279.2, number_283)) = some g' ∧ CupOk g'.1 ∧ Nm ps (k + 1) g'.2 := by
  obtain ⟨⟨t, c1⟩, e1, t0, t1, ok1⟩ := sip_ok (n := n) hc (many := 2) (by decide) (by decide) (by omega)
  have t0' : 0 ≤ t := t0
  have t1' : t < 2 := t1
  have gk : ps[k]? = some ps[k] := List.getElem?_eq_getElem hk
  have hsplit : ps.take (k + 1) = ps.take k ++ [ps[k]] := by rw [List.take_add_one, gk]; rfl
  have nd2 : (flatP (ps.take k) ++ [ps[k].1, ps[k].2]).Nodup := by
    have h1 : (flatP (ps.take (k + 1)) ++ flatP (ps.drop (k + 1))).Nodup := by
      rw [← flatP_app, List.take_append_drop]; exact nd
    have h2 := (List.nodup_append.mp h1).1
    rw [hsplit, flatP_app] at h2
    exact h2
  rw [List.nodup_append] at nd2
  obtain ⟨_, nd3, nd4⟩ := nd2
  have ne12 : ps[k].1 ≠ ps[k].2 := by
    intro e
    rw [List.nodup_cons] at nd3
    exact nd3.1 (by rw [e]; simp)
  have m2 : pmul 2 1 = some 2 := by rw [pmul_l (by decide) (by decide)]; rfl
  rw [e1, bs, m2, bs, pmul_l (by decide) (by decide), bs, atI_nat hk, bs, if_pos trivial, bs]
  have hdl := D.len
  generalize hp : ps[k] = p at *
  have n1 : p.1 ∉ d.map (·.1) := fun h => nd4 _ (D.key _ h) p.1 (by simp) rfl
  rw [dputL_eq (by rw [sizeLine_eq]; omega), bs, bs, pmul_l (by decide) (by decide), bs, bs, if_pos trivial, bs]
  have l1 := length_dput_new (x := 2 * (k : Int) + t) n1
  rw [dputL_eq (by rw [sizeLine_eq]; show (dput d p.1 (2 * (k : Int) + t)).length < _; omega), bs]
  refine ⟨_, rfl, ok1, (D.dn.dput _ _).dput _ _, fun x hx => ?_, ?_, fun j p' hj ej => ?_⟩
  · rw [hsplit, flatP_app, List.mem_append]
    rcases mem_keys_dput.mp hx with e | hx
    · right; rw [e]; unfold flatP; simp
    · rcases mem_keys_dput.mp hx with e | hx
      · right; rw [e]; unfold flatP; simp
      · left; exact D.key x hx
  · have := length_dput_le (dput d p.1 (2 * (k : Int) + t)) p.2 (2 * (k : Int) + 1 - t)
    show (dput (dput d p.1 (2 * (k : Int) + t)) p.2 (2 * (k : Int) + 1 - t)).length ≤ _
    omega
  · show ∃ t', _ ∧ dget (dput (dput d p.1 (2 * (k : Int) + t)) p.2 (2 * (k : Int) + 1 - t)) p'.1 = _ ∧ dget (dput (dput d p.1 (2 * (k : Int) + t)) p.2 (2 * (k : Int) + 1 - t)) p'.2 = _
    by_cases q : j = k
    · subst q
      rw [gk] at ej
      have := Option.some.inj ej
      subst this
      refine ⟨t, by omega, ?_, ?_⟩
      · rw [dget_dput, if_neg (Ne.symm ne12), dget_dput, if_pos rfl]
      · rw [dget_dput, if_pos rfl]
    · obtain ⟨t', h1, h2, h3⟩ := D.val j p' (by omega) ej
      have ne1 : ∀ {x y : Key} {v : Int}, dget d x = some v → (y = p.1 ∨ y = p.2) → y ≠ x := fun {x y v} e hy z => by
        have := D.key x (mem_keys_of e)
        rcases hy with w | w
        · exact nd4 _ this p.1 (by simp) (by rw [← w, z])
        · exact nd4 _ this p.2 (by simp) (by rw [← w, z])
      refine ⟨t', h1, ?_, ?_⟩
      · rw [dget_dput, if_neg (ne1 h2 (.inr rfl)), dget_dput, if_neg (ne1 h2 (.inl rfl))]
        exact h2
      · rw [dget_dput, if_neg (ne1 h3 (.inr rfl)), dget_dput, if_neg (ne1 h3 (.inl rfl))]
        exact h3
/-- the faces with their numbers -/
def facesN (q : List Int) (d : List (Key × Int)) : List (List Int) := (rngL 0 (q.length : Int)).map fun x => (rngL 0 (qd q x)).map fun a => num d (x, a)
theorem facesN_flat (q : List Int) (d : List (Key × Int)) : (facesN q d).flatten = (allK q q.length).map (num d) := by
  unfold facesN allK
  rw [List.map_flatMap, ← List.flatMap_def]
  congr 1
  funext x
  unfold faceK
  rw [List.map_map]
  rfl
theorem facesN_good (h : Qs q) {ps : List (Key × Key)} (hp : (flatP ps).Perm (allK q q.length)) (hc : ConnK q q.length ps) {d : List (Key × Int)} (D : Nm ps ps.length d) : ∃ N, Good (facesN q d) N := by
  obtain ⟨l1, l2⟩ := allK_lo h q.length (Nat.le_refl _)
  have hf := h.few
  have hq0 : 0 < q.length := List.length_pos_iff.mpr h.ne
  have lenP := hp.length_eq
  rw [flatP_len] at lenP
  have flen : (facesN q d).flatten.length = 2 * ps.length := by rw [facesN_flat, List.length_map, lenP]
  have memF : ∀ x, x ∈ allK q q.length → num d x ∈ (facesN q d).flatten := fun x hx => by rw [facesN_flat]; exact List.mem_map.mpr ⟨x, hx, rfl⟩
  have cover : ∀ i, i < (facesN q d).flatten.length → (i : Int) ∈ (facesN q d).flatten := fun i hi => by
    rw [flen] at hi
    have hj : i / 2 < ps.length := by omega
    have gj : ps[i / 2]? = some ps[i / 2] := List.getElem?_eq_getElem hj
    obtain ⟨t, ht, e1, e2⟩ := D.val (i / 2) _ hj gj
    have m1 : ps[i / 2].1 ∈ allK q q.length := hp.mem_iff.mp (List.mem_flatMap.mpr ⟨ps[i / 2], List.getElem_mem _, by simp⟩)
    have m2 : ps[i / 2].2 ∈ allK q q.length := hp.mem_iff.mp (List.mem_flatMap.mpr ⟨ps[i / 2], List.getElem_mem _, by simp⟩)
    have f1 := memF _ m1
    have f2 := memF _ m2
    have n1 : num d ps[i / 2].1 = 2 * ((i / 2 : Nat) : Int) + t := by unfold num; rw [e1]; rfl
    have n2 : num d ps[i / 2].2 = 2 * ((i / 2 : Nat) : Int) + 1 - t := by unfold num; rw [e2]; rfl
    rw [n1] at f1
    rw [n2] at f2
    rcases ht with z | z <;> subst z
    · rcases Nat.mod_two_eq_zero_or_one i with w | w
      · have : (i : Int) = 2 * ((i / 2 : Nat) : Int) + 0 := by omega
        rw [this]; exact f1
      · have : (i : Int) = 2 * ((i / 2 : Nat) : Int) + 1 - 0 := by omega
        rw [this]; exact f2
    · rcases Nat.mod_two_eq_zero_or_one i with w | w
      · have : (i : Int) = 2 * ((i / 2 : Nat) : Int) + 1 - 1 := by omega
        rw [this]; exact f2
      · have : (i : Int) = 2 * ((i / 2 : Nat) : Int) + 1 := by omega
        rw [this]; exact f1
  have sd : Sd (facesN q d) (2 * ps.length) := ⟨by rw [← flen]; exact perm_of_all cover, by omega, by omega⟩
  have faceOf : ∀ f, f ∈ facesN q d → ∃ k : Nat, k < q.length ∧ f = (rngL 0 (qd q k)).map fun a => num d ((k : Int), a) := fun f hf => by
    obtain ⟨x, hx, e⟩ := List.mem_map.mp hf
    obtain ⟨h1, h2⟩ := mem_rngL.mp hx
    obtain ⟨k, rfl⟩ := Int.eq_ofNat_of_zero_le h1
    exact ⟨k, by omega, e.symm⟩
  have sz : Sz (facesN q d) := fun f hf => by
    obtain ⟨k, hk, e⟩ := faceOf f hf
    obtain ⟨h1, h2⟩ := qd_ok h hk
    rw [e, List.length_map, rngL_length]
    omega
  refine ⟨2 * ps.length, sd, sz, conn_of sd sz fun P hP x y hx hy => ?_, by omega, ?_⟩
  · have Pk := hc (fun key => P (num d key)) (fun x y hx hy e => ?_) (fun p hp2 => ?_)
    · have nx := sd.mem.mpr hx
      have ny := sd.mem.mpr hy
      rw [facesN_flat] at nx ny
      obtain ⟨a, ha, ea⟩ := List.mem_map.mp nx
      obtain ⟨b, hb, eb⟩ := List.mem_map.mp ny
      rw [← ea, ← eb]
      exact Pk a b ha hb
    · -- one face
      obtain ⟨⟨x1, x2⟩, x3, x4⟩ := mem_allK.mp hx
      obtain ⟨_, y3, y4⟩ := mem_allK.mp hy
      obtain ⟨k, hk⟩ := Int.eq_ofNat_of_zero_le x1
      have hk2 : k < q.length := by omega
      have hfm : ((rngL 0 (qd q k)).map fun a => num d ((k : Int), a)) ∈ facesN q d := List.mem_map.mpr ⟨(k : Int), mem_rngL.mpr ⟨by omega, by omega⟩, rfl⟩
      have step : ∀ i : Nat, (i : Int) + 1 < qd q k → (P (num d ((k : Int), (i : Int))) ↔ P (num d ((k : Int), ((i + 1 : Nat) : Int)))) := fun i hi => by
        have hlen : ((rngL 0 (qd q k)).map fun a => num d ((k : Int), a)).length = (qd q k).toNat := by rw [List.length_map, rngL_length]; omega
        have ge : ∀ (j : Nat) (hj : j < ((rngL 0 (qd q k)).map fun a => num d ((k : Int), a)).length), ((rngL 0 (qd q k)).map fun a => num d ((k : Int), a))[j] = num d ((k : Int), (j : Int)) := fun j hj => by
          rw [List.getElem_map]
          congr 1
          congr 1
          have : (rngL 0 (qd q k))[j]? = some ((rngL 0 (qd q k))[j]'(by rw [List.length_map] at hj; exact hj)) := List.getElem?_eq_getElem _
          have := rngL_get this
          omega
        have hi1 : i < ((rngL 0 (qd q k)).map fun a => num d ((k : Int), a)).length := by rw [hlen]; omega
        have hb := B_face sd hfm hi1
        have hm : (i + 1) % ((rngL 0 (qd q k)).map fun a => num d ((k : Int), a)).length = i + 1 := Nat.mod_eq_of_lt (by rw [hlen]; omega)
        rw [ge i hi1] at hb
        have e2 : ((rngL 0 (qd q k)).map fun a => num d ((k : Int), a))[(i + 1) % ((rngL 0 (qd q k)).map fun a => num d ((k : Int), a)).length]'(Nat.mod_lt _ (by omega)) = num d ((k : Int), ((i + 1 : Nat) : Int)) := by
          rw [ge _ (Nat.mod_lt _ (by omega)), hm]
        rw [e2] at hb
        have inr : In (2 * ps.length) (num d ((k : Int), (i : Int))) := sd.mem.mp (memF _ (mem_allK.mpr ⟨⟨by show (0 : Int) ≤ (k : Int); omega, by show (k : Int) < _; omega⟩, by show (0 : Int) ≤ (i : Int); omega, by show (i : Int) < qd q (k : Int); omega⟩))
        have := hP _ inr 2 (.inr rfl)
        rw [show ch (facesN q d) 2 (num d ((k : Int), (i : Int))) = B (facesN q d) (num d ((k : Int), (i : Int))) from rfl, hb] at this
        exact this
      have zero : ∀ i : Nat, (i : Int) < qd q k → (P (num d ((k : Int), ((0 : Nat) : Int))) ↔ P (num d ((k : Int), (i : Int)))) := by
        intro i
        induction i with
        | zero => intro _; exact Iff.rfl
        | succ i ih => intro hi; exact (ih (by omega)).trans (step i (by omega))
      obtain ⟨a, ha⟩ := Int.eq_ofNat_of_zero_le x3
      obtain ⟨b, hb⟩ := Int.eq_ofNat_of_zero_le y3
      have ex : x = ((k : Int), (a : Int)) := Prod.ext hk ha
      have ey : y = ((k : Int), (b : Int)) := Prod.ext (e.symm.trans hk) hb
      rw [hk] at x4
      rw [← e, hk] at y4
      show P (num d x) ↔ P (num d y)
      rw [ex, ey]
      exact (zero a (by omega)).symm.trans (zero b (by omega))
    · -- twins
      obtain ⟨j, ej⟩ := List.mem_iff_getElem?.mp hp2
      have hj := (List.getElem?_eq_some_iff.mp ej).1
      obtain ⟨t, ht, e1, e2⟩ := D.val j p hj ej
      have n1 : num d p.1 = 2 * (j : Int) + t := by unfold num; rw [e1]; rfl
      have n2 : num d p.2 = 2 * (j : Int) + 1 - t := by unfold num; rw [e2]; rfl
      have m1 : p.1 ∈ allK q q.length := hp.mem_iff.mp (List.mem_flatMap.mpr ⟨p, hp2, by simp⟩)
      have inr := sd.mem.mp (memF _ m1)
      have := hP _ inr 1 (.inl rfl)
      have tt : ch (facesN q d) 1 (num d p.1) = num d p.2 := by
        show tw (num d p.1) = num d p.2
        rw [n1, n2]
        unfold tw
        rcases ht with z | z <;> subst z <;> omega
      rw [tt] at this
      exact this
  · show (facesN q d).length ≤ 1000
    unfold facesN
    rw [List.length_map, rngL_length]
    omega
end
end Mx
/-! M16: glued solids, drawn solids. Own work. -/
namespace Mx
open PySem PySem.Spec L2 Rf K83
theorem glue_ok {c : Cup} (hc : CupOk c) {sizes : List Int} (h1 : ∀ x, x ∈ sizes → 2 ≤ x ∧ x ≤ 11) (h2 : sizes ≠ []) (h3 : sizes.length ≤ 30) {n : Nat} (hn : 2000 ≤ n) :
    ∃ r, f__law_glue n c sizes 0 = some r ∧ (∃ N, Good r.1 N) ∧ CupOk r.2 := by
  unfold f__law_glue m__law_glue
  simp only [bs, mps, bass, bmap, mapb]
  rw [pmod_eq (by decide), bs]
  have qs : ∃ q, (if decide ((sizes.sum - 0) % 2 = 1) = true then (laug sizes (-1) 1).bind fun x => some x else some sizes) = some q ∧ Qs q := by
    by_cases e : (sizes.sum - 0) % 2 = 1
    · rw [decide_eq_true e, if_pos rfl]
      rcases List.eq_nil_or_concat sizes with z | ⟨u, x, z⟩
      · exact absurd z h2
      · rw [List.concat_eq_append] at z
        subst z
        rw [laug_last, bs]
        refine ⟨_, rfl, fun y hy => ?_, by simp, by simpa using h3, ?_⟩
        · rcases List.mem_append.mp hy with w | w
          · have := h1 y (List.mem_append_left _ w); omega
          · rw [List.mem_singleton] at w
            have := h1 x (by simp)
            omega
        · simp only [List.sum_append, List.sum_cons, List.sum_nil] at e ⊢
          omega
    · rw [decide_eq_false e]
      simp only [Bool.false_eq_true, if_false]
      exact ⟨sizes, rfl, fun y hy => by have := h1 y hy; omega, h2, h3, by omega⟩
  obtain ⟨q, eq, Q⟩ := qs
  rw [eq, bs]
  have hF := Q.few
  have hF0 : 0 < q.length := List.length_pos_iff.mpr Q.ne
  obtain ⟨l1, l2⟩ := allK_lo Q q.length (Nat.le_refl _)
  have lev := allK_even Q
  rw [rng1_eq (by omega) (by omega), bs]
  refine foldO_ex (fun pre g => Gl q pre.length g) ⟨hc, List.Perm.refl _, rfl, fun h => absurd h (Nat.lt_irrefl 0)⟩ (fun pre x post g e G => ?_) fun g G => ?_
  · have hx : x = (pre.length : Int) := by
      have h : (rngL 0 (q.length : Int))[pre.length]? = some x := by rw [e]; simp
      have := rngL_get h
      omega
    have hlen : pre.length < q.length := by
      have := congrArg List.length e
      rw [rngL_length] at this
      simp at this
      omega
    subst hx
    obtain ⟨g', e', G'⟩ := face_step Q hlen G (n := n) hn
    refine ⟨g', e', ?_⟩
    rw [List.length_append]
    exact G'
  · rw [rngL_length, show ((q.length : Int) - 0).toNat = q.length by omega] at G
    obtain ⟨c1, free, pairs⟩ := g
    obtain ⟨G1, G2, G3, G4⟩ := G
    have G1' : CupOk c1 := G1
    have G2' : (free ++ flatP pairs).Perm (allK q q.length) := G2
    have G3' : pairs.length = q.length - 1 := G3
    have G4' : ConnK q q.length pairs := G4 hF0
    have lenP := G2'.length_eq
    rw [List.length_append, flatP_len] at lenP
    obtain ⟨⟨fm, c2⟩, e2, p2, ok2⟩ := mixed_ok (n := n) (xs := free) G1' (by omega) (by omega)
    have p2' : fm.Perm free := p2
    have lfm := p2'.length_eq
    show ∃ r, ((f__law_mixed n c1 free).bind _) = some r ∧ _
    rw [e2, bs]
    have hz : (if (fm.length : Int) - ((fm.length : Int) - 0) % 2 < 0 then (fm.length : Int) - ((fm.length : Int) - 0) % 2 else 0) = 0 := if_neg (by omega)
    show ∃ r, ((pmod ((fm.length : Int) - 0) 2).bind _) = some r ∧ _
    rw [pmod_eq (by decide), bs]
    show ∃ r, ((rng1 (if (fm.length : Int) - ((fm.length : Int) - 0) % 2 < 0 then (fm.length : Int) - ((fm.length : Int) - 0) % 2 else 0)).bind _) = some r ∧ _
    rw [hz, rng1_eq (by decide) (by decide), bs, show rngL 0 0 = [] from rfl, foldO, bs]
    refine pair_up (all := allK q q.length) (free := fm) (pairs := pairs) ((p2'.append_right _).trans G2') (by omega) (by omega) hn fun ps hps hsub => ?_
    rw [decide_eq_true rfl, if_pos rfl, bs]
    have lps := hps.length_eq
    rw [flatP_len] at lps
    obtain ⟨⟨pm, c3⟩, e3, p3, ok3⟩ := mixed_ok (n := n) (xs := ps) ok2 (by omega) (by omega)
    have p3' : pm.Perm ps := p3
    have lpm := p3'.length_eq
    show ∃ r, ((f__law_mixed n c2 ps).bind _) = some r ∧ _
    rw [e3, bs]
    show ∃ r, ((rng1 (pm.length : Int)).bind _) = some r ∧ _
    rw [rng1_eq (by omega) (by omega), bs]
    have hflat : (flatP pm).Perm (allK q q.length) := by
      have : (flatP pm).Perm (flatP ps) := by unfold flatP; exact p3'.flatMap_right _
      exact this.trans hps
    have hconn : ConnK q q.length pm := G4'.more fun p hp => p3'.mem_iff.mpr (hsub p hp)
    refine foldO_ex (fun pre g => CupOk g.1 ∧ Nm pm pre.length g.2) ⟨ok3, DN.nil, fun x hx => (List.not_mem_nil hx).elim, Nat.le_refl _, fun j p hj => absurd hj (Nat.not_lt_zero _)⟩ (fun pre x post g e ⟨ok, D⟩ => ?_) fun g ⟨ok, D⟩ => ?_
    · have hx : x = (pre.length : Int) := by
        have h : (rngL 0 (pm.length : Int))[pre.length]? = some x := by rw [e]; simp
        have := rngL_get h
        omega
      have hlen : pre.length < pm.length := by
        have := congrArg List.length e
        rw [rngL_length] at this
        simp at this
        omega
      subst hx
      obtain ⟨g', e', ok', D'⟩ := num_step (hflat.nodup_iff.mpr (allK_nodup q q.length)) hlen (by omega) ok D (n := n) hn
      refine ⟨g', e', ok', ?_⟩
      rw [List.length_append]
      exact D'
    · rw [rngL_length, show ((pm.length : Int) - 0).toNat = pm.length by omega] at D
      rw [bs]
      obtain ⟨N, gd⟩ := facesN_good Q hflat hconn D
      obtain ⟨s, es, gs⟩ := ordered_ok gd
      rw [compO_map (fun x => (rngL 0 (qd q x)).map fun a => num g.2 (x, a)) (fun x hx => ?_), bs]
      · rw [fits_eq (by rw [sizeLine_eq, List.length_map, rngL_length]; omega), bs]
        rw [show ((rngL 0 (q.length : Int)).map fun x => (rngL 0 (qd q x)).map fun a => num g.2 (x, a)) = facesN q g.2 from rfl, es, bs, frr]
        exact ⟨_, rfl, ⟨N, gs⟩, ok⟩
      · obtain ⟨x0, x1⟩ := mem_rngL.mp hx
        obtain ⟨k, rfl⟩ := Int.eq_ofNat_of_zero_le x0
        have hk : k < q.length := by omega
        obtain ⟨q2, q12⟩ := qd_ok Q hk
        have ek : atI q (k : Int) = some (qd q k) := by
          rw [atI_nat hk]
          unfold qd
          rw [Int.toNat_natCast, List.getElem?_eq_getElem hk]
          rfl
        rw [ek, bs, rng1_eq (by omega) (by omega), bs]
        rw [compO_map (fun a => num g.2 ((k : Int), a)) (fun a ha => ?_), bs, fits_eq (by rw [sizeLine_eq, List.length_map, rngL_length]; omega)]
        obtain ⟨a0, a1⟩ := mem_rngL.mp ha
        have hm : ((k : Int), a) ∈ allK q q.length := mem_allK.mpr ⟨⟨x0, x1⟩, a0, a1⟩
        obtain ⟨p, hp, hmem⟩ := List.mem_flatMap.mp (hflat.mem_iff.mpr hm)
        obtain ⟨j, ej⟩ := List.mem_iff_getElem?.mp hp
        obtain ⟨t, _, e1, e2⟩ := D.val j p (List.getElem?_eq_some_iff.mp ej).1 ej
        simp only [List.mem_cons, List.not_mem_nil, or_false] at hmem
        unfold num
        rcases hmem with w | w
        · rw [w, e1]; rfl
        · rw [w, e2]; rfl
theorem solid_ok {c : Cup} (hc : CupOk c) {m : Int} (m0 : 0 < m) (m1 : m ≤ 20) {n : Nat} (hn : 2000 ≤ n) :
    ∃ r, f__law_solid n c m = some r ∧ (∃ N, Good r.1 N) ∧ CupOk r.2 := by
  unfold f__law_solid m__law_solid
  simp only [bs, mps, bass, bmap, mapb]
  obtain ⟨⟨w, c1⟩, e1, w0, w1, ok1⟩ := sip_ok (n := n) hc (many := 7) (by decide) (by decide) (by omega)
  have ok1' : CupOk c1 := ok1
  have w0' : 0 ≤ w := w0
  have w1' : w < 7 := w1
  rw [e1, bs]
  by_cases h0 : w = 0
  · simp only [h0, decide_true, if_true, bs, fbr, frr]
    exact ⟨_, rfl, ⟨12, tetra_good⟩, ok1'⟩
  simp only [h0, decide_false, Bool.false_eq_true, if_false, bs, fbn]
  by_cases h1 : w = 1
  · simp only [h1, decide_true, if_true, bs, fbr, frr]
    exact ⟨_, rfl, ⟨24, cube_good⟩, ok1'⟩
  simp only [h1, decide_false, Bool.false_eq_true, if_false, bs, fbn]
  by_cases h2 : w = 2
  · simp only [h2, decide_true, if_true, bs, bass]
    obtain ⟨⟨a, c2⟩, e2, a0, a1, ok2⟩ := sip_ok (n := n) ok1' (many := 3) (by decide) (by decide) (by omega)
    obtain ⟨⟨b, c3⟩, e3, b0, b1, ok3⟩ := sip_ok (n := n) ok2 (many := 3) (by decide) (by decide) (by omega)
    have a0' : 0 ≤ a := a0
    have a1' : a < 3 := a1
    obtain ⟨⟨k, c4⟩, e4, k0, k1, ok4⟩ := sip_ok (n := n) ok3 (many := 1 + a) (by omega) (by omega) (by omega)
    obtain ⟨s, N, es, gs⟩ := torus_ok a0' a1' b0 b1 k0 k1
    simp only [e2, bs, e3, e4, es, fbr, frr]
    exact ⟨_, rfl, ⟨N, gs⟩, ok4⟩
  simp only [h2, decide_false, Bool.false_eq_true, if_false, bs, fbn]
  by_cases h3 : w = 3
  · simp only [h3, decide_true, if_true, bs, bass]
    obtain ⟨⟨a, c2⟩, e2, a0, a1, ok2⟩ := sip_ok (n := n) ok1' (many := 6) (by decide) (by decide) (by omega)
    have a0' : 0 ≤ a := a0
    have a1' : a < 6 := a1
    simp only [e2, bs]
    obtain ⟨k, rfl⟩ := Int.eq_ofNat_of_zero_le a0'
    have ek : (1 : Int) + (k : Int) = ((k + 1 : Nat) : Int) := by omega
    rw [ek, rng1_eq (by omega) (by omega)]
    simp only [bs]
    rw [compO_map (fun x => 2 * x) fun x _ => pmul_l (by decide) (by decide)]
    simp only [bs]
    rw [fits_eq (by rw [sizeLine_eq, List.length_map, rngL_length]; omega)]
    simp only [bs]
    rw [compO_map (fun x => 2 * x + 1) fun x _ => by rw [pmul_l (i := 2) (by decide) (by decide), bs]]
    simp only [bs]
    rw [fits_eq (by rw [sizeLine_eq, List.length_map, rngL_length]; omega)]
    simp only [bs]
    obtain ⟨N, gd⟩ := two_good (n := k + 1) (by omega) (by omega)
    obtain ⟨s, es, gs⟩ := ordered_ok gd
    rw [show f__law_ordered [(rngL 0 ((k + 1 : Nat) : Int)).map fun x => 2 * x, ((rngL 0 ((k + 1 : Nat) : Int)).map fun x => 2 * x + 1).reverse] = some s from es]
    simp only [bs, fbr, frr]
    exact ⟨_, rfl, ⟨N, gs⟩, ok2⟩
  simp only [h3, decide_false, Bool.false_eq_true, if_false, bs, fbn]
  by_cases h4 : w = 4
  · simp only [h4, decide_true, if_true, bs, bass]
    obtain ⟨⟨a, c2⟩, e2, a0, a1, ok2⟩ := sip_ok (n := n) ok1' (many := 9) (by decide) (by decide) (by omega)
    have a0' : 0 ≤ a := a0
    have a1' : a < 9 := a1
    simp only [e2, bs]
    obtain ⟨r, e3, g3, ok3⟩ := glue_ok ok2 (sizes := [2 + a]) (fun x hx => by rw [List.mem_singleton] at hx; omega) (by simp) (by simp) hn
    rw [show f__law_glue n c2 [2 + a] 0 = some r from e3]
    simp only [bs, fbr, frr]
    exact ⟨_, rfl, g3, ok3⟩
  simp only [h4, decide_false, Bool.false_eq_true, if_false, bs, fbn]
  obtain ⟨⟨a, c2⟩, e2, a0, a1, ok2⟩ := sip_ok (n := n) ok1' (many := m) m0 (by omega) (by omega)
  have a0' : 0 ≤ a := a0
  have a1' : a < m := a1
  simp only [e2, bs]
  rw [rng1_eq (n := 1 + a) (by omega) (by omega)]
  simp only [bs]
  obtain ⟨r, e3, l3, q3, c3⟩ := compS_ok (f := fun (x_443 : Int) (s_468 : Cup) => (f__law_sip n s_468 5).bind fun y_474 => (atI ([2, 3, 4, 5, 6] : List Int) y_474.1).bind fun z => some (z, y_474.2)) CupOk (fun z => 2 ≤ z ∧ z ≤ 11) (xs := rngL 0 (1 + a)) (s := c2) (fun x _ s hs => by
    obtain ⟨y, e4, y0, y1, c4⟩ := sip_ok (n := n) hs (many := 5) (by decide) (by decide) (by omega)
    obtain ⟨k, hk⟩ := Int.eq_ofNat_of_zero_le y0
    rw [e4, bs, hk]
    have hk5 : k < ([2, 3, 4, 5, 6] : List Int).length := by show k < 5; omega
    rw [atI_nat hk5, bs]
    refine ⟨_, rfl, ?_, c4⟩
    have : k = 0 ∨ k = 1 ∨ k = 2 ∨ k = 3 ∨ k = 4 := by omega
    show 2 ≤ ([2, 3, 4, 5, 6] : List Int)[k] ∧ ([2, 3, 4, 5, 6] : List Int)[k] ≤ 11
    clear e4 hk a1' e2 y1 h4 h3 h2 h1 h0
    rcases this with z | z | z | z | z <;> subst z <;> exact ⟨by simp, by simp⟩) ok2
  rw [show compS (fun (x_443 : Int) (s_468 : Cup) => (f__law_sip n s_468 5).bind fun y_474 => (atI ([2, 3, 4, 5, 6] : List Int) y_474.1).bind fun z => some (z, y_474.2)) (rngL 0 (1 + a)) c2 = some r from e3]
  simp only [bs]
  rw [rngL_length] at l3
  rw [fits_eq (by rw [sizeLine_eq]; omega)]
  simp only [bs]
  obtain ⟨r2, e4, g4, ok4⟩ := glue_ok c3 (sizes := r.1) q3 (by intro z; rw [z] at l3; simp at l3; omega) (by omega) hn
  rw [e4]
  simp only [bs, fbr, frr]
  exact ⟨_, rfl, g4, ok4⟩
end Mx
/-! M17: the law k83. Own work. -/
namespace Mx
open PySem PySem.Spec L2 Rf K83
theorem log2_lt31 {x : Int} (h0 : 0 ≤ x) (h1 : x < 2147483648) : x.natAbs.log2 < 31 := by
  by_cases h : x.natAbs = 0
  · rw [h]; decide
  · rw [Nat.log2_lt h]
    omega
theorem pmulW_sm {x y : Int} (h0 : 0 ≤ x) (h1 : x < 2147483648) (k0 : 0 ≤ y) (k1 : y < 2147483648) : pmulW x y = some (x * y) := by
  refine if_pos ?_
  have := log2_lt31 h0 h1
  have := log2_lt31 k0 k1
  show _ + _ < _
  omega
theorem p18 : ppow 10 18 = some (10 ^ 18) := by decide +kernel
theorem p60 : ppow 10 60 = some (10 ^ 60) := by decide +kernel
theorem p120 : pmulW (10 ^ 60) (10 ^ 60) = some (10 ^ 120) := by decide +kernel
theorem p180 : pmulW (10 ^ 120) (10 ^ 60) = some (10 ^ 180) := by decide +kernel
theorem p240 : pmulW (10 ^ 180) (10 ^ 60) = some (10 ^ 240) := by decide +kernel
theorem pos240 : (0 : Int) < 10 ^ 240 := by decide +kernel
theorem cup_ok (ns : List Int) (hl : ns.length ≤ 63) : ∃ c, f__law_cup ns = some c ∧ CupOk c := by
  unfold f__law_cup m__law_cup
  simp only [bs, mps, bass, bmap, mapb]
  obtain ⟨m, em, hm, hm2⟩ : ∃ m : Nat, (if 57 < (ns.length : Int) then 57 else (ns.length : Int)) = (m : Int) ∧ m ≤ 57 ∧ m ≤ ns.length := by
    by_cases q : 57 < (ns.length : Int)
    · exact ⟨57, by rw [if_pos q]; rfl, Nat.le_refl _, by omega⟩
    · exact ⟨ns.length, by rw [if_neg q], by omega, Nat.le_refl _⟩
  rw [em, rng1_eq (by omega) (by omega)]
  simp only [bs]
  refine foldO_ex (fun pre g => (∀ x, x ∈ g.1 → 0 ≤ x) ∧ 0 ≤ g.2 ∧ g.2 < 2147483587 ∧ g.1.length ≤ pre.length) ⟨fun x h => (List.not_mem_nil h).elim, by decide, by decide, Nat.le_refl _⟩ (fun pre x post g e ⟨g1, g2, g3, g4⟩ => ?_) fun g ⟨g1, g2, g3, g4⟩ => ?_
  · have hx : x = (pre.length : Int) := by
      have h : (rngL 0 (m : Int))[pre.length]? = some x := by rw [e]; simp
      have := rngL_get h
      omega
    have hlen : pre.length < m := by
      have := congrArg List.length e
      rw [rngL_length] at this
      simp at this
      omega
    subst hx
    rw [atI_nat (show pre.length < ns.length by omega)]
    simp only [bs]
    generalize ns[pre.length] = v
    rw [pmulW_sm g2 (by omega) (by decide) (by decide)]
    simp only [bs]
    rw [pmod_eq (j := 999961) (by decide)]
    simp only [bs]
    have h0 := Int.emod_nonneg (if v < 0 then -v else v) (show (999961 : Int) ≠ 0 by decide)
    have h1 := Int.emod_lt_of_pos (if v < 0 then -v else v) (show (0 : Int) < 999961 by decide)
    rw [pmulW_sm h0 (by omega) (by decide) (by decide)]
    simp only [bs]
    rw [pmulW_sm (x := 43) (by decide) (by decide) (by omega) (by omega)]
    simp only [bs]
    rw [pmod_eq (j := 2147483587) (by decide)]
    simp only [bs, p18]
    have r0 := Int.emod_nonneg (g.2 * 16807 + (if v < 0 then -v else v) % 999961 * 43 + 43 * (pre.length : Int)) (show (2147483587 : Int) ≠ 0 by decide)
    have r1 := Int.emod_lt_of_pos (g.2 * 16807 + (if v < 0 then -v else v) % 999961 * 43 + 43 * (pre.length : Int)) (show (0 : Int) < 2147483587 by decide)
    by_cases q : (10 : Int) ^ 18 ≤ if v < 0 then -v else v
    · rw [decide_eq_true q]
      simp only [if_true, p60, bs, p120, p180, p240]
      rw [pmod_eq pos240]
      simp only [bs]
      rw [lapp_eq (by rw [sizeLine_eq]; omega)]
      simp only [bs]
      refine ⟨_, rfl, fun y hy => ?_, r0, r1, by simp; omega⟩
      rcases List.mem_append.mp hy with z | z
      · exact g1 y z
      · rw [List.mem_singleton] at z
        rw [z]
        exact Int.emod_nonneg _ (Int.ne_of_gt pos240)
    · rw [decide_eq_false q]
      simp only [Bool.false_eq_true, if_false, bs]
      exact ⟨_, rfl, g1, r0, r1, by simp; omega⟩
  · rw [frr]
    refine ⟨_, rfl, g1, ?_, ?_⟩
    · show 0 ≤ g.2 + 1
      omega
    · rw [rngL_length] at g4
      show g.1.length ≤ 57
      omega
/-! ### by hand on the tetrahedron -/
abbrev tetra : List (List Int) := [[0, 2, 4], [1, 6, 8], [3, 9, 10], [5, 11, 7]]
theorem tetra_firsts : ((f__law_firsts 40 (stp tetra) 0).map fun D => (dget D 9, (rngL 0 12).map fun y => (((dget D y).getD ("" : Str)).length : Int))) = some (some ("trt" : Str), [0, 1, 1, 2, 2, 3, 2, 3, 3, 3, 4, 4]) := by decide +kernel
theorem tetra_in : In 12 0 := ⟨by decide, by decide⟩
theorem tetra_words {n : Nat} (hn : 100 ≤ n) : f_first_word n tetra 0 9 = some ("trt" : Str) ∧ f_word_steps n tetra 0 = some [0, 1, 1, 2, 2, 3, 2, 3, 3, 3, 4, 4] := by
  obtain ⟨D, eD, cD, lD⟩ := firsts_ok tetra_good.sd tetra_in (n := 40) (by decide)
  obtain ⟨E, eE, cE, nE, lE⟩ := first_words_ok tetra_good.sd tetra_in (n := n) (by omega)
  have t := tetra_firsts
  rw [eD, mps] at t
  obtain ⟨t1, t2⟩ := Prod.mk.inj (Option.some.inj t)
  have same : ∀ y, In 12 y → dget E y = dget D y := fun y hy => by
    obtain ⟨v, ev⟩ := cD.total tetra_good.conn tetra_in hy
    obtain ⟨w, ew⟩ := cE.total tetra_good.conn tetra_in hy
    rw [ev, ew, cD.unique cE ev ew]
  constructor
  · unfold f_first_word m_first_word
    simp only [bs, mps, bass, bmap, mapb, eE, same 9 ⟨by decide, by decide⟩, t1, frr]
  · unfold f_word_steps m_word_steps
    simp only [bs, mps, bass, bmap, mapb, eE, tetra_good.sd.sides]
    rw [compO_map (fun y => (((dget D y).getD "").length : Int)) fun y hy => ?_]
    · simp only [bs]
      rw [show (rngL 0 ((12 : Nat) : Int)) = rngL 0 12 from rfl, t2]
      rfl
    · have hy' := mem_rngL.mp hy
      rw [same y hy']
      obtain ⟨v, ev⟩ := cD.total tetra_good.conn tetra_in hy'
      rw [ev, bs]
      have := (lD y v ev).2
      unfold slen
      rw [if_pos (by rw [sizeLine_eq]; omega)]
      rfl
def rtB (w : Str) : Bool := w.cps.toList.all fun c => decide (c = 114) || decide (c = 116)
theorem W_of {w : Str} (h : rtB w = true) : W w := fun c hc => by
  have := List.all_eq_true.mp h c hc
  simpa using this
theorem tetra_like1 : f_are_like_words tetra "trtrtr" "" = some true := by
  rw [tetra_good.sd.likes (W_of (by decide +kernel)) (W_of (by decide +kernel))]
  decide +kernel
theorem tetra_like2 : f_are_like_words tetra "trtr" "" = some false := by
  rw [tetra_good.sd.likes (W_of (by decide +kernel)) (W_of (by decide +kernel))]
  decide +kernel
theorem tetra_back : f_word_back tetra "tr" = some ("rtt" : Str) := by
  rw [back_ok tetra_good.sz (W_of (by decide +kernel)) (by decide +kernel) (by decide +kernel)]
  decide +kernel
theorem plain1 : ((smul "r" 2).bind fun a => scat "rttrrttr" a) = some ("rttrrttrrr" : Str) := by decide +kernel
theorem plain2 : f_plain_word "rttrrttrrr" = some ("rttttr" : Str) := by
  rw [plain_ok (by decide +kernel)]
  decide +kernel
theorem plain3 : f_plain_word "" = some ("" : Str) := by
  rw [plain_ok (by decide +kernel)]
  decide +kernel
theorem k83_all {n : Nat} (hn : 40000 ≤ n) (ns : List Int) (hl : ns.length ≤ 63) : f_law n ns = some true := by
  unfold f_law m_law
  simp only [bs, mps, bass, bmap, mapb]
  suffices H : ∃ r, _ = some r ∧ r = true by
    obtain ⟨r, e, q⟩ := H
    rw [q] at e
    exact e
  obtain ⟨c, e1, ok1⟩ := cup_ok ns hl
  rw [e1, bs, rng1_eq (by decide) (by decide), bs]
  refine foldX_ex (fun _ g => CupOk g) ok1 (fun pre x post g e hg => ?_) fun g hg => ?_
  · obtain ⟨⟨s, c1⟩, e2, ⟨N, G⟩, ok2⟩ := solid_ok hg (m := 6) (by decide) (by decide) (n := n) (by omega)
    obtain ⟨⟨b, c2⟩, e3, hb, ok3⟩ := scene_ok G.sd G.sz G.conn G.pos G.few ok2 hn
    have hb' : b = true := hb
    subst hb'
    rw [e2, bs]
    simp only [e3, bs, Bool.not_true, Bool.false_eq_true, if_false, bs, fbn]
    exact ⟨_, rfl, ok3⟩
  · rw [fbn]
    obtain ⟨⟨s, c1⟩, e2, ⟨N, G⟩, ok2⟩ := solid_ok hg (m := 4) (by decide) (by decide) (n := n) (by omega)
    have ok2' : CupOk c1 := ok2
    have G' : Good s N := G
    have hN := G'.sd.small
    have hp := G'.pos
    rw [e2, bs]
    simp only [steps_ok G'.sd, bs]
    obtain ⟨⟨w0, c2⟩, e3, hw0, hl0, ok3, _⟩ := word_ok (n := n) ok2' (m := 301) (by decide) (by decide) (by omega)
    have hw0' : rt w0.cps.toList := hw0
    have hl0' : w0.cps.toList.length < 800 := hl0
    rw [e3, bs]
    obtain ⟨w, e4, q4⟩ := scut_pre (w := w0) (i := 300) (by decide) (by omega)
    have hw : W w := by show rt _; rw [q4]; exact rt_take hw0' _
    have hl : w.cps.toList.length ≤ 300 := by rw [q4, List.length_take]; exact Nat.min_le_left _ _
    simp only [e4, bs, dget_stp_t, bps_len G'.sd]
    obtain ⟨⟨x, c3⟩, e5, x0, x1, ok4⟩ := sip_ok (n := n) ok3 (many := (N : Int)) (by omega) (by omega) (by omega)
    have hx : In N x := ⟨x0, x1⟩
    have ok4' : CupOk c3 := ok4
    rw [e5, bs]
    simp only [G'.sd.wordside hx hw, bs]
    rw [G'.sd.lead hx hw, bs, same_I (by omega), bs, plain_ok (w := w) (by omega), bs, law_plain_ok (w := w) (by omega), bs, same_S (by omega), mps]
    simp only [Bool.not_true, Bool.false_eq_true, if_false, bs, fbn]
    rw [common_ok G'.sz G'.few (by omega), bs]
    obtain ⟨w4, e6, q6⟩ := scut_pre (w := w) (i := 4) (by decide) (by omega)
    have hw4 : W w4 := by show rt _; rw [q6]; exact rt_take hw _
    have hl4 : w4.cps.toList.length ≤ 4 := by rw [q6, List.length_take]; exact Nat.min_le_left _ _
    have backs : (if decide ((Lc s : Int) < 61) = true then (scut w none (some 4)).bind fun a => (f_word_back s a).bind fun a => (scut w none (some 4)).bind fun a_5 => (f__law_back n s a_5).bind fun a_6 => Option.map not (f__law_same n (Dt.enc (A := isS) a) (Dt.enc (A := isS) a_6)) else some false) = some false := by
      by_cases q : (Lc s : Int) < 61
      · rw [decide_eq_true q, if_pos rfl, e6, bs, back_ok G'.sz hw4 (by omega) (by omega), bs, bs, lawback_ok G'.sz G'.few (by omega) hw4 (by omega) (by omega), bs, same_S (by omega), mps]
        rfl
      · rw [decide_eq_false q]
        rfl
    rw [backs]
    simp only [Bool.false_eq_true, if_false, bs, fbn]
    obtain ⟨t1, t2⟩ := tetra_words (n := n) (by omega)
    rw [t1, bs, same_S (by omega), bs]
    simp only [Bool.not_true, Bool.false_eq_true, if_false]
    rw [t2, bs, same_T (by omega) _ (by decide), mps]
    simp only [Bool.not_true, Bool.false_eq_true, if_false, bs, fbn]
    rw [tetra_like1, bs]
    simp only [decide_true, Bool.not_true, Bool.false_eq_true, if_false]
    rw [tetra_like2, bs]
    simp only [decide_true, Bool.not_true, Bool.false_eq_true, if_false, bs, fbn]
    rw [tetra_back, bs, same_S (by omega), bs]
    simp only [Bool.not_true, Bool.false_eq_true, if_false]
    have pl1 := plain1
    obtain ⟨u, eu, eu2⟩ := Option.bind_eq_some_iff.mp pl1
    rw [eu, bs, eu2, bs, plain2, bs, same_S (by omega), bs]
    simp only [Bool.not_true, Bool.false_eq_true, if_false]
    rw [plain3, bs, same_S (by omega), mps]
    simp only [Bool.not_true, Bool.false_eq_true, if_false, bs, fbn]
    obtain ⟨⟨y, c4⟩, e7, y0, y1, ok5⟩ := sip_ok (n := n) ok4' (many := 13) (by decide) (by decide) (by omega)
    have ok5' : CupOk c4 := ok5
    simp only [e7, bs]
    by_cases q : y = 2
    · rw [decide_eq_false (fun z => z q)]
      simp only [Bool.false_eq_true, if_false, bs, fbn]
      rw [rng1_eq (n := 30) (by decide) (by decide), bs]
      obtain ⟨r, e8, l8, q8, ok8⟩ := compS_ok (f := fun (x_836 : Int) (s_862 : Cup) => (f__law_sip n s_862 2).bind fun y_864 => some (3 + y_864.1, y_864.2)) CupOk (fun z => 2 ≤ z ∧ z ≤ 11) (xs := rngL 0 30) (s := c4) (fun x _ s hs => by
        obtain ⟨z, e9, z0, z1, c9⟩ := sip_ok (n := n) hs (many := 2) (by decide) (by decide) (by omega)
        rw [e9, bs]
        refine ⟨_, rfl, ?_, c9⟩
        show 2 ≤ 3 + z.1 ∧ 3 + z.1 ≤ 11
        omega) ok5'
      rw [e8, bs]
      rw [rngL_length] at l8
      have l8' : r.1.length = 30 := by rw [l8]; decide
      rw [fits_eq (by rw [sizeLine_eq]; omega), bs]
      obtain ⟨⟨s2, c5⟩, e9, ⟨N2, G2⟩, ok9⟩ := glue_ok ok8 (sizes := r.1) q8 (by intro z; rw [z] at l8'; simp at l8') (by omega) (n := n) (by omega)
      rw [e9, bs]
      obtain ⟨⟨b, c6⟩, e10, hb, ok10⟩ := scene_ok G2.sd G2.sz G2.conn G2.pos G2.few ok9 hn
      have hb' : b = true := hb
      subst hb'
      simp only [e10, bs, frr]
      exact ⟨_, rfl, rfl⟩
    · rw [decide_eq_true (show y ≠ 2 from q)]
      simp only [if_true, bs, fbr, frr]
      exact ⟨_, rfl, rfl⟩
end Mx
theorem K83.k83_true : ∀ ns : List Int, ns.length ≤ 63 → K83.f_law 100000 ns = some true := fun ns h => Mx.k83_all (by decide) ns h
open PySem PySem.W PyProof.Rows
set_option maxRecDepth 100000 in
set_option maxHeartbeats 0 in
theorem PySem.Challenge.cw_rolledtrue_k83_whole_words_holds : PySem.Challenge.rw_rolledtrue_k83_whole_words.Holds := by
  w_on; o_law; k_head; (case hw => w_witness2)
  k_fill
  refine L2.walk_of (l := PySem.Challenge.rw_rolledtrue_k83_whole_words) (n := 63) (k := 7) (x := "script") (CX := fun _ => L2.CX0) (sp := fun w => K83.spEnd _) rfl (by decide) rfl ⟨rfl, by decide, by decide⟩ (fun w h Y => PySem.W.kIn_of Y) ?F (fun _ _ a ns hl _ hS => ⟨a, ns, rfl, hS, hl, fun _ => rfl⟩) (fun _ _ _ _ _ h => h)
  case F =>
    intro w mg fa h KX G hmg
    refine' K83.all_mk KX G hmg K83.k83_true ?a0 ?l0 ?c0 ?k0 ?a1 ?l1 ?c1 ?k1 ?a2 ?l2 ?c2 ?k2 ?a3 ?l3 ?c3 ?k3 ?a4 ?l4 ?c4 ?k4 ?a5 ?l5 ?c5 ?k5 ?a6 ?l6 ?c6 ?k6 ?a7 ?l7 ?c7 ?k7 ?a8 ?l8 ?c8 ?k8 ?a9 ?l9 ?c9 ?k9 ?a10 ?l10 ?c10 ?k10 ?a11 ?l11 ?c11 ?k11 ?a12 ?l12 ?c12 ?k12 ?a13 ?l13 ?c13 ?k13 ?a14 ?l14 ?c14 ?k14 ?a15 ?l15 ?c15 ?k15 ?a16 ?l16 ?c16 ?k16 ?a17 ?l17 ?c17 ?k17 ?a18 ?l18 ?c18 ?k18 ?a19 ?l19 ?c19 ?k19 ?a20 ?l20 ?c20 ?k20 ?a21 ?l21 ?c21 ?k21 ?a22 ?l22 ?c22 ?k22 ?a23 ?l23 ?c23 ?k23 ?a24 ?l24 ?c24 ?k24 ?a25 ?l25 ?c25 ?k25 ?a26 ?l26 ?c26 ?k26 ?a27 ?l27 ?c27 ?k27 ?a28 ?l28 ?c28 ?k28 ?a29 ?l29 ?c29 ?k29 ?a30 ?l30 ?c30 ?k30 ?a31 ?l31 ?c31 ?k31 ?a32 ?l32 ?c32 ?k32 ?a33 ?l33 ?c33 ?k33 ?z_abs ?z_bool ?z_dict ?z_enumerate ?z_gcd ?z_int ?z_isinstance ?z_len ?z_list ?z_min ?z_range ?z_sorted ?z_str ?z_sum ?z_tuple
    (case a0 => k_is); (case l0 => k_is); (case c0 => k_is); (case k0 => k_is); (case a1 => k_is); (case l1 => k_is); (case c1 => k_is); (case k1 => k_is); (case a2 => k_is); (case l2 => k_is); (case c2 => k_is); (case k2 => k_is); (case a3 => k_is); (case l3 => k_is); (case c3 => k_is); (case k3 => k_is); (case a4 => k_is); (case l4 => k_is); (case c4 => k_is); (case k4 => k_is); (case a5 => k_is); (case l5 => k_is); (case c5 => k_is); (case k5 => k_is); (case a6 => k_is); (case l6 => k_is); (case c6 => k_is); (case k6 => k_is); (case a7 => k_is); (case l7 => k_is); (case c7 => k_is); (case k7 => k_is); (case a8 => k_is); (case l8 => k_is); (case c8 => k_is); (case k8 => k_is); (case a9 => k_is); (case l9 => k_is); (case c9 => k_is); (case k9 => k_is); (case a10 => k_is); (case l10 => k_is); (case c10 => k_is); (case k10 => k_is); (case a11 => k_is); (case l11 => k_is); (case c11 => k_is); (case k11 => k_is); (case a12 => k_is); (case l12 => k_is); (case c12 => k_is); (case k12 => k_is); (case a13 => k_is); (case l13 => k_is); (case c13 => k_is); (case k13 => k_is); (case a14 => k_is); (case l14 => k_is); (case c14 => k_is); (case k14 => k_is); (case a15 => k_is); (case l15 => k_is); (case c15 => k_is); (case k15 => k_is); (case a16 => k_is); (case l16 => k_is); (case c16 => k_is); (case k16 => k_is); (case a17 => k_is); (case l17 => k_is); (case c17 => k_is); (case k17 => k_is); (case a18 => k_is); (case l18 => k_is); (case c18 => k_is); (case k18 => k_is); (case a19 => k_is); (case l19 => k_is); (case c19 => k_is); (case k19 => k_is); (case a20 => k_is); (case l20 => k_is); (case c20 => k_is); (case k20 => k_is); (case a21 => k_is); (case l21 => k_is); (case c21 => k_is); (case k21 => k_is); (case a22 => k_is); (case l22 => k_is); (case c22 => k_is); (case k22 => k_is); (case a23 => k_is); (case l23 => k_is); (case c23 => k_is); (case k23 => k_is); (case a24 => k_is); (case l24 => k_is); (case c24 => k_is); (case k24 => k_is); (case a25 => k_is); (case l25 => k_is); (case c25 => k_is); (case k25 => k_is); (case a26 => k_is); (case l26 => k_is); (case c26 => k_is); (case k26 => k_is); (case a27 => k_is); (case l27 => k_is); (case c27 => k_is); (case k27 => k_is); (case a28 => k_is); (case l28 => k_is); (case c28 => k_is); (case k28 => k_is); (case a29 => k_is); (case l29 => k_is); (case c29 => k_is); (case k29 => k_is); (case a30 => k_is); (case l30 => k_is); (case c30 => k_is); (case k30 => k_is); (case a31 => k_is); (case l31 => k_is); (case c31 => k_is); (case k31 => k_is); (case a32 => k_is); (case l32 => k_is); (case c32 => k_is); (case k32 => k_is); (case a33 => k_is); (case l33 => k_is); (case c33 => k_is); (case k33 => k_is); (case z_abs => k_is); (case z_bool => k_is); (case z_dict => k_is); (case z_enumerate => k_is); (case z_gcd => k_is); (case z_int => k_is); (case z_isinstance => k_is); (case z_len => k_is); (case z_list => k_is); (case z_min => k_is); (case z_range => k_is); (case z_sorted => k_is); (case z_str => k_is); (case z_sum => k_is); (case z_tuple => k_is)
